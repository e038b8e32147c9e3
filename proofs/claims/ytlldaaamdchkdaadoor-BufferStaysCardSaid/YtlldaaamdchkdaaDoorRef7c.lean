/- The document's Replace; whether a buffer is what it must be. -/
import Derived.Test.YtlldaaamdchkdaaDoorRef7b
set_option linter.unusedSimpArgs false
set_option linter.unusedVariables false
namespace Go.Proofs.YtlldaaamdchkdaaDoor
open Go.RowKit
theorem movedP_bd {pt i j m n : Int} (h : 0 ≤ i ∧ i ≤ j ∧ j ≤ n) (hp : 0 ≤ pt ∧ pt ≤ n) (hm : 0 ≤ m) : 0 ≤ movedP pt i j m ∧ movedP pt i j m ≤ n - (j - i) + m := by
  unfold movedP
  by_cases h1 : j < pt
  · rw [if_pos h1]; omega
  · rw [if_neg h1]
    by_cases h2 : i ≤ pt
    · rw [if_pos h2]; omega
    · rw [if_neg h2]; omega
theorem movedM_bd {mk i j m n : Int} (h : 0 ≤ i ∧ i ≤ j ∧ j ≤ n) (hp : -1 ≤ mk ∧ mk ≤ n) (hm : 0 ≤ m) : -1 ≤ movedM mk i j m ∧ movedM mk i j m ≤ n - (j - i) + m := by
  unfold movedM
  by_cases h1 : j < mk
  · rw [if_pos h1]; omega
  · rw [if_neg h1]
    by_cases h2 : i < mk
    · rw [if_pos h2]; omega
    · rw [if_neg h2]; omega
theorem movedP_ref {pt i j n : Int} (h : ¬ (i ≤ pt ∧ pt ≤ j)) : (if j < pt then pt + n - (j - i) else pt) = movedP pt i j n := by
  unfold movedP
  by_cases h1 : j < pt
  · rw [if_pos h1, if_pos h1]; omega
  · rw [if_neg h1, if_neg h1, if_neg (by omega)]
theorem movedM_ref {mk i j n : Int} (h : ¬ (i < mk ∧ mk ≤ j)) : (if j < mk then mk + n - (j - i) else mk) = movedM mk i j n := by
  unfold movedM
  by_cases h1 : j < mk
  · rw [if_pos h1, if_pos h1]; omega
  · rw [if_neg h1, if_neg h1, if_neg (by omega)]
section
variable {w0 w : World} {F : HP} {p : Nat} {L : List Int} {pt mk x : Int} {v : Value} {l : List Int}
theorem ref_replace_bad {i j : Int} (H : Holds w0 w (RefRep p L pt mk • F)) (hr : FRdI w0 F .i32 v l) (hb : i < 0 ∨ L.length < i ∨ j < i ∨ L.length < j) :
    Ret Tryd.prog 20 #[.pointer (some ⟨p, 0, none⟩), .int .i64 i, .int .i64 j, v] w fun v' w' => v' = .tuple #[.agg (edCells 0 (.slice none 0 0) (.slice none 0 0)), .int .i64 70] ∧ Holds w0 w' (RefRep p L pt mk • F) := by
  obtain ⟨a, c, rfl, _, _, _⟩ := (hr w H.right).open
  obtain ⟨aL, cL, g1, g2, g3, hc1, hc2, HB⟩ := H.ref
  refine ret_enter Tryd.func20 rfl Tryd.ntmps20 (Nat.le_of_ble_eq_true rfl) ?_
  dsimp only [slots0, Nat.reduceAdd]
  refine wc_seq ?_
  refine wc_region ?_
  refine wl_eff (e_alloc HB Tryd.zeroValue24) (ltn rfl) ?_
  rintro _ w1 ⟨b1, rfl, H1⟩
  refine wl_val (r_assign rfl) (ltn rfl) ?_
  refine wl_nil ?_
  refine wq_seq ?_
  refine wc_seq ?_
  refine wc_seq ?_
  refine wc_region ?_
  refine wl_val (r_move rfl) (ltn rfl) ?_
  refine wl_val (r_move rfl) (ltn rfl) ?_
  refine wl_eff (e_call (r_call rfl Tryd.func54 rfl rfl) (ref_place_ret H1.swap.get.2)) (ltn rfl) ?_
  rintro _ _ ⟨rfl, rfl⟩
  refine wl_val (r_not rfl) (ltn rfl) ?_
  refine wl_split rfl (ltn rfl) (fun h1 => ?_) (fun h1 => ?_)
  · (try simp only [beq_iff_eq, bne_iff_ne, ne_eq, decide_eq_true_eq, decide_eq_false_iff_not, beq_eq_false_iff_ne, bne_eq_false_iff_eq, Bool.not_eq_true', Bool.not_eq_false', Bool.not_eq_eq_eq_not, Bool.not_true, Bool.not_false, gt_iff_lt, ge_iff_le, Int.not_lt, Int.not_le] at h1)
    try (exfalso; first | contradiction | omega)
    all_goals
      refine wl_no rfl rfl rfl (ltn rfl) ?_
      refine wl_no rfl rfl rfl (ltn rfl) ?_
      refine wl_no rfl rfl rfl (ltn rfl) ?_
      refine wl_no rfl rfl rfl (ltn rfl) ?_
      refine wl_val (r_pick_t rfl rfl) (ltn rfl) ?_
      refine wl_val (r_move rfl) (ltn rfl) ?_
      refine wl_no rfl rfl rfl (ltn rfl) ?_
      refine wl_no rfl rfl rfl (ltn rfl) ?_
      refine wl_no rfl rfl rfl (ltn rfl) ?_
      refine wl_val (r_pick_t rfl rfl) (ltn rfl) ?_
      refine wl_nil ?_
      refine wq_seq ?_
      refine wc_cond_t rfl ?_
      refine wc_seq ?_
      refine wc_region ?_
      refine wl_val (r_build (pl := #[(0, 1), (1, 1), (2, 1)]) (edCells 0 (.slice none 0 0) (.slice none 0 0)) Tryd.underlying24 Tryd.zeroValue24 (fun w => by kernel_rfl) rfl (by kernel_rfl)) (ltn rfl) ?_
      refine wl_eff0 (e_store_whole (cs := edCells 0 (.slice none 0 0) (.slice none 0 0)) H1 Tryd.sizeOf24 rfl rfl rfl rfl (ed_ones rfl rfl)) ?_
      rintro _ w3 H3
      refine wl_val (r_assign rfl) (ltn rfl) ?_
      refine wl_nil ?_
      refine wq_seq ?_
      refine wc_ret ?_
      refine wq_then_ret ?_
      refine wq_endCT (.inl rfl) Tryd.results20 rfl rfl Tryd.underlying24 rfl (by rw [show (Tryd.prog.info? 24).map (·.size) = some 3 from by kernel_rfl]; rfl) H3.get.2 ?_
      exact ⟨rfl, Holds.mk_ref g1 g2 g3 H3.right⟩
  · (try simp only [beq_iff_eq, bne_iff_ne, ne_eq, decide_eq_true_eq, decide_eq_false_iff_not, beq_eq_false_iff_ne, bne_eq_false_iff_eq, Bool.not_eq_true', Bool.not_eq_false', Bool.not_eq_eq_eq_not, Bool.not_true, Bool.not_false, gt_iff_lt, ge_iff_le, Int.not_lt, Int.not_le] at h1)
    try (exfalso; first | contradiction | omega)
    all_goals
      refine wl_yes rfl rfl ?_
      refine wl_val (r_move rfl) (ltn rfl) ?_
      refine wl_yes rfl rfl ?_
      refine wl_val (r_move rfl) (ltn rfl) ?_
      refine wl_yes rfl rfl ?_
      refine wl_eff (e_call (r_call rfl Tryd.func54 rfl rfl) (ref_place_ret H1.swap.get.2)) (ltn rfl) ?_
      rintro _ _ ⟨rfl, rfl⟩
      refine wl_yes rfl rfl ?_
      refine wl_val (r_not rfl) (ltn rfl) ?_
      refine wl_val (r_pick_f rfl rfl) (ltn rfl) ?_
      refine wl_split rfl (ltn rfl) (fun h2 => ?_) (fun h2 => ?_)
      · (try simp only [beq_iff_eq, bne_iff_ne, ne_eq, decide_eq_true_eq, decide_eq_false_iff_not, beq_eq_false_iff_ne, bne_eq_false_iff_eq, Bool.not_eq_true', Bool.not_eq_false', Bool.not_eq_eq_eq_not, Bool.not_true, Bool.not_false, gt_iff_lt, ge_iff_le, Int.not_lt, Int.not_le] at h2)
        try (exfalso; first | contradiction | omega)
        all_goals
          refine wl_no rfl rfl rfl (ltn rfl) ?_
          refine wl_no rfl rfl rfl (ltn rfl) ?_
          refine wl_no rfl rfl rfl (ltn rfl) ?_
          refine wl_val (r_pick_t rfl rfl) (ltn rfl) ?_
          refine wl_nil ?_
          refine wq_seq ?_
          refine wc_cond_t rfl ?_
          refine wc_seq ?_
          refine wc_region ?_
          refine wl_val (r_build (pl := #[(0, 1), (1, 1), (2, 1)]) (edCells 0 (.slice none 0 0) (.slice none 0 0)) Tryd.underlying24 Tryd.zeroValue24 (fun w => by kernel_rfl) rfl (by kernel_rfl)) (ltn rfl) ?_
          refine wl_eff0 (e_store_whole (cs := edCells 0 (.slice none 0 0) (.slice none 0 0)) H1 Tryd.sizeOf24 rfl rfl rfl rfl (ed_ones rfl rfl)) ?_
          rintro _ w5 H5
          refine wl_val (r_assign rfl) (ltn rfl) ?_
          refine wl_nil ?_
          refine wq_seq ?_
          refine wc_ret ?_
          refine wq_then_ret ?_
          refine wq_endCT (.inl rfl) Tryd.results20 rfl rfl Tryd.underlying24 rfl (by rw [show (Tryd.prog.info? 24).map (·.size) = some 3 from by kernel_rfl]; rfl) H5.get.2 ?_
          exact ⟨rfl, Holds.mk_ref g1 g2 g3 H5.right⟩
      · (try simp only [beq_iff_eq, bne_iff_ne, ne_eq, decide_eq_true_eq, decide_eq_false_iff_not, beq_eq_false_iff_ne, bne_eq_false_iff_eq, Bool.not_eq_true', Bool.not_eq_false', Bool.not_eq_eq_eq_not, Bool.not_true, Bool.not_false, gt_iff_lt, ge_iff_le, Int.not_lt, Int.not_le] at h2)
        try (exfalso; first | contradiction | omega)
        all_goals
          refine wl_yes rfl rfl ?_
          refine wl_val (r_move rfl) (ltn rfl) ?_
          refine wl_yes rfl rfl ?_
          refine wl_val (r_move rfl) (ltn rfl) ?_
          refine wl_yes rfl rfl ?_
          refine wl_val (r_lss rfl rfl) (ltn rfl) ?_
          refine wl_val (r_pick_f rfl rfl) (ltn rfl) ?_
          refine wl_nil ?_
          refine wq_seq ?_
          refine wc_cond rfl (fun h3 => ?_) (fun h => by exfalso; (try simp only [beq_iff_eq, bne_iff_ne, ne_eq, decide_eq_true_eq, decide_eq_false_iff_not, beq_eq_false_iff_ne, bne_eq_false_iff_eq, Bool.not_eq_true', Bool.not_eq_false', Bool.not_eq_eq_eq_not, Bool.not_true, Bool.not_false, gt_iff_lt, ge_iff_le, Int.not_lt, Int.not_le] at h); first | contradiction | omega | (simp at h <;> omega))
          (try simp only [beq_iff_eq, bne_iff_ne, ne_eq, decide_eq_true_eq, decide_eq_false_iff_not, beq_eq_false_iff_ne, bne_eq_false_iff_eq, Bool.not_eq_true', Bool.not_eq_false', Bool.not_eq_eq_eq_not, Bool.not_true, Bool.not_false, gt_iff_lt, ge_iff_le, Int.not_lt, Int.not_le] at h3)
          refine wc_seq ?_
          refine wc_region ?_
          refine wl_val (r_build (pl := #[(0, 1), (1, 1), (2, 1)]) (edCells 0 (.slice none 0 0) (.slice none 0 0)) Tryd.underlying24 Tryd.zeroValue24 (fun w => by kernel_rfl) rfl (by kernel_rfl)) (ltn rfl) ?_
          refine wl_eff0 (e_store_whole (cs := edCells 0 (.slice none 0 0) (.slice none 0 0)) H1 Tryd.sizeOf24 rfl rfl rfl rfl (ed_ones rfl rfl)) ?_
          rintro _ w6 H6
          refine wl_val (r_assign rfl) (ltn rfl) ?_
          refine wl_nil ?_
          refine wq_seq ?_
          refine wc_ret ?_
          refine wq_then_ret ?_
          refine wq_endCT (.inl rfl) Tryd.results20 rfl rfl Tryd.underlying24 rfl (by rw [show (Tryd.prog.info? 24).map (·.size) = some 3 from by kernel_rfl]; rfl) H6.get.2 ?_
          exact ⟨rfl, Holds.mk_ref g1 g2 g3 H6.right⟩
theorem ref_replace_long {i j : Int} (H : Holds w0 w (RefRep p L pt mk • F)) (hr : FRdI w0 F .i32 v l) (hb : 0 ≤ i ∧ i ≤ j ∧ j ≤ L.length) (hl : 1024 < L.length - (j - i) + l.length) (hlb : l.length ≤ 140737488355328) :
    Ret Tryd.prog 20 #[.pointer (some ⟨p, 0, none⟩), .int .i64 i, .int .i64 j, v] w fun v' w' => v' = .tuple #[.agg (edCells 0 (.slice none 0 0) (.slice none 0 0)), .int .i64 3] ∧ Holds w0 w' (RefRep p L pt mk • F) := by
  obtain ⟨a, c, rfl, _, _, _⟩ := (hr w H.right).open
  obtain ⟨aL, cL, g1, g2, g3, hc1, hc2, HB⟩ := H.ref
  refine ret_enter Tryd.func20 rfl Tryd.ntmps20 (Nat.le_of_ble_eq_true rfl) ?_
  dsimp only [slots0, Nat.reduceAdd]
  refine wc_seq ?_
  refine wc_region ?_
  refine wl_eff (e_alloc HB Tryd.zeroValue24) (ltn rfl) ?_
  rintro _ w1 ⟨b1, rfl, H1⟩
  refine wl_val (r_assign rfl) (ltn rfl) ?_
  refine wl_nil ?_
  refine wq_seq ?_
  refine wc_seq ?_
  refine wc_seq ?_
  refine wc_region ?_
  refine wl_val (r_move rfl) (ltn rfl) ?_
  refine wl_val (r_move rfl) (ltn rfl) ?_
  refine wl_eff (e_call (r_call rfl Tryd.func54 rfl rfl) (ref_place_ret H1.swap.get.2)) (ltn rfl) ?_
  rintro _ _ ⟨rfl, rfl⟩
  refine wl_val (r_not rfl) (ltn rfl) ?_
  refine wl_split rfl (ltn rfl) (fun h1 => ?_) (fun h1 => ?_)
  · (try simp only [beq_iff_eq, bne_iff_ne, ne_eq, decide_eq_true_eq, decide_eq_false_iff_not, beq_eq_false_iff_ne, bne_eq_false_iff_eq, Bool.not_eq_true', Bool.not_eq_false', Bool.not_eq_eq_eq_not, Bool.not_true, Bool.not_false, gt_iff_lt, ge_iff_le, Int.not_lt, Int.not_le] at h1)
    try (exfalso; first | contradiction | omega)
    all_goals
      refine wl_no rfl rfl rfl (ltn rfl) ?_
      refine wl_no rfl rfl rfl (ltn rfl) ?_
      refine wl_no rfl rfl rfl (ltn rfl) ?_
      refine wl_no rfl rfl rfl (ltn rfl) ?_
      refine wl_val (r_pick_t rfl rfl) (ltn rfl) ?_
      refine wl_val (r_move rfl) (ltn rfl) ?_
      refine wl_no rfl rfl rfl (ltn rfl) ?_
      refine wl_no rfl rfl rfl (ltn rfl) ?_
      refine wl_no rfl rfl rfl (ltn rfl) ?_
      refine wl_val (r_pick_t rfl rfl) (ltn rfl) ?_
      refine wl_nil ?_
      refine wq_seq ?_
      refine wc_cond_t rfl ?_
      refine wc_seq ?_
      refine wc_region ?_
      refine wl_val (r_build (pl := #[(0, 1), (1, 1), (2, 1)]) (_) Tryd.underlying24 Tryd.zeroValue24 (fun w => by kernel_rfl) rfl (rfl)) (ltn rfl) ?_
      refine wl_eff0 (e_store H1 Tryd.sizeOf24 rfl rfl rfl (by decide)) ?_
      rintro _ w3 H3
      refine wl_val (r_assign rfl) (ltn rfl) ?_
      refine wl_nil ?_
      refine wq_seq ?_
      refine wc_ret ?_
      refine wq_then_ret ?_
      refine wq_endCT (.inl rfl) Tryd.results20 rfl rfl Tryd.underlying24 rfl (by rw [show (Tryd.prog.info? 24).map (·.size) = some 3 from by kernel_rfl]; rfl) H3.get.2 ?_
      exact ⟨rfl, Holds.mk_ref g1 g2 g3 H3.right⟩
  · (try simp only [beq_iff_eq, bne_iff_ne, ne_eq, decide_eq_true_eq, decide_eq_false_iff_not, beq_eq_false_iff_ne, bne_eq_false_iff_eq, Bool.not_eq_true', Bool.not_eq_false', Bool.not_eq_eq_eq_not, Bool.not_true, Bool.not_false, gt_iff_lt, ge_iff_le, Int.not_lt, Int.not_le] at h1)
    try (exfalso; first | contradiction | omega)
    all_goals
      refine wl_yes rfl rfl ?_
      refine wl_val (r_move rfl) (ltn rfl) ?_
      refine wl_yes rfl rfl ?_
      refine wl_val (r_move rfl) (ltn rfl) ?_
      refine wl_yes rfl rfl ?_
      refine wl_eff (e_call (r_call rfl Tryd.func54 rfl rfl) (ref_place_ret H1.swap.get.2)) (ltn rfl) ?_
      rintro _ _ ⟨rfl, rfl⟩
      refine wl_yes rfl rfl ?_
      refine wl_val (r_not rfl) (ltn rfl) ?_
      refine wl_val (r_pick_f rfl rfl) (ltn rfl) ?_
      refine wl_split rfl (ltn rfl) (fun h2 => ?_) (fun h2 => ?_)
      · (try simp only [beq_iff_eq, bne_iff_ne, ne_eq, decide_eq_true_eq, decide_eq_false_iff_not, beq_eq_false_iff_ne, bne_eq_false_iff_eq, Bool.not_eq_true', Bool.not_eq_false', Bool.not_eq_eq_eq_not, Bool.not_true, Bool.not_false, gt_iff_lt, ge_iff_le, Int.not_lt, Int.not_le] at h2)
        try (exfalso; first | contradiction | omega)
        all_goals
          refine wl_no rfl rfl rfl (ltn rfl) ?_
          refine wl_no rfl rfl rfl (ltn rfl) ?_
          refine wl_no rfl rfl rfl (ltn rfl) ?_
          refine wl_val (r_pick_t rfl rfl) (ltn rfl) ?_
          refine wl_nil ?_
          refine wq_seq ?_
          refine wc_cond_t rfl ?_
          refine wc_seq ?_
          refine wc_region ?_
          refine wl_val (r_build (pl := #[(0, 1), (1, 1), (2, 1)]) (_) Tryd.underlying24 Tryd.zeroValue24 (fun w => by kernel_rfl) rfl (rfl)) (ltn rfl) ?_
          refine wl_eff0 (e_store H1 Tryd.sizeOf24 rfl rfl rfl (by decide)) ?_
          rintro _ w5 H5
          refine wl_val (r_assign rfl) (ltn rfl) ?_
          refine wl_nil ?_
          refine wq_seq ?_
          refine wc_ret ?_
          refine wq_then_ret ?_
          refine wq_endCT (.inl rfl) Tryd.results20 rfl rfl Tryd.underlying24 rfl (by rw [show (Tryd.prog.info? 24).map (·.size) = some 3 from by kernel_rfl]; rfl) H5.get.2 ?_
          exact ⟨rfl, Holds.mk_ref g1 g2 g3 H5.right⟩
      · (try simp only [beq_iff_eq, bne_iff_ne, ne_eq, decide_eq_true_eq, decide_eq_false_iff_not, beq_eq_false_iff_ne, bne_eq_false_iff_eq, Bool.not_eq_true', Bool.not_eq_false', Bool.not_eq_eq_eq_not, Bool.not_true, Bool.not_false, gt_iff_lt, ge_iff_le, Int.not_lt, Int.not_le] at h2)
        try (exfalso; first | contradiction | omega)
        all_goals
          refine wl_yes rfl rfl ?_
          refine wl_val (r_move rfl) (ltn rfl) ?_
          refine wl_yes rfl rfl ?_
          refine wl_val (r_move rfl) (ltn rfl) ?_
          refine wl_yes rfl rfl ?_
          refine wl_val (r_lss rfl rfl) (ltn rfl) ?_
          refine wl_val (r_pick_f rfl rfl) (ltn rfl) ?_
          refine wl_nil ?_
          refine wq_seq ?_
          refine wc_cond rfl (fun h => by exfalso; (try simp only [beq_iff_eq, bne_iff_ne, ne_eq, decide_eq_true_eq, decide_eq_false_iff_not, beq_eq_false_iff_ne, bne_eq_false_iff_eq, Bool.not_eq_true', Bool.not_eq_false', Bool.not_eq_eq_eq_not, Bool.not_true, Bool.not_false, gt_iff_lt, ge_iff_le, Int.not_lt, Int.not_le] at h); first | contradiction | omega | (simp at h <;> omega)) (fun h3 => ?_)
          (try simp only [beq_iff_eq, bne_iff_ne, ne_eq, decide_eq_true_eq, decide_eq_false_iff_not, beq_eq_false_iff_ne, bne_eq_false_iff_eq, Bool.not_eq_true', Bool.not_eq_false', Bool.not_eq_eq_eq_not, Bool.not_true, Bool.not_false, gt_iff_lt, ge_iff_le, Int.not_lt, Int.not_le] at h3)
          refine wc_skip ?_
          refine wq_seq ?_
          refine wc_seq ?_
          refine wc_seq ?_
          refine wc_region ?_
          refine wl_val (r_move rfl) (ltn rfl) ?_
          refine wl_val (r_nil rfl) (ltn rfl) ?_
          refine wl_val ((by first | exact r_field0 0 Tryd.underlying44 rfl rfl Tryd.sizeOf22 (by decide) rfl | exact r_field 0 Tryd.underlying44 rfl rfl Tryd.sizeOf22 (by decide) rfl)) (ltn rfl) ?_
          refine wl_val (r_load (plain_of Tryd.underlying22 rfl) rfl (cell_of_blk H1.swap.get.2 rfl)) (ltn rfl) ?_
          refine wl_val (r_len Tryd.underlying22 rfl) (ltn rfl) ?_
          refine wl_val (r_move rfl) (ltn rfl) ?_
          refine wl_val (r_move rfl) (ltn rfl) ?_
          refine wl_val (r_sub rfl rfl (by omega)) (ltn rfl) ?_
          refine wl_val (r_sub rfl rfl (by omega)) (ltn rfl) ?_
          refine wl_val (r_move rfl) (ltn rfl) ?_
          refine wl_val (r_len Tryd.underlying22 rfl) (ltn rfl) ?_
          refine wl_val (r_add rfl rfl (by omega)) (ltn rfl) ?_
          refine wl_val (r_gtr rfl rfl) (ltn rfl) ?_
          refine wl_nil ?_
          refine wq_seq ?_
          refine wc_cond rfl (fun h4 => ?_) (fun h => by exfalso; (try simp only [beq_iff_eq, bne_iff_ne, ne_eq, decide_eq_true_eq, decide_eq_false_iff_not, beq_eq_false_iff_ne, bne_eq_false_iff_eq, Bool.not_eq_true', Bool.not_eq_false', Bool.not_eq_eq_eq_not, Bool.not_true, Bool.not_false, gt_iff_lt, ge_iff_le, Int.not_lt, Int.not_le] at h); first | contradiction | omega | (simp at h <;> omega))
          (try simp only [beq_iff_eq, bne_iff_ne, ne_eq, decide_eq_true_eq, decide_eq_false_iff_not, beq_eq_false_iff_ne, bne_eq_false_iff_eq, Bool.not_eq_true', Bool.not_eq_false', Bool.not_eq_eq_eq_not, Bool.not_true, Bool.not_false, gt_iff_lt, ge_iff_le, Int.not_lt, Int.not_le] at h4)
          refine wc_seq ?_
          refine wc_region ?_
          refine wl_val (r_build (pl := #[(0, 1), (1, 1), (2, 1)]) (edCells 0 (.slice none 0 0) (.slice none 0 0)) Tryd.underlying24 Tryd.zeroValue24 (fun w => by kernel_rfl) rfl (by kernel_rfl)) (ltn rfl) ?_
          refine wl_eff0 (e_store_whole (cs := edCells 0 (.slice none 0 0) (.slice none 0 0)) H1 Tryd.sizeOf24 rfl rfl rfl rfl (ed_ones rfl rfl)) ?_
          rintro _ w6 H6
          refine wl_val (r_assign rfl) (ltn rfl) ?_
          refine wl_nil ?_
          refine wq_seq ?_
          refine wc_ret ?_
          refine wq_then_ret ?_
          refine wq_endCT (.inl rfl) Tryd.results20 rfl rfl Tryd.underlying24 rfl (by rw [show (Tryd.prog.info? 24).map (·.size) = some 3 from by kernel_rfl]; rfl) H6.get.2 ?_
          exact ⟨rfl, Holds.mk_ref g1 g2 g3 H6.right⟩
theorem ref_replace_ok {i j : Nat} (H : Holds w0 w (RefRep p L pt mk • F)) (hr : FRdI w0 F .i32 v l) (hb : i ≤ j ∧ j ≤ L.length) (hl : (L.length : Int) - ((j : Int) - i) + l.length ≤ 1024) :
    Ret Tryd.prog 20 #[.pointer (some ⟨p, 0, none⟩), .int .i64 i, .int .i64 j, v] w fun v' w' => ∃ d s, v' = .tuple #[.agg (edCells i d s), .int .i64 0] ∧
      Holds w0 w' (RowI 21 .i32 d ((L.drop i).take (j - i)) • RowI 21 .i32 s l • RefRep p (L.take i ++ l ++ L.drop j) (movedP pt i j l.length) (movedM mk i j l.length) • F) := by
  obtain ⟨a, c, rfl, hac, hac2, _⟩ := (hr w H.right).open
  obtain ⟨aL, cL, g1, g2, g3, hc1, hc2, HB⟩ := H.ref
  have hlen' : (L.take i ++ l ++ L.drop j).length = L.length - (j - i) + l.length := by simp; omega
  have q1 := movedP_bd (pt := pt) (i := i) (j := j) (m := l.length) (n := L.length) (by omega) g2 (by omega)
  have q2 := movedM_bd (mk := mk) (i := i) (j := j) (m := l.length) (n := L.length) (by omega) g3 (by omega)
  have hdl : ((L.drop i).take (j - i)).length = j - i := by simp; omega
  refine ret_enter Tryd.func20 rfl Tryd.ntmps20 (Nat.le_of_ble_eq_true rfl) ?_
  dsimp only [slots0, Nat.reduceAdd]
  refine wc_seq ?_
  refine wc_region ?_
  refine wl_eff (e_alloc HB Tryd.zeroValue24) (ltn rfl) ?_
  rintro _ w1 ⟨b1, rfl, H1⟩
  refine wl_val (r_assign rfl) (ltn rfl) ?_
  refine wl_nil ?_
  refine wq_seq ?_
  refine wc_seq ?_
  refine wc_seq ?_
  refine wc_region ?_
  refine wl_val (r_move rfl) (ltn rfl) ?_
  refine wl_val (r_move rfl) (ltn rfl) ?_
  refine wl_eff (e_call (r_call rfl Tryd.func54 rfl rfl) (ref_place_ret H1.swap.get.2)) (ltn rfl) ?_
  rintro _ _ ⟨rfl, rfl⟩
  refine wl_val (r_not rfl) (ltn rfl) ?_
  refine wl_split rfl (ltn rfl) (fun h1 => ?_) (fun h1 => ?_)
  · (try simp only [beq_iff_eq, bne_iff_ne, ne_eq, decide_eq_true_eq, decide_eq_false_iff_not, beq_eq_false_iff_ne, bne_eq_false_iff_eq, Bool.not_eq_true', Bool.not_eq_false', Bool.not_eq_eq_eq_not, Bool.not_true, Bool.not_false, gt_iff_lt, ge_iff_le, Int.not_lt, Int.not_le] at h1)
    try (exfalso; first | contradiction | omega)
    all_goals
      refine wl_no rfl rfl rfl (ltn rfl) ?_
      refine wl_no rfl rfl rfl (ltn rfl) ?_
      refine wl_no rfl rfl rfl (ltn rfl) ?_
      refine wl_no rfl rfl rfl (ltn rfl) ?_
      refine wl_val (r_pick_t rfl rfl) (ltn rfl) ?_
      refine wl_val (r_move rfl) (ltn rfl) ?_
      refine wl_no rfl rfl rfl (ltn rfl) ?_
      refine wl_no rfl rfl rfl (ltn rfl) ?_
      refine wl_no rfl rfl rfl (ltn rfl) ?_
      refine wl_val (r_pick_t rfl rfl) (ltn rfl) ?_
      refine wl_nil ?_
      refine wq_seq ?_
      refine wc_cond_t rfl ?_
      refine wc_seq ?_
      refine wc_region ?_
      refine wl_val (r_build (pl := #[(0, 1), (1, 1), (2, 1)]) (_) Tryd.underlying24 Tryd.zeroValue24 (fun w => by kernel_rfl) rfl (rfl)) (ltn rfl) ?_
      refine wl_eff0 (e_store H1 Tryd.sizeOf24 rfl rfl rfl (by decide)) ?_
      rintro _ w3 H3
      refine wl_val (r_assign rfl) (ltn rfl) ?_
      refine wl_nil ?_
      refine wq_seq ?_
      refine wc_ret ?_
      refine wq_then_ret ?_
      refine wq_endCT (.inl rfl) Tryd.results20 rfl rfl Tryd.underlying24 rfl (by rw [show (Tryd.prog.info? 24).map (·.size) = some 3 from by kernel_rfl]; rfl) H3.get.2 ?_
      refine ⟨_, _, rfl, ?_⟩
      try rw [show movedP pt i j l.length = (i : Int) + l.length from by unfold movedP; rw [if_neg (by omega), if_pos (by omega)]] at q1 ⊢
      try rw [show movedM mk i j l.length = (i : Int) from by unfold movedM; rw [if_neg (by omega), if_pos (by omega)]] at q2 ⊢
      exact (Holds.mk_ref (by omega) (by omega) (by omega) H3.right).r4.right.d3.swap
  · (try simp only [beq_iff_eq, bne_iff_ne, ne_eq, decide_eq_true_eq, decide_eq_false_iff_not, beq_eq_false_iff_ne, bne_eq_false_iff_eq, Bool.not_eq_true', Bool.not_eq_false', Bool.not_eq_eq_eq_not, Bool.not_true, Bool.not_false, gt_iff_lt, ge_iff_le, Int.not_lt, Int.not_le] at h1)
    try (exfalso; first | contradiction | omega)
    all_goals
      refine wl_yes rfl rfl ?_
      refine wl_val (r_move rfl) (ltn rfl) ?_
      refine wl_yes rfl rfl ?_
      refine wl_val (r_move rfl) (ltn rfl) ?_
      refine wl_yes rfl rfl ?_
      refine wl_eff (e_call (r_call rfl Tryd.func54 rfl rfl) (ref_place_ret H1.swap.get.2)) (ltn rfl) ?_
      rintro _ _ ⟨rfl, rfl⟩
      refine wl_yes rfl rfl ?_
      refine wl_val (r_not rfl) (ltn rfl) ?_
      refine wl_val (r_pick_f rfl rfl) (ltn rfl) ?_
      refine wl_split rfl (ltn rfl) (fun h2 => ?_) (fun h2 => ?_)
      · (try simp only [beq_iff_eq, bne_iff_ne, ne_eq, decide_eq_true_eq, decide_eq_false_iff_not, beq_eq_false_iff_ne, bne_eq_false_iff_eq, Bool.not_eq_true', Bool.not_eq_false', Bool.not_eq_eq_eq_not, Bool.not_true, Bool.not_false, gt_iff_lt, ge_iff_le, Int.not_lt, Int.not_le] at h2)
        try (exfalso; first | contradiction | omega)
        all_goals
          refine wl_no rfl rfl rfl (ltn rfl) ?_
          refine wl_no rfl rfl rfl (ltn rfl) ?_
          refine wl_no rfl rfl rfl (ltn rfl) ?_
          refine wl_val (r_pick_t rfl rfl) (ltn rfl) ?_
          refine wl_nil ?_
          refine wq_seq ?_
          refine wc_cond_t rfl ?_
          refine wc_seq ?_
          refine wc_region ?_
          refine wl_val (r_build (pl := #[(0, 1), (1, 1), (2, 1)]) (_) Tryd.underlying24 Tryd.zeroValue24 (fun w => by kernel_rfl) rfl (rfl)) (ltn rfl) ?_
          refine wl_eff0 (e_store H1 Tryd.sizeOf24 rfl rfl rfl (by decide)) ?_
          rintro _ w5 H5
          refine wl_val (r_assign rfl) (ltn rfl) ?_
          refine wl_nil ?_
          refine wq_seq ?_
          refine wc_ret ?_
          refine wq_then_ret ?_
          refine wq_endCT (.inl rfl) Tryd.results20 rfl rfl Tryd.underlying24 rfl (by rw [show (Tryd.prog.info? 24).map (·.size) = some 3 from by kernel_rfl]; rfl) H5.get.2 ?_
          refine ⟨_, _, rfl, ?_⟩
          try rw [show movedP pt i j l.length = (i : Int) + l.length from by unfold movedP; rw [if_neg (by omega), if_pos (by omega)]] at q1 ⊢
          try rw [show movedM mk i j l.length = (i : Int) from by unfold movedM; rw [if_neg (by omega), if_pos (by omega)]] at q2 ⊢
          exact (Holds.mk_ref (by omega) (by omega) (by omega) H5.right).r4.right.d3.swap
      · (try simp only [beq_iff_eq, bne_iff_ne, ne_eq, decide_eq_true_eq, decide_eq_false_iff_not, beq_eq_false_iff_ne, bne_eq_false_iff_eq, Bool.not_eq_true', Bool.not_eq_false', Bool.not_eq_eq_eq_not, Bool.not_true, Bool.not_false, gt_iff_lt, ge_iff_le, Int.not_lt, Int.not_le] at h2)
        try (exfalso; first | contradiction | omega)
        all_goals
          refine wl_yes rfl rfl ?_
          refine wl_val (r_move rfl) (ltn rfl) ?_
          refine wl_yes rfl rfl ?_
          refine wl_val (r_move rfl) (ltn rfl) ?_
          refine wl_yes rfl rfl ?_
          refine wl_val (r_lss rfl rfl) (ltn rfl) ?_
          refine wl_val (r_pick_f rfl rfl) (ltn rfl) ?_
          refine wl_nil ?_
          refine wq_seq ?_
          refine wc_cond rfl (fun h => by exfalso; (try simp only [beq_iff_eq, bne_iff_ne, ne_eq, decide_eq_true_eq, decide_eq_false_iff_not, beq_eq_false_iff_ne, bne_eq_false_iff_eq, Bool.not_eq_true', Bool.not_eq_false', Bool.not_eq_eq_eq_not, Bool.not_true, Bool.not_false, gt_iff_lt, ge_iff_le, Int.not_lt, Int.not_le] at h); first | contradiction | omega | (simp at h <;> omega)) (fun h3 => ?_)
          (try simp only [beq_iff_eq, bne_iff_ne, ne_eq, decide_eq_true_eq, decide_eq_false_iff_not, beq_eq_false_iff_ne, bne_eq_false_iff_eq, Bool.not_eq_true', Bool.not_eq_false', Bool.not_eq_eq_eq_not, Bool.not_true, Bool.not_false, gt_iff_lt, ge_iff_le, Int.not_lt, Int.not_le] at h3)
          refine wc_skip ?_
          refine wq_seq ?_
          refine wc_seq ?_
          refine wc_seq ?_
          refine wc_region ?_
          refine wl_val (r_move rfl) (ltn rfl) ?_
          refine wl_val (r_nil rfl) (ltn rfl) ?_
          refine wl_val ((by first | exact r_field0 0 Tryd.underlying44 rfl rfl Tryd.sizeOf22 (by decide) rfl | exact r_field 0 Tryd.underlying44 rfl rfl Tryd.sizeOf22 (by decide) rfl)) (ltn rfl) ?_
          refine wl_val (r_load (plain_of Tryd.underlying22 rfl) rfl (cell_of_blk H1.swap.get.2 rfl)) (ltn rfl) ?_
          refine wl_val (r_len Tryd.underlying22 rfl) (ltn rfl) ?_
          refine wl_val (r_move rfl) (ltn rfl) ?_
          refine wl_val (r_move rfl) (ltn rfl) ?_
          refine wl_val (r_sub rfl rfl (by omega)) (ltn rfl) ?_
          refine wl_val (r_sub rfl rfl (by omega)) (ltn rfl) ?_
          refine wl_val (r_move rfl) (ltn rfl) ?_
          refine wl_val (r_len Tryd.underlying22 rfl) (ltn rfl) ?_
          refine wl_val (r_add rfl rfl (by omega)) (ltn rfl) ?_
          refine wl_val (r_gtr rfl rfl) (ltn rfl) ?_
          refine wl_nil ?_
          refine wq_seq ?_
          refine wc_cond rfl (fun h => by exfalso; (try simp only [beq_iff_eq, bne_iff_ne, ne_eq, decide_eq_true_eq, decide_eq_false_iff_not, beq_eq_false_iff_ne, bne_eq_false_iff_eq, Bool.not_eq_true', Bool.not_eq_false', Bool.not_eq_eq_eq_not, Bool.not_true, Bool.not_false, gt_iff_lt, ge_iff_le, Int.not_lt, Int.not_le] at h); first | contradiction | omega | (simp at h <;> omega)) (fun h4 => ?_)
          (try simp only [beq_iff_eq, bne_iff_ne, ne_eq, decide_eq_true_eq, decide_eq_false_iff_not, beq_eq_false_iff_ne, bne_eq_false_iff_eq, Bool.not_eq_true', Bool.not_eq_false', Bool.not_eq_eq_eq_not, Bool.not_true, Bool.not_false, gt_iff_lt, ge_iff_le, Int.not_lt, Int.not_le] at h4)
          refine wc_skip ?_
          refine wq_seq ?_
          refine wc_seq ?_
          refine wc_region ?_
          refine wl_val (r_assign rfl) (ltn rfl) ?_
          refine wl_val (r_assign rfl) (ltn rfl) ?_
          refine wl_val (r_assign rfl) (ltn rfl) ?_
          refine wl_nil ?_
          refine wq_seq ?_
          refine wc_seq ?_
          refine wc_region ?_
          refine wl_val (r_move rfl) (ltn rfl) ?_
          refine wl_val (r_move rfl) (ltn rfl) ?_
          refine wl_val (r_nil rfl) (ltn rfl) ?_
          refine wl_val ((by first | exact r_field0 0 Tryd.underlying44 rfl rfl Tryd.sizeOf22 (by decide) rfl | exact r_field 0 Tryd.underlying44 rfl rfl Tryd.sizeOf22 (by decide) rfl)) (ltn rfl) ?_
          refine wl_val (r_load (plain_of Tryd.underlying22 rfl) rfl (cell_of_blk H1.swap.get.2 rfl)) (ltn rfl) ?_
          refine wl_val (r_move rfl) (ltn rfl) ?_
          refine wl_val (r_move rfl) (ltn rfl) ?_
          refine wl_val (r_slice Tryd.underlying22 Tryd.sizeOf21 rfl rfl rfl (by omega)) (ltn rfl) ?_
          refine wl_eff (e_append_ints (l := []) (H1.row_nil none) (RdI.cut H1.rot.row_rd (i := i) (j := j) hb.1 hb.2) Tryd.underlying22 info_i32 rfl rfl (by simp only [List.length_nil]; omega) (by simp only [List.length_nil]; omega)) (ltn rfl) ?_
          rintro d w6 H6
          rw [List.nil_append] at H6
          obtain ⟨ad, cd, hd, _⟩ := (H6.row_rd).form
          subst hd
          refine wl_val (r_assign rfl) (ltn rfl) ?_
          refine wl_nil ?_
          refine wq_seq ?_
          refine wc_seq ?_
          refine wc_region ?_
          refine wl_val (r_move rfl) (ltn rfl) ?_
          refine wl_val (r_move rfl) (ltn rfl) ?_
          refine wl_eff (e_append_ints (l := []) (H6.row_nil none) (hr _ H6.right.right.right.right) Tryd.underlying22 info_i32 rfl rfl (by simp only [List.length_nil]; omega) (by simp only [List.length_nil]; omega)) (ltn rfl) ?_
          rintro s w7 H7
          rw [List.nil_append] at H7
          obtain ⟨ai, ci, hs, _⟩ := (H7.row_rd).form
          subst hs
          refine wl_val (r_assign rfl) (ltn rfl) ?_
          refine wl_nil ?_
          refine wq_seq ?_
          refine wc_seq ?_
          refine wc_region ?_
          refine wl_val (r_move rfl) (ltn rfl) ?_
          refine wl_val (r_move rfl) (ltn rfl) ?_
          refine wl_val (r_nil rfl) (ltn rfl) ?_
          refine wl_val ((by first | exact r_field0 0 Tryd.underlying44 rfl rfl Tryd.sizeOf22 (by decide) rfl | exact r_field 0 Tryd.underlying44 rfl rfl Tryd.sizeOf22 (by decide) rfl)) (ltn rfl) ?_
          refine wl_val (r_load (plain_of Tryd.underlying22 rfl) rfl (cell_of_blk H7.r4.get.2 rfl)) (ltn rfl) ?_
          refine wl_val (r_move rfl) (ltn rfl) ?_
          refine wl_val (r_slice Tryd.underlying22 Tryd.sizeOf21 rfl rfl rfl (by omega)) (ltn rfl) ?_
          refine wl_eff (e_append_ints (l := []) (H7.row_nil none) (RdI.upto H7.r5.row_rd (j := i) (by omega)) Tryd.underlying22 info_i32 rfl rfl (by simp; omega) (by simp; omega)) (ltn rfl) ?_
          rintro o1 w8 H8
          rw [List.nil_append] at H8
          refine wl_val (r_assign rfl) (ltn rfl) ?_
          refine wl_nil ?_
          refine wq_seq ?_
          refine wc_seq ?_
          refine wc_region ?_
          refine wl_val (r_move rfl) (ltn rfl) ?_
          refine wl_val (r_move rfl) (ltn rfl) ?_
          refine wl_eff (e_append_ints H8 (hr _ H8.right.right.right.right.right.right) Tryd.underlying22 info_i32 rfl rfl (by simp; omega) (by simp; omega)) (ltn rfl) ?_
          rintro o2 w9 H9
          refine wl_val (r_assign rfl) (ltn rfl) ?_
          refine wl_nil ?_
          refine wq_seq ?_
          refine wc_seq ?_
          refine wc_region ?_
          refine wl_val (r_move rfl) (ltn rfl) ?_
          refine wl_val (r_move rfl) (ltn rfl) ?_
          refine wl_val (r_nil rfl) (ltn rfl) ?_
          refine wl_val ((by first | exact r_field0 0 Tryd.underlying44 rfl rfl Tryd.sizeOf22 (by decide) rfl | exact r_field 0 Tryd.underlying44 rfl rfl Tryd.sizeOf22 (by decide) rfl)) (ltn rfl) ?_
          refine wl_val (r_load (plain_of Tryd.underlying22 rfl) rfl (cell_of_blk H9.r5.get.2 rfl)) (ltn rfl) ?_
          refine wl_val (r_move rfl) (ltn rfl) ?_
          refine wl_val (r_slice Tryd.underlying22 Tryd.sizeOf21 rfl rfl rfl (by omega)) (ltn rfl) ?_
          refine wl_eff (e_append_ints H9 (RdI.from H9.r6.row_rd (i := j) hb.2) Tryd.underlying22 info_i32 rfl rfl (by simp; omega) (by simp; omega)) (ltn rfl) ?_
          rintro o3 w10 H10
          obtain ⟨ao, co, ho, _⟩ := (H10.row_rd).form
          subst ho
          refine wl_val (r_assign rfl) (ltn rfl) ?_
          refine wl_nil ?_
          refine wq_seq ?_
          refine wc_seq ?_
          refine wc_seq ?_
          have HP := H10.r5
          refine wc_region ?_
          refine wl_val (r_move rfl) (ltn rfl) ?_
          refine wl_val (r_nil rfl) (ltn rfl) ?_
          refine wl_val ((by first | exact r_field0 1 Tryd.underlying44 rfl rfl Tryd.sizeOf3 (by decide) rfl | exact r_field 1 Tryd.underlying44 rfl rfl Tryd.sizeOf3 (by decide) rfl)) (ltn rfl) ?_
          refine wl_val (r_load (plain_of Tryd.underlying3 rfl) rfl (cell_of_blk HP.get.2 rfl)) (ltn rfl) ?_
          refine wl_val (r_move rfl) (ltn rfl) ?_
          refine wl_val (r_geq rfl rfl) (ltn rfl) ?_
          refine wl_split rfl (ltn rfl) (fun h5 => ?_) (fun h5 => ?_)
          · (try simp only [beq_iff_eq, bne_iff_ne, ne_eq, decide_eq_true_eq, decide_eq_false_iff_not, beq_eq_false_iff_ne, bne_eq_false_iff_eq, Bool.not_eq_true', Bool.not_eq_false', Bool.not_eq_eq_eq_not, Bool.not_true, Bool.not_false, gt_iff_lt, ge_iff_le, Int.not_lt, Int.not_le] at h5)
            try (exfalso; first | contradiction | omega)
            all_goals
              refine wl_yes rfl rfl ?_
              refine wl_val (r_move rfl) (ltn rfl) ?_
              refine wl_yes rfl rfl ?_
              refine wl_val (r_nil rfl) (ltn rfl) ?_
              refine wl_yes rfl rfl ?_
              refine wl_val ((by first | exact r_field0 1 Tryd.underlying44 rfl rfl Tryd.sizeOf3 (by decide) rfl | exact r_field 1 Tryd.underlying44 rfl rfl Tryd.sizeOf3 (by decide) rfl)) (ltn rfl) ?_
              refine wl_yes rfl rfl ?_
              refine wl_val (r_load (plain_of Tryd.underlying3 rfl) rfl (cell_of_blk HP.get.2 rfl)) (ltn rfl) ?_
              refine wl_yes rfl rfl ?_
              refine wl_val (r_move rfl) (ltn rfl) ?_
              refine wl_yes rfl rfl ?_
              refine wl_val (r_leq rfl rfl) (ltn rfl) ?_
              refine wl_val (r_pick_t rfl rfl) (ltn rfl) ?_
              refine wl_nil ?_
              refine wq_seq ?_
              refine wc_cond rfl (fun h6 => ?_) (fun h6 => ?_)
              · (try simp only [beq_iff_eq, bne_iff_ne, ne_eq, decide_eq_true_eq, decide_eq_false_iff_not, beq_eq_false_iff_ne, bne_eq_false_iff_eq, Bool.not_eq_true', Bool.not_eq_false', Bool.not_eq_eq_eq_not, Bool.not_true, Bool.not_false, gt_iff_lt, ge_iff_le, Int.not_lt, Int.not_le] at h6)
                try (exfalso; first | contradiction | omega)
                all_goals
                  
                  refine wc_region ?_
                  refine wl_val (r_move rfl) (ltn rfl) ?_
                  refine wl_val (r_move rfl) (ltn rfl) ?_
                  refine wl_val (r_move rfl) (ltn rfl) ?_
                  refine wl_val (r_len Tryd.underlying22 rfl) (ltn rfl) ?_
                  refine wl_val (r_add rfl rfl (by omega)) (ltn rfl) ?_
                  refine wl_val (r_nil rfl) (ltn rfl) ?_
                  refine wl_val ((by first | exact r_field0 1 Tryd.underlying44 rfl rfl Tryd.sizeOf3 (by decide) rfl | exact r_field 1 Tryd.underlying44 rfl rfl Tryd.sizeOf3 (by decide) rfl)) (ltn rfl) ?_
                  refine wl_eff0 (e_store HP Tryd.sizeOf3 rfl rfl rfl (by rw [ref_size]; decide)) ?_
                  rintro _ w11 H11
                  rw [ref_set_point] at H11
                  refine wl_nil ?_
                  refine wq_seq ?_
                  refine wc_seq ?_
                  refine wc_seq ?_
                  refine wc_region ?_
                  refine wl_val (r_move rfl) (ltn rfl) ?_
                  refine wl_val (r_nil rfl) (ltn rfl) ?_
                  refine wl_val ((by first | exact r_field0 2 Tryd.underlying44 rfl rfl Tryd.sizeOf3 (by decide) rfl | exact r_field 2 Tryd.underlying44 rfl rfl Tryd.sizeOf3 (by decide) rfl)) (ltn rfl) ?_
                  refine wl_val (r_load (plain_of Tryd.underlying3 rfl) rfl (cell_of_blk H11.get.2 rfl)) (ltn rfl) ?_
                  refine wl_val (r_move rfl) (ltn rfl) ?_
                  refine wl_val (r_gtr rfl rfl) (ltn rfl) ?_
                  refine wl_split rfl (ltn rfl) (fun h7 => ?_) (fun h7 => ?_)
                  · (try simp only [beq_iff_eq, bne_iff_ne, ne_eq, decide_eq_true_eq, decide_eq_false_iff_not, beq_eq_false_iff_ne, bne_eq_false_iff_eq, Bool.not_eq_true', Bool.not_eq_false', Bool.not_eq_eq_eq_not, Bool.not_true, Bool.not_false, gt_iff_lt, ge_iff_le, Int.not_lt, Int.not_le] at h7)
                    try (exfalso; first | contradiction | omega)
                    all_goals
                      refine wl_yes rfl rfl ?_
                      refine wl_val (r_move rfl) (ltn rfl) ?_
                      refine wl_yes rfl rfl ?_
                      refine wl_val (r_nil rfl) (ltn rfl) ?_
                      refine wl_yes rfl rfl ?_
                      refine wl_val ((by first | exact r_field0 2 Tryd.underlying44 rfl rfl Tryd.sizeOf3 (by decide) rfl | exact r_field 2 Tryd.underlying44 rfl rfl Tryd.sizeOf3 (by decide) rfl)) (ltn rfl) ?_
                      refine wl_yes rfl rfl ?_
                      refine wl_val (r_load (plain_of Tryd.underlying3 rfl) rfl (cell_of_blk H11.get.2 rfl)) (ltn rfl) ?_
                      refine wl_yes rfl rfl ?_
                      refine wl_val (r_move rfl) (ltn rfl) ?_
                      refine wl_yes rfl rfl ?_
                      refine wl_val (r_leq rfl rfl) (ltn rfl) ?_
                      refine wl_val (r_pick_t rfl rfl) (ltn rfl) ?_
                      refine wl_nil ?_
                      refine wq_seq ?_
                      refine wc_cond rfl (fun h8 => ?_) (fun h8 => ?_)
                      · (try simp only [beq_iff_eq, bne_iff_ne, ne_eq, decide_eq_true_eq, decide_eq_false_iff_not, beq_eq_false_iff_ne, bne_eq_false_iff_eq, Bool.not_eq_true', Bool.not_eq_false', Bool.not_eq_eq_eq_not, Bool.not_true, Bool.not_false, gt_iff_lt, ge_iff_le, Int.not_lt, Int.not_le] at h8)
                        try (exfalso; first | contradiction | omega)
                        all_goals
                          
                          refine wc_region ?_
                          refine wl_val (r_move rfl) (ltn rfl) ?_
                          refine wl_val (r_move rfl) (ltn rfl) ?_
                          refine wl_val (r_nil rfl) (ltn rfl) ?_
                          refine wl_val ((by first | exact r_field0 2 Tryd.underlying44 rfl rfl Tryd.sizeOf3 (by decide) rfl | exact r_field 2 Tryd.underlying44 rfl rfl Tryd.sizeOf3 (by decide) rfl)) (ltn rfl) ?_
                          refine wl_eff0 (e_store H11 Tryd.sizeOf3 rfl rfl rfl (by rw [ref_size]; decide)) ?_
                          rintro _ w12 H12
                          rw [ref_set_mark] at H12
                          refine wl_nil ?_
                          refine wq_seq ?_
                          refine wc_seq ?_
                          refine wc_region ?_
                          refine wl_val (r_move rfl) (ltn rfl) ?_
                          refine wl_val (r_move rfl) (ltn rfl) ?_
                          refine wl_val (r_nil rfl) (ltn rfl) ?_
                          refine wl_val ((by first | exact r_field0 0 Tryd.underlying44 rfl rfl Tryd.sizeOf22 (by decide) rfl | exact r_field 0 Tryd.underlying44 rfl rfl Tryd.sizeOf22 (by decide) rfl)) (ltn rfl) ?_
                          refine wl_eff0 (e_store H12 Tryd.sizeOf22 rfl rfl rfl (by rw [ref_size]; decide)) ?_
                          rintro _ w13 H13
                          rw [ref_set_l] at H13
                          refine wl_nil ?_
                          refine wq_seq ?_
                          refine wc_seq ?_
                          refine wc_region ?_
                          refine wl_val (r_move rfl) (ltn rfl) ?_
                          refine wl_val (r_move rfl) (ltn rfl) ?_
                          refine wl_val (r_move rfl) (ltn rfl) ?_
                          refine wl_val (r_build (pl := #[(0, 1), (1, 1), (2, 1)]) (edCells i (.slice ad ((L.drop i).take (j - i)).length cd) (.slice ai l.length ci)) Tryd.underlying24 Tryd.zeroValue24 (fun w => by kernel_rfl) rfl (by kernel_rfl)) (ltn rfl) ?_
                          refine wl_eff0 (e_store_whole (cs := edCells i (.slice ad ((L.drop i).take (j - i)).length cd) (.slice ai l.length ci)) H13.r5 Tryd.sizeOf24 rfl rfl rfl rfl (ed_ones rfl rfl)) ?_
                          rintro _ w14 H14
                          refine wl_val (r_assign rfl) (ltn rfl) ?_
                          refine wl_nil ?_
                          refine wq_seq ?_
                          refine wc_ret ?_
                          refine wq_endCT (.inl rfl) Tryd.results20 rfl rfl Tryd.underlying24 rfl (by rw [show (Tryd.prog.info? 24).map (·.size) = some 3 from by kernel_rfl]; rfl) H14.get.2 ?_
                          refine ⟨_, _, rfl, ?_⟩
                          try rw [show movedP pt i j l.length = (i : Int) + l.length from by unfold movedP; rw [if_neg (by omega), if_pos (by omega)]] at q1 ⊢
                          try rw [show movedM mk i j l.length = (i : Int) from by unfold movedM; rw [if_neg (by omega), if_pos (by omega)]] at q2 ⊢
                          exact (Holds.mk_ref (by omega) (by omega) (by omega) H14.right).r4.right.d3.swap
                      · (try simp only [beq_iff_eq, bne_iff_ne, ne_eq, decide_eq_true_eq, decide_eq_false_iff_not, beq_eq_false_iff_ne, bne_eq_false_iff_eq, Bool.not_eq_true', Bool.not_eq_false', Bool.not_eq_eq_eq_not, Bool.not_true, Bool.not_false, gt_iff_lt, ge_iff_le, Int.not_lt, Int.not_le] at h8)
                        try (exfalso; first | contradiction | omega)
                        all_goals
                          
                          refine wc_region ?_
                          refine wl_val (r_move rfl) (ltn rfl) ?_
                          refine wl_val (r_move rfl) (ltn rfl) ?_
                          refine wl_val (r_nil rfl) (ltn rfl) ?_
                          refine wl_val ((by first | exact r_field0 2 Tryd.underlying44 rfl rfl Tryd.sizeOf3 (by decide) rfl | exact r_field 2 Tryd.underlying44 rfl rfl Tryd.sizeOf3 (by decide) rfl)) (ltn rfl) ?_
                          refine wl_val (r_load (plain_of Tryd.underlying3 rfl) rfl (cell_of_blk H11.get.2 rfl)) (ltn rfl) ?_
                          refine wl_val (r_move rfl) (ltn rfl) ?_
                          refine wl_val (r_move rfl) (ltn rfl) ?_
                          refine wl_val (r_move rfl) (ltn rfl) ?_
                          refine wl_val (r_len Tryd.underlying22 rfl) (ltn rfl) ?_
                          refine wl_eff (e_call (r_call rfl Tryd.func55 rfl rfl) (ref_moved_ret (by omega) (by omega) (by omega) (by omega))) (ltn rfl) ?_
                          rintro _ _ ⟨rfl, rfl⟩
                          refine wl_val (r_nil rfl) (ltn rfl) ?_
                          refine wl_val ((by first | exact r_field0 2 Tryd.underlying44 rfl rfl Tryd.sizeOf3 (by decide) rfl | exact r_field 2 Tryd.underlying44 rfl rfl Tryd.sizeOf3 (by decide) rfl)) (ltn rfl) ?_
                          refine wl_eff0 (e_store H11 Tryd.sizeOf3 rfl rfl rfl (by rw [ref_size]; decide)) ?_
                          rintro _ w16 H16
                          rw [ref_set_mark, movedM_ref (by omega)] at H16
                          refine wl_nil ?_
                          refine wq_seq ?_
                          refine wc_seq ?_
                          refine wc_region ?_
                          refine wl_val (r_move rfl) (ltn rfl) ?_
                          refine wl_val (r_move rfl) (ltn rfl) ?_
                          refine wl_val (r_nil rfl) (ltn rfl) ?_
                          refine wl_val ((by first | exact r_field0 0 Tryd.underlying44 rfl rfl Tryd.sizeOf22 (by decide) rfl | exact r_field 0 Tryd.underlying44 rfl rfl Tryd.sizeOf22 (by decide) rfl)) (ltn rfl) ?_
                          refine wl_eff0 (e_store H16 Tryd.sizeOf22 rfl rfl rfl (by rw [ref_size]; decide)) ?_
                          rintro _ w17 H17
                          rw [ref_set_l] at H17
                          refine wl_nil ?_
                          refine wq_seq ?_
                          refine wc_seq ?_
                          refine wc_region ?_
                          refine wl_val (r_move rfl) (ltn rfl) ?_
                          refine wl_val (r_move rfl) (ltn rfl) ?_
                          refine wl_val (r_move rfl) (ltn rfl) ?_
                          refine wl_val (r_build (pl := #[(0, 1), (1, 1), (2, 1)]) (edCells i (.slice ad ((L.drop i).take (j - i)).length cd) (.slice ai l.length ci)) Tryd.underlying24 Tryd.zeroValue24 (fun w => by kernel_rfl) rfl (by kernel_rfl)) (ltn rfl) ?_
                          refine wl_eff0 (e_store_whole (cs := edCells i (.slice ad ((L.drop i).take (j - i)).length cd) (.slice ai l.length ci)) H17.r5 Tryd.sizeOf24 rfl rfl rfl rfl (ed_ones rfl rfl)) ?_
                          rintro _ w18 H18
                          refine wl_val (r_assign rfl) (ltn rfl) ?_
                          refine wl_nil ?_
                          refine wq_seq ?_
                          refine wc_ret ?_
                          refine wq_endCT (.inl rfl) Tryd.results20 rfl rfl Tryd.underlying24 rfl (by rw [show (Tryd.prog.info? 24).map (·.size) = some 3 from by kernel_rfl]; rfl) H18.get.2 ?_
                          refine ⟨_, _, rfl, ?_⟩
                          try rw [show movedP pt i j l.length = (i : Int) + l.length from by unfold movedP; rw [if_neg (by omega), if_pos (by omega)]] at q1 ⊢
                          try rw [show movedM mk i j l.length = (i : Int) from by unfold movedM; rw [if_neg (by omega), if_pos (by omega)]] at q2 ⊢
                          exact (Holds.mk_ref (by omega) (by omega) (by omega) H18.right).r4.right.d3.swap
                  · (try simp only [beq_iff_eq, bne_iff_ne, ne_eq, decide_eq_true_eq, decide_eq_false_iff_not, beq_eq_false_iff_ne, bne_eq_false_iff_eq, Bool.not_eq_true', Bool.not_eq_false', Bool.not_eq_eq_eq_not, Bool.not_true, Bool.not_false, gt_iff_lt, ge_iff_le, Int.not_lt, Int.not_le] at h7)
                    try (exfalso; first | contradiction | omega)
                    all_goals
                      refine wl_no rfl rfl rfl (ltn rfl) ?_
                      refine wl_no rfl rfl rfl (ltn rfl) ?_
                      refine wl_no rfl rfl rfl (ltn rfl) ?_
                      refine wl_no rfl rfl rfl (ltn rfl) ?_
                      refine wl_no rfl rfl rfl (ltn rfl) ?_
                      refine wl_no rfl rfl rfl (ltn rfl) ?_
                      refine wl_val (r_pick_f rfl rfl) (ltn rfl) ?_
                      refine wl_nil ?_
                      refine wq_seq ?_
                      refine wc_cond_f rfl ?_
                      refine wc_region ?_
                      refine wl_val (r_move rfl) (ltn rfl) ?_
                      refine wl_val (r_move rfl) (ltn rfl) ?_
                      refine wl_val (r_nil rfl) (ltn rfl) ?_
                      refine wl_val ((by first | exact r_field0 2 Tryd.underlying44 rfl rfl Tryd.sizeOf3 (by decide) rfl | exact r_field 2 Tryd.underlying44 rfl rfl Tryd.sizeOf3 (by decide) rfl)) (ltn rfl) ?_
                      refine wl_val (r_load (plain_of Tryd.underlying3 rfl) rfl (cell_of_blk H11.get.2 rfl)) (ltn rfl) ?_
                      refine wl_val (r_move rfl) (ltn rfl) ?_
                      refine wl_val (r_move rfl) (ltn rfl) ?_
                      refine wl_val (r_move rfl) (ltn rfl) ?_
                      refine wl_val (r_len Tryd.underlying22 rfl) (ltn rfl) ?_
                      refine wl_eff (e_call (r_call rfl Tryd.func55 rfl rfl) (ref_moved_ret (by omega) (by omega) (by omega) (by omega))) (ltn rfl) ?_
                      rintro _ _ ⟨rfl, rfl⟩
                      refine wl_val (r_nil rfl) (ltn rfl) ?_
                      refine wl_val ((by first | exact r_field0 2 Tryd.underlying44 rfl rfl Tryd.sizeOf3 (by decide) rfl | exact r_field 2 Tryd.underlying44 rfl rfl Tryd.sizeOf3 (by decide) rfl)) (ltn rfl) ?_
                      refine wl_eff0 (e_store H11 Tryd.sizeOf3 rfl rfl rfl (by rw [ref_size]; decide)) ?_
                      rintro _ w20 H20
                      rw [ref_set_mark, movedM_ref (by omega)] at H20
                      refine wl_nil ?_
                      refine wq_seq ?_
                      refine wc_seq ?_
                      refine wc_region ?_
                      refine wl_val (r_move rfl) (ltn rfl) ?_
                      refine wl_val (r_move rfl) (ltn rfl) ?_
                      refine wl_val (r_nil rfl) (ltn rfl) ?_
                      refine wl_val ((by first | exact r_field0 0 Tryd.underlying44 rfl rfl Tryd.sizeOf22 (by decide) rfl | exact r_field 0 Tryd.underlying44 rfl rfl Tryd.sizeOf22 (by decide) rfl)) (ltn rfl) ?_
                      refine wl_eff0 (e_store H20 Tryd.sizeOf22 rfl rfl rfl (by rw [ref_size]; decide)) ?_
                      rintro _ w21 H21
                      rw [ref_set_l] at H21
                      refine wl_nil ?_
                      refine wq_seq ?_
                      refine wc_seq ?_
                      refine wc_region ?_
                      refine wl_val (r_move rfl) (ltn rfl) ?_
                      refine wl_val (r_move rfl) (ltn rfl) ?_
                      refine wl_val (r_move rfl) (ltn rfl) ?_
                      refine wl_val (r_build (pl := #[(0, 1), (1, 1), (2, 1)]) (edCells i (.slice ad ((L.drop i).take (j - i)).length cd) (.slice ai l.length ci)) Tryd.underlying24 Tryd.zeroValue24 (fun w => by kernel_rfl) rfl (by kernel_rfl)) (ltn rfl) ?_
                      refine wl_eff0 (e_store_whole (cs := edCells i (.slice ad ((L.drop i).take (j - i)).length cd) (.slice ai l.length ci)) H21.r5 Tryd.sizeOf24 rfl rfl rfl rfl (ed_ones rfl rfl)) ?_
                      rintro _ w22 H22
                      refine wl_val (r_assign rfl) (ltn rfl) ?_
                      refine wl_nil ?_
                      refine wq_seq ?_
                      refine wc_ret ?_
                      refine wq_endCT (.inl rfl) Tryd.results20 rfl rfl Tryd.underlying24 rfl (by rw [show (Tryd.prog.info? 24).map (·.size) = some 3 from by kernel_rfl]; rfl) H22.get.2 ?_
                      refine ⟨_, _, rfl, ?_⟩
                      try rw [show movedP pt i j l.length = (i : Int) + l.length from by unfold movedP; rw [if_neg (by omega), if_pos (by omega)]] at q1 ⊢
                      try rw [show movedM mk i j l.length = (i : Int) from by unfold movedM; rw [if_neg (by omega), if_pos (by omega)]] at q2 ⊢
                      exact (Holds.mk_ref (by omega) (by omega) (by omega) H22.right).r4.right.d3.swap
              · (try simp only [beq_iff_eq, bne_iff_ne, ne_eq, decide_eq_true_eq, decide_eq_false_iff_not, beq_eq_false_iff_ne, bne_eq_false_iff_eq, Bool.not_eq_true', Bool.not_eq_false', Bool.not_eq_eq_eq_not, Bool.not_true, Bool.not_false, gt_iff_lt, ge_iff_le, Int.not_lt, Int.not_le] at h6)
                try (exfalso; first | contradiction | omega)
                all_goals
                  
                  refine wc_region ?_
                  refine wl_val (r_move rfl) (ltn rfl) ?_
                  refine wl_val (r_move rfl) (ltn rfl) ?_
                  refine wl_val (r_nil rfl) (ltn rfl) ?_
                  refine wl_val ((by first | exact r_field0 1 Tryd.underlying44 rfl rfl Tryd.sizeOf3 (by decide) rfl | exact r_field 1 Tryd.underlying44 rfl rfl Tryd.sizeOf3 (by decide) rfl)) (ltn rfl) ?_
                  refine wl_val (r_load (plain_of Tryd.underlying3 rfl) rfl (cell_of_blk HP.get.2 rfl)) (ltn rfl) ?_
                  refine wl_val (r_move rfl) (ltn rfl) ?_
                  refine wl_val (r_move rfl) (ltn rfl) ?_
                  refine wl_val (r_move rfl) (ltn rfl) ?_
                  refine wl_val (r_len Tryd.underlying22 rfl) (ltn rfl) ?_
                  refine wl_eff (e_call (r_call rfl Tryd.func55 rfl rfl) (ref_moved_ret (by omega) (by omega) (by omega) (by omega))) (ltn rfl) ?_
                  rintro _ _ ⟨rfl, rfl⟩
                  refine wl_val (r_nil rfl) (ltn rfl) ?_
                  refine wl_val ((by first | exact r_field0 1 Tryd.underlying44 rfl rfl Tryd.sizeOf3 (by decide) rfl | exact r_field 1 Tryd.underlying44 rfl rfl Tryd.sizeOf3 (by decide) rfl)) (ltn rfl) ?_
                  refine wl_eff0 (e_store HP Tryd.sizeOf3 rfl rfl rfl (by rw [ref_size]; decide)) ?_
                  rintro _ w24 H24
                  rw [ref_set_point, movedP_ref (by omega)] at H24
                  refine wl_nil ?_
                  refine wq_seq ?_
                  refine wc_seq ?_
                  refine wc_seq ?_
                  refine wc_region ?_
                  refine wl_val (r_move rfl) (ltn rfl) ?_
                  refine wl_val (r_nil rfl) (ltn rfl) ?_
                  refine wl_val ((by first | exact r_field0 2 Tryd.underlying44 rfl rfl Tryd.sizeOf3 (by decide) rfl | exact r_field 2 Tryd.underlying44 rfl rfl Tryd.sizeOf3 (by decide) rfl)) (ltn rfl) ?_
                  refine wl_val (r_load (plain_of Tryd.underlying3 rfl) rfl (cell_of_blk H24.get.2 rfl)) (ltn rfl) ?_
                  refine wl_val (r_move rfl) (ltn rfl) ?_
                  refine wl_val (r_gtr rfl rfl) (ltn rfl) ?_
                  refine wl_split rfl (ltn rfl) (fun h9 => ?_) (fun h9 => ?_)
                  · (try simp only [beq_iff_eq, bne_iff_ne, ne_eq, decide_eq_true_eq, decide_eq_false_iff_not, beq_eq_false_iff_ne, bne_eq_false_iff_eq, Bool.not_eq_true', Bool.not_eq_false', Bool.not_eq_eq_eq_not, Bool.not_true, Bool.not_false, gt_iff_lt, ge_iff_le, Int.not_lt, Int.not_le] at h9)
                    try (exfalso; first | contradiction | omega)
                    all_goals
                      refine wl_yes rfl rfl ?_
                      refine wl_val (r_move rfl) (ltn rfl) ?_
                      refine wl_yes rfl rfl ?_
                      refine wl_val (r_nil rfl) (ltn rfl) ?_
                      refine wl_yes rfl rfl ?_
                      refine wl_val ((by first | exact r_field0 2 Tryd.underlying44 rfl rfl Tryd.sizeOf3 (by decide) rfl | exact r_field 2 Tryd.underlying44 rfl rfl Tryd.sizeOf3 (by decide) rfl)) (ltn rfl) ?_
                      refine wl_yes rfl rfl ?_
                      refine wl_val (r_load (plain_of Tryd.underlying3 rfl) rfl (cell_of_blk H24.get.2 rfl)) (ltn rfl) ?_
                      refine wl_yes rfl rfl ?_
                      refine wl_val (r_move rfl) (ltn rfl) ?_
                      refine wl_yes rfl rfl ?_
                      refine wl_val (r_leq rfl rfl) (ltn rfl) ?_
                      refine wl_val (r_pick_t rfl rfl) (ltn rfl) ?_
                      refine wl_nil ?_
                      refine wq_seq ?_
                      refine wc_cond rfl (fun h10 => ?_) (fun h10 => ?_)
                      · (try simp only [beq_iff_eq, bne_iff_ne, ne_eq, decide_eq_true_eq, decide_eq_false_iff_not, beq_eq_false_iff_ne, bne_eq_false_iff_eq, Bool.not_eq_true', Bool.not_eq_false', Bool.not_eq_eq_eq_not, Bool.not_true, Bool.not_false, gt_iff_lt, ge_iff_le, Int.not_lt, Int.not_le] at h10)
                        try (exfalso; first | contradiction | omega)
                        all_goals
                          
                          refine wc_region ?_
                          refine wl_val (r_move rfl) (ltn rfl) ?_
                          refine wl_val (r_move rfl) (ltn rfl) ?_
                          refine wl_val (r_nil rfl) (ltn rfl) ?_
                          refine wl_val ((by first | exact r_field0 2 Tryd.underlying44 rfl rfl Tryd.sizeOf3 (by decide) rfl | exact r_field 2 Tryd.underlying44 rfl rfl Tryd.sizeOf3 (by decide) rfl)) (ltn rfl) ?_
                          refine wl_eff0 (e_store H24 Tryd.sizeOf3 rfl rfl rfl (by rw [ref_size]; decide)) ?_
                          rintro _ w25 H25
                          rw [ref_set_mark] at H25
                          refine wl_nil ?_
                          refine wq_seq ?_
                          refine wc_seq ?_
                          refine wc_region ?_
                          refine wl_val (r_move rfl) (ltn rfl) ?_
                          refine wl_val (r_move rfl) (ltn rfl) ?_
                          refine wl_val (r_nil rfl) (ltn rfl) ?_
                          refine wl_val ((by first | exact r_field0 0 Tryd.underlying44 rfl rfl Tryd.sizeOf22 (by decide) rfl | exact r_field 0 Tryd.underlying44 rfl rfl Tryd.sizeOf22 (by decide) rfl)) (ltn rfl) ?_
                          refine wl_eff0 (e_store H25 Tryd.sizeOf22 rfl rfl rfl (by rw [ref_size]; decide)) ?_
                          rintro _ w26 H26
                          rw [ref_set_l] at H26
                          refine wl_nil ?_
                          refine wq_seq ?_
                          refine wc_seq ?_
                          refine wc_region ?_
                          refine wl_val (r_move rfl) (ltn rfl) ?_
                          refine wl_val (r_move rfl) (ltn rfl) ?_
                          refine wl_val (r_move rfl) (ltn rfl) ?_
                          refine wl_val (r_build (pl := #[(0, 1), (1, 1), (2, 1)]) (edCells i (.slice ad ((L.drop i).take (j - i)).length cd) (.slice ai l.length ci)) Tryd.underlying24 Tryd.zeroValue24 (fun w => by kernel_rfl) rfl (by kernel_rfl)) (ltn rfl) ?_
                          refine wl_eff0 (e_store_whole (cs := edCells i (.slice ad ((L.drop i).take (j - i)).length cd) (.slice ai l.length ci)) H26.r5 Tryd.sizeOf24 rfl rfl rfl rfl (ed_ones rfl rfl)) ?_
                          rintro _ w27 H27
                          refine wl_val (r_assign rfl) (ltn rfl) ?_
                          refine wl_nil ?_
                          refine wq_seq ?_
                          refine wc_ret ?_
                          refine wq_endCT (.inl rfl) Tryd.results20 rfl rfl Tryd.underlying24 rfl (by rw [show (Tryd.prog.info? 24).map (·.size) = some 3 from by kernel_rfl]; rfl) H27.get.2 ?_
                          refine ⟨_, _, rfl, ?_⟩
                          try rw [show movedP pt i j l.length = (i : Int) + l.length from by unfold movedP; rw [if_neg (by omega), if_pos (by omega)]] at q1 ⊢
                          try rw [show movedM mk i j l.length = (i : Int) from by unfold movedM; rw [if_neg (by omega), if_pos (by omega)]] at q2 ⊢
                          exact (Holds.mk_ref (by omega) (by omega) (by omega) H27.right).r4.right.d3.swap
                      · (try simp only [beq_iff_eq, bne_iff_ne, ne_eq, decide_eq_true_eq, decide_eq_false_iff_not, beq_eq_false_iff_ne, bne_eq_false_iff_eq, Bool.not_eq_true', Bool.not_eq_false', Bool.not_eq_eq_eq_not, Bool.not_true, Bool.not_false, gt_iff_lt, ge_iff_le, Int.not_lt, Int.not_le] at h10)
                        try (exfalso; first | contradiction | omega)
                        all_goals
                          
                          refine wc_region ?_
                          refine wl_val (r_move rfl) (ltn rfl) ?_
                          refine wl_val (r_move rfl) (ltn rfl) ?_
                          refine wl_val (r_nil rfl) (ltn rfl) ?_
                          refine wl_val ((by first | exact r_field0 2 Tryd.underlying44 rfl rfl Tryd.sizeOf3 (by decide) rfl | exact r_field 2 Tryd.underlying44 rfl rfl Tryd.sizeOf3 (by decide) rfl)) (ltn rfl) ?_
                          refine wl_val (r_load (plain_of Tryd.underlying3 rfl) rfl (cell_of_blk H24.get.2 rfl)) (ltn rfl) ?_
                          refine wl_val (r_move rfl) (ltn rfl) ?_
                          refine wl_val (r_move rfl) (ltn rfl) ?_
                          refine wl_val (r_move rfl) (ltn rfl) ?_
                          refine wl_val (r_len Tryd.underlying22 rfl) (ltn rfl) ?_
                          refine wl_eff (e_call (r_call rfl Tryd.func55 rfl rfl) (ref_moved_ret (by omega) (by omega) (by omega) (by omega))) (ltn rfl) ?_
                          rintro _ _ ⟨rfl, rfl⟩
                          refine wl_val (r_nil rfl) (ltn rfl) ?_
                          refine wl_val ((by first | exact r_field0 2 Tryd.underlying44 rfl rfl Tryd.sizeOf3 (by decide) rfl | exact r_field 2 Tryd.underlying44 rfl rfl Tryd.sizeOf3 (by decide) rfl)) (ltn rfl) ?_
                          refine wl_eff0 (e_store H24 Tryd.sizeOf3 rfl rfl rfl (by rw [ref_size]; decide)) ?_
                          rintro _ w29 H29
                          rw [ref_set_mark, movedM_ref (by omega)] at H29
                          refine wl_nil ?_
                          refine wq_seq ?_
                          refine wc_seq ?_
                          refine wc_region ?_
                          refine wl_val (r_move rfl) (ltn rfl) ?_
                          refine wl_val (r_move rfl) (ltn rfl) ?_
                          refine wl_val (r_nil rfl) (ltn rfl) ?_
                          refine wl_val ((by first | exact r_field0 0 Tryd.underlying44 rfl rfl Tryd.sizeOf22 (by decide) rfl | exact r_field 0 Tryd.underlying44 rfl rfl Tryd.sizeOf22 (by decide) rfl)) (ltn rfl) ?_
                          refine wl_eff0 (e_store H29 Tryd.sizeOf22 rfl rfl rfl (by rw [ref_size]; decide)) ?_
                          rintro _ w30 H30
                          rw [ref_set_l] at H30
                          refine wl_nil ?_
                          refine wq_seq ?_
                          refine wc_seq ?_
                          refine wc_region ?_
                          refine wl_val (r_move rfl) (ltn rfl) ?_
                          refine wl_val (r_move rfl) (ltn rfl) ?_
                          refine wl_val (r_move rfl) (ltn rfl) ?_
                          refine wl_val (r_build (pl := #[(0, 1), (1, 1), (2, 1)]) (edCells i (.slice ad ((L.drop i).take (j - i)).length cd) (.slice ai l.length ci)) Tryd.underlying24 Tryd.zeroValue24 (fun w => by kernel_rfl) rfl (by kernel_rfl)) (ltn rfl) ?_
                          refine wl_eff0 (e_store_whole (cs := edCells i (.slice ad ((L.drop i).take (j - i)).length cd) (.slice ai l.length ci)) H30.r5 Tryd.sizeOf24 rfl rfl rfl rfl (ed_ones rfl rfl)) ?_
                          rintro _ w31 H31
                          refine wl_val (r_assign rfl) (ltn rfl) ?_
                          refine wl_nil ?_
                          refine wq_seq ?_
                          refine wc_ret ?_
                          refine wq_endCT (.inl rfl) Tryd.results20 rfl rfl Tryd.underlying24 rfl (by rw [show (Tryd.prog.info? 24).map (·.size) = some 3 from by kernel_rfl]; rfl) H31.get.2 ?_
                          refine ⟨_, _, rfl, ?_⟩
                          try rw [show movedP pt i j l.length = (i : Int) + l.length from by unfold movedP; rw [if_neg (by omega), if_pos (by omega)]] at q1 ⊢
                          try rw [show movedM mk i j l.length = (i : Int) from by unfold movedM; rw [if_neg (by omega), if_pos (by omega)]] at q2 ⊢
                          exact (Holds.mk_ref (by omega) (by omega) (by omega) H31.right).r4.right.d3.swap
                  · (try simp only [beq_iff_eq, bne_iff_ne, ne_eq, decide_eq_true_eq, decide_eq_false_iff_not, beq_eq_false_iff_ne, bne_eq_false_iff_eq, Bool.not_eq_true', Bool.not_eq_false', Bool.not_eq_eq_eq_not, Bool.not_true, Bool.not_false, gt_iff_lt, ge_iff_le, Int.not_lt, Int.not_le] at h9)
                    try (exfalso; first | contradiction | omega)
                    all_goals
                      refine wl_no rfl rfl rfl (ltn rfl) ?_
                      refine wl_no rfl rfl rfl (ltn rfl) ?_
                      refine wl_no rfl rfl rfl (ltn rfl) ?_
                      refine wl_no rfl rfl rfl (ltn rfl) ?_
                      refine wl_no rfl rfl rfl (ltn rfl) ?_
                      refine wl_no rfl rfl rfl (ltn rfl) ?_
                      refine wl_val (r_pick_f rfl rfl) (ltn rfl) ?_
                      refine wl_nil ?_
                      refine wq_seq ?_
                      refine wc_cond_f rfl ?_
                      refine wc_region ?_
                      refine wl_val (r_move rfl) (ltn rfl) ?_
                      refine wl_val (r_move rfl) (ltn rfl) ?_
                      refine wl_val (r_nil rfl) (ltn rfl) ?_
                      refine wl_val ((by first | exact r_field0 2 Tryd.underlying44 rfl rfl Tryd.sizeOf3 (by decide) rfl | exact r_field 2 Tryd.underlying44 rfl rfl Tryd.sizeOf3 (by decide) rfl)) (ltn rfl) ?_
                      refine wl_val (r_load (plain_of Tryd.underlying3 rfl) rfl (cell_of_blk H24.get.2 rfl)) (ltn rfl) ?_
                      refine wl_val (r_move rfl) (ltn rfl) ?_
                      refine wl_val (r_move rfl) (ltn rfl) ?_
                      refine wl_val (r_move rfl) (ltn rfl) ?_
                      refine wl_val (r_len Tryd.underlying22 rfl) (ltn rfl) ?_
                      refine wl_eff (e_call (r_call rfl Tryd.func55 rfl rfl) (ref_moved_ret (by omega) (by omega) (by omega) (by omega))) (ltn rfl) ?_
                      rintro _ _ ⟨rfl, rfl⟩
                      refine wl_val (r_nil rfl) (ltn rfl) ?_
                      refine wl_val ((by first | exact r_field0 2 Tryd.underlying44 rfl rfl Tryd.sizeOf3 (by decide) rfl | exact r_field 2 Tryd.underlying44 rfl rfl Tryd.sizeOf3 (by decide) rfl)) (ltn rfl) ?_
                      refine wl_eff0 (e_store H24 Tryd.sizeOf3 rfl rfl rfl (by rw [ref_size]; decide)) ?_
                      rintro _ w33 H33
                      rw [ref_set_mark, movedM_ref (by omega)] at H33
                      refine wl_nil ?_
                      refine wq_seq ?_
                      refine wc_seq ?_
                      refine wc_region ?_
                      refine wl_val (r_move rfl) (ltn rfl) ?_
                      refine wl_val (r_move rfl) (ltn rfl) ?_
                      refine wl_val (r_nil rfl) (ltn rfl) ?_
                      refine wl_val ((by first | exact r_field0 0 Tryd.underlying44 rfl rfl Tryd.sizeOf22 (by decide) rfl | exact r_field 0 Tryd.underlying44 rfl rfl Tryd.sizeOf22 (by decide) rfl)) (ltn rfl) ?_
                      refine wl_eff0 (e_store H33 Tryd.sizeOf22 rfl rfl rfl (by rw [ref_size]; decide)) ?_
                      rintro _ w34 H34
                      rw [ref_set_l] at H34
                      refine wl_nil ?_
                      refine wq_seq ?_
                      refine wc_seq ?_
                      refine wc_region ?_
                      refine wl_val (r_move rfl) (ltn rfl) ?_
                      refine wl_val (r_move rfl) (ltn rfl) ?_
                      refine wl_val (r_move rfl) (ltn rfl) ?_
                      refine wl_val (r_build (pl := #[(0, 1), (1, 1), (2, 1)]) (edCells i (.slice ad ((L.drop i).take (j - i)).length cd) (.slice ai l.length ci)) Tryd.underlying24 Tryd.zeroValue24 (fun w => by kernel_rfl) rfl (by kernel_rfl)) (ltn rfl) ?_
                      refine wl_eff0 (e_store_whole (cs := edCells i (.slice ad ((L.drop i).take (j - i)).length cd) (.slice ai l.length ci)) H34.r5 Tryd.sizeOf24 rfl rfl rfl rfl (ed_ones rfl rfl)) ?_
                      rintro _ w35 H35
                      refine wl_val (r_assign rfl) (ltn rfl) ?_
                      refine wl_nil ?_
                      refine wq_seq ?_
                      refine wc_ret ?_
                      refine wq_endCT (.inl rfl) Tryd.results20 rfl rfl Tryd.underlying24 rfl (by rw [show (Tryd.prog.info? 24).map (·.size) = some 3 from by kernel_rfl]; rfl) H35.get.2 ?_
                      refine ⟨_, _, rfl, ?_⟩
                      try rw [show movedP pt i j l.length = (i : Int) + l.length from by unfold movedP; rw [if_neg (by omega), if_pos (by omega)]] at q1 ⊢
                      try rw [show movedM mk i j l.length = (i : Int) from by unfold movedM; rw [if_neg (by omega), if_pos (by omega)]] at q2 ⊢
                      exact (Holds.mk_ref (by omega) (by omega) (by omega) H35.right).r4.right.d3.swap
          · (try simp only [beq_iff_eq, bne_iff_ne, ne_eq, decide_eq_true_eq, decide_eq_false_iff_not, beq_eq_false_iff_ne, bne_eq_false_iff_eq, Bool.not_eq_true', Bool.not_eq_false', Bool.not_eq_eq_eq_not, Bool.not_true, Bool.not_false, gt_iff_lt, ge_iff_le, Int.not_lt, Int.not_le] at h5)
            try (exfalso; first | contradiction | omega)
            all_goals
              refine wl_no rfl rfl rfl (ltn rfl) ?_
              refine wl_no rfl rfl rfl (ltn rfl) ?_
              refine wl_no rfl rfl rfl (ltn rfl) ?_
              refine wl_no rfl rfl rfl (ltn rfl) ?_
              refine wl_no rfl rfl rfl (ltn rfl) ?_
              refine wl_no rfl rfl rfl (ltn rfl) ?_
              refine wl_val (r_pick_f rfl rfl) (ltn rfl) ?_
              refine wl_nil ?_
              refine wq_seq ?_
              refine wc_cond_f rfl ?_
              refine wc_region ?_
              refine wl_val (r_move rfl) (ltn rfl) ?_
              refine wl_val (r_move rfl) (ltn rfl) ?_
              refine wl_val (r_nil rfl) (ltn rfl) ?_
              refine wl_val ((by first | exact r_field0 1 Tryd.underlying44 rfl rfl Tryd.sizeOf3 (by decide) rfl | exact r_field 1 Tryd.underlying44 rfl rfl Tryd.sizeOf3 (by decide) rfl)) (ltn rfl) ?_
              refine wl_val (r_load (plain_of Tryd.underlying3 rfl) rfl (cell_of_blk HP.get.2 rfl)) (ltn rfl) ?_
              refine wl_val (r_move rfl) (ltn rfl) ?_
              refine wl_val (r_move rfl) (ltn rfl) ?_
              refine wl_val (r_move rfl) (ltn rfl) ?_
              refine wl_val (r_len Tryd.underlying22 rfl) (ltn rfl) ?_
              refine wl_eff (e_call (r_call rfl Tryd.func55 rfl rfl) (ref_moved_ret (by omega) (by omega) (by omega) (by omega))) (ltn rfl) ?_
              rintro _ _ ⟨rfl, rfl⟩
              refine wl_val (r_nil rfl) (ltn rfl) ?_
              refine wl_val ((by first | exact r_field0 1 Tryd.underlying44 rfl rfl Tryd.sizeOf3 (by decide) rfl | exact r_field 1 Tryd.underlying44 rfl rfl Tryd.sizeOf3 (by decide) rfl)) (ltn rfl) ?_
              refine wl_eff0 (e_store HP Tryd.sizeOf3 rfl rfl rfl (by rw [ref_size]; decide)) ?_
              rintro _ w37 H37
              rw [ref_set_point, movedP_ref (by omega)] at H37
              refine wl_nil ?_
              refine wq_seq ?_
              refine wc_seq ?_
              refine wc_seq ?_
              refine wc_region ?_
              refine wl_val (r_move rfl) (ltn rfl) ?_
              refine wl_val (r_nil rfl) (ltn rfl) ?_
              refine wl_val ((by first | exact r_field0 2 Tryd.underlying44 rfl rfl Tryd.sizeOf3 (by decide) rfl | exact r_field 2 Tryd.underlying44 rfl rfl Tryd.sizeOf3 (by decide) rfl)) (ltn rfl) ?_
              refine wl_val (r_load (plain_of Tryd.underlying3 rfl) rfl (cell_of_blk H37.get.2 rfl)) (ltn rfl) ?_
              refine wl_val (r_move rfl) (ltn rfl) ?_
              refine wl_val (r_gtr rfl rfl) (ltn rfl) ?_
              refine wl_split rfl (ltn rfl) (fun h11 => ?_) (fun h11 => ?_)
              · (try simp only [beq_iff_eq, bne_iff_ne, ne_eq, decide_eq_true_eq, decide_eq_false_iff_not, beq_eq_false_iff_ne, bne_eq_false_iff_eq, Bool.not_eq_true', Bool.not_eq_false', Bool.not_eq_eq_eq_not, Bool.not_true, Bool.not_false, gt_iff_lt, ge_iff_le, Int.not_lt, Int.not_le] at h11)
                try (exfalso; first | contradiction | omega)
                all_goals
                  refine wl_yes rfl rfl ?_
                  refine wl_val (r_move rfl) (ltn rfl) ?_
                  refine wl_yes rfl rfl ?_
                  refine wl_val (r_nil rfl) (ltn rfl) ?_
                  refine wl_yes rfl rfl ?_
                  refine wl_val ((by first | exact r_field0 2 Tryd.underlying44 rfl rfl Tryd.sizeOf3 (by decide) rfl | exact r_field 2 Tryd.underlying44 rfl rfl Tryd.sizeOf3 (by decide) rfl)) (ltn rfl) ?_
                  refine wl_yes rfl rfl ?_
                  refine wl_val (r_load (plain_of Tryd.underlying3 rfl) rfl (cell_of_blk H37.get.2 rfl)) (ltn rfl) ?_
                  refine wl_yes rfl rfl ?_
                  refine wl_val (r_move rfl) (ltn rfl) ?_
                  refine wl_yes rfl rfl ?_
                  refine wl_val (r_leq rfl rfl) (ltn rfl) ?_
                  refine wl_val (r_pick_t rfl rfl) (ltn rfl) ?_
                  refine wl_nil ?_
                  refine wq_seq ?_
                  refine wc_cond rfl (fun h12 => ?_) (fun h12 => ?_)
                  · (try simp only [beq_iff_eq, bne_iff_ne, ne_eq, decide_eq_true_eq, decide_eq_false_iff_not, beq_eq_false_iff_ne, bne_eq_false_iff_eq, Bool.not_eq_true', Bool.not_eq_false', Bool.not_eq_eq_eq_not, Bool.not_true, Bool.not_false, gt_iff_lt, ge_iff_le, Int.not_lt, Int.not_le] at h12)
                    try (exfalso; first | contradiction | omega)
                    all_goals
                      
                      refine wc_region ?_
                      refine wl_val (r_move rfl) (ltn rfl) ?_
                      refine wl_val (r_move rfl) (ltn rfl) ?_
                      refine wl_val (r_nil rfl) (ltn rfl) ?_
                      refine wl_val ((by first | exact r_field0 2 Tryd.underlying44 rfl rfl Tryd.sizeOf3 (by decide) rfl | exact r_field 2 Tryd.underlying44 rfl rfl Tryd.sizeOf3 (by decide) rfl)) (ltn rfl) ?_
                      refine wl_eff0 (e_store H37 Tryd.sizeOf3 rfl rfl rfl (by rw [ref_size]; decide)) ?_
                      rintro _ w38 H38
                      rw [ref_set_mark] at H38
                      refine wl_nil ?_
                      refine wq_seq ?_
                      refine wc_seq ?_
                      refine wc_region ?_
                      refine wl_val (r_move rfl) (ltn rfl) ?_
                      refine wl_val (r_move rfl) (ltn rfl) ?_
                      refine wl_val (r_nil rfl) (ltn rfl) ?_
                      refine wl_val ((by first | exact r_field0 0 Tryd.underlying44 rfl rfl Tryd.sizeOf22 (by decide) rfl | exact r_field 0 Tryd.underlying44 rfl rfl Tryd.sizeOf22 (by decide) rfl)) (ltn rfl) ?_
                      refine wl_eff0 (e_store H38 Tryd.sizeOf22 rfl rfl rfl (by rw [ref_size]; decide)) ?_
                      rintro _ w39 H39
                      rw [ref_set_l] at H39
                      refine wl_nil ?_
                      refine wq_seq ?_
                      refine wc_seq ?_
                      refine wc_region ?_
                      refine wl_val (r_move rfl) (ltn rfl) ?_
                      refine wl_val (r_move rfl) (ltn rfl) ?_
                      refine wl_val (r_move rfl) (ltn rfl) ?_
                      refine wl_val (r_build (pl := #[(0, 1), (1, 1), (2, 1)]) (edCells i (.slice ad ((L.drop i).take (j - i)).length cd) (.slice ai l.length ci)) Tryd.underlying24 Tryd.zeroValue24 (fun w => by kernel_rfl) rfl (by kernel_rfl)) (ltn rfl) ?_
                      refine wl_eff0 (e_store_whole (cs := edCells i (.slice ad ((L.drop i).take (j - i)).length cd) (.slice ai l.length ci)) H39.r5 Tryd.sizeOf24 rfl rfl rfl rfl (ed_ones rfl rfl)) ?_
                      rintro _ w40 H40
                      refine wl_val (r_assign rfl) (ltn rfl) ?_
                      refine wl_nil ?_
                      refine wq_seq ?_
                      refine wc_ret ?_
                      refine wq_endCT (.inl rfl) Tryd.results20 rfl rfl Tryd.underlying24 rfl (by rw [show (Tryd.prog.info? 24).map (·.size) = some 3 from by kernel_rfl]; rfl) H40.get.2 ?_
                      refine ⟨_, _, rfl, ?_⟩
                      try rw [show movedP pt i j l.length = (i : Int) + l.length from by unfold movedP; rw [if_neg (by omega), if_pos (by omega)]] at q1 ⊢
                      try rw [show movedM mk i j l.length = (i : Int) from by unfold movedM; rw [if_neg (by omega), if_pos (by omega)]] at q2 ⊢
                      exact (Holds.mk_ref (by omega) (by omega) (by omega) H40.right).r4.right.d3.swap
                  · (try simp only [beq_iff_eq, bne_iff_ne, ne_eq, decide_eq_true_eq, decide_eq_false_iff_not, beq_eq_false_iff_ne, bne_eq_false_iff_eq, Bool.not_eq_true', Bool.not_eq_false', Bool.not_eq_eq_eq_not, Bool.not_true, Bool.not_false, gt_iff_lt, ge_iff_le, Int.not_lt, Int.not_le] at h12)
                    try (exfalso; first | contradiction | omega)
                    all_goals
                      
                      refine wc_region ?_
                      refine wl_val (r_move rfl) (ltn rfl) ?_
                      refine wl_val (r_move rfl) (ltn rfl) ?_
                      refine wl_val (r_nil rfl) (ltn rfl) ?_
                      refine wl_val ((by first | exact r_field0 2 Tryd.underlying44 rfl rfl Tryd.sizeOf3 (by decide) rfl | exact r_field 2 Tryd.underlying44 rfl rfl Tryd.sizeOf3 (by decide) rfl)) (ltn rfl) ?_
                      refine wl_val (r_load (plain_of Tryd.underlying3 rfl) rfl (cell_of_blk H37.get.2 rfl)) (ltn rfl) ?_
                      refine wl_val (r_move rfl) (ltn rfl) ?_
                      refine wl_val (r_move rfl) (ltn rfl) ?_
                      refine wl_val (r_move rfl) (ltn rfl) ?_
                      refine wl_val (r_len Tryd.underlying22 rfl) (ltn rfl) ?_
                      refine wl_eff (e_call (r_call rfl Tryd.func55 rfl rfl) (ref_moved_ret (by omega) (by omega) (by omega) (by omega))) (ltn rfl) ?_
                      rintro _ _ ⟨rfl, rfl⟩
                      refine wl_val (r_nil rfl) (ltn rfl) ?_
                      refine wl_val ((by first | exact r_field0 2 Tryd.underlying44 rfl rfl Tryd.sizeOf3 (by decide) rfl | exact r_field 2 Tryd.underlying44 rfl rfl Tryd.sizeOf3 (by decide) rfl)) (ltn rfl) ?_
                      refine wl_eff0 (e_store H37 Tryd.sizeOf3 rfl rfl rfl (by rw [ref_size]; decide)) ?_
                      rintro _ w42 H42
                      rw [ref_set_mark, movedM_ref (by omega)] at H42
                      refine wl_nil ?_
                      refine wq_seq ?_
                      refine wc_seq ?_
                      refine wc_region ?_
                      refine wl_val (r_move rfl) (ltn rfl) ?_
                      refine wl_val (r_move rfl) (ltn rfl) ?_
                      refine wl_val (r_nil rfl) (ltn rfl) ?_
                      refine wl_val ((by first | exact r_field0 0 Tryd.underlying44 rfl rfl Tryd.sizeOf22 (by decide) rfl | exact r_field 0 Tryd.underlying44 rfl rfl Tryd.sizeOf22 (by decide) rfl)) (ltn rfl) ?_
                      refine wl_eff0 (e_store H42 Tryd.sizeOf22 rfl rfl rfl (by rw [ref_size]; decide)) ?_
                      rintro _ w43 H43
                      rw [ref_set_l] at H43
                      refine wl_nil ?_
                      refine wq_seq ?_
                      refine wc_seq ?_
                      refine wc_region ?_
                      refine wl_val (r_move rfl) (ltn rfl) ?_
                      refine wl_val (r_move rfl) (ltn rfl) ?_
                      refine wl_val (r_move rfl) (ltn rfl) ?_
                      refine wl_val (r_build (pl := #[(0, 1), (1, 1), (2, 1)]) (edCells i (.slice ad ((L.drop i).take (j - i)).length cd) (.slice ai l.length ci)) Tryd.underlying24 Tryd.zeroValue24 (fun w => by kernel_rfl) rfl (by kernel_rfl)) (ltn rfl) ?_
                      refine wl_eff0 (e_store_whole (cs := edCells i (.slice ad ((L.drop i).take (j - i)).length cd) (.slice ai l.length ci)) H43.r5 Tryd.sizeOf24 rfl rfl rfl rfl (ed_ones rfl rfl)) ?_
                      rintro _ w44 H44
                      refine wl_val (r_assign rfl) (ltn rfl) ?_
                      refine wl_nil ?_
                      refine wq_seq ?_
                      refine wc_ret ?_
                      refine wq_endCT (.inl rfl) Tryd.results20 rfl rfl Tryd.underlying24 rfl (by rw [show (Tryd.prog.info? 24).map (·.size) = some 3 from by kernel_rfl]; rfl) H44.get.2 ?_
                      refine ⟨_, _, rfl, ?_⟩
                      try rw [show movedP pt i j l.length = (i : Int) + l.length from by unfold movedP; rw [if_neg (by omega), if_pos (by omega)]] at q1 ⊢
                      try rw [show movedM mk i j l.length = (i : Int) from by unfold movedM; rw [if_neg (by omega), if_pos (by omega)]] at q2 ⊢
                      exact (Holds.mk_ref (by omega) (by omega) (by omega) H44.right).r4.right.d3.swap
              · (try simp only [beq_iff_eq, bne_iff_ne, ne_eq, decide_eq_true_eq, decide_eq_false_iff_not, beq_eq_false_iff_ne, bne_eq_false_iff_eq, Bool.not_eq_true', Bool.not_eq_false', Bool.not_eq_eq_eq_not, Bool.not_true, Bool.not_false, gt_iff_lt, ge_iff_le, Int.not_lt, Int.not_le] at h11)
                try (exfalso; first | contradiction | omega)
                all_goals
                  refine wl_no rfl rfl rfl (ltn rfl) ?_
                  refine wl_no rfl rfl rfl (ltn rfl) ?_
                  refine wl_no rfl rfl rfl (ltn rfl) ?_
                  refine wl_no rfl rfl rfl (ltn rfl) ?_
                  refine wl_no rfl rfl rfl (ltn rfl) ?_
                  refine wl_no rfl rfl rfl (ltn rfl) ?_
                  refine wl_val (r_pick_f rfl rfl) (ltn rfl) ?_
                  refine wl_nil ?_
                  refine wq_seq ?_
                  refine wc_cond_f rfl ?_
                  refine wc_region ?_
                  refine wl_val (r_move rfl) (ltn rfl) ?_
                  refine wl_val (r_move rfl) (ltn rfl) ?_
                  refine wl_val (r_nil rfl) (ltn rfl) ?_
                  refine wl_val ((by first | exact r_field0 2 Tryd.underlying44 rfl rfl Tryd.sizeOf3 (by decide) rfl | exact r_field 2 Tryd.underlying44 rfl rfl Tryd.sizeOf3 (by decide) rfl)) (ltn rfl) ?_
                  refine wl_val (r_load (plain_of Tryd.underlying3 rfl) rfl (cell_of_blk H37.get.2 rfl)) (ltn rfl) ?_
                  refine wl_val (r_move rfl) (ltn rfl) ?_
                  refine wl_val (r_move rfl) (ltn rfl) ?_
                  refine wl_val (r_move rfl) (ltn rfl) ?_
                  refine wl_val (r_len Tryd.underlying22 rfl) (ltn rfl) ?_
                  refine wl_eff (e_call (r_call rfl Tryd.func55 rfl rfl) (ref_moved_ret (by omega) (by omega) (by omega) (by omega))) (ltn rfl) ?_
                  rintro _ _ ⟨rfl, rfl⟩
                  refine wl_val (r_nil rfl) (ltn rfl) ?_
                  refine wl_val ((by first | exact r_field0 2 Tryd.underlying44 rfl rfl Tryd.sizeOf3 (by decide) rfl | exact r_field 2 Tryd.underlying44 rfl rfl Tryd.sizeOf3 (by decide) rfl)) (ltn rfl) ?_
                  refine wl_eff0 (e_store H37 Tryd.sizeOf3 rfl rfl rfl (by rw [ref_size]; decide)) ?_
                  rintro _ w46 H46
                  rw [ref_set_mark, movedM_ref (by omega)] at H46
                  refine wl_nil ?_
                  refine wq_seq ?_
                  refine wc_seq ?_
                  refine wc_region ?_
                  refine wl_val (r_move rfl) (ltn rfl) ?_
                  refine wl_val (r_move rfl) (ltn rfl) ?_
                  refine wl_val (r_nil rfl) (ltn rfl) ?_
                  refine wl_val ((by first | exact r_field0 0 Tryd.underlying44 rfl rfl Tryd.sizeOf22 (by decide) rfl | exact r_field 0 Tryd.underlying44 rfl rfl Tryd.sizeOf22 (by decide) rfl)) (ltn rfl) ?_
                  refine wl_eff0 (e_store H46 Tryd.sizeOf22 rfl rfl rfl (by rw [ref_size]; decide)) ?_
                  rintro _ w47 H47
                  rw [ref_set_l] at H47
                  refine wl_nil ?_
                  refine wq_seq ?_
                  refine wc_seq ?_
                  refine wc_region ?_
                  refine wl_val (r_move rfl) (ltn rfl) ?_
                  refine wl_val (r_move rfl) (ltn rfl) ?_
                  refine wl_val (r_move rfl) (ltn rfl) ?_
                  refine wl_val (r_build (pl := #[(0, 1), (1, 1), (2, 1)]) (edCells i (.slice ad ((L.drop i).take (j - i)).length cd) (.slice ai l.length ci)) Tryd.underlying24 Tryd.zeroValue24 (fun w => by kernel_rfl) rfl (by kernel_rfl)) (ltn rfl) ?_
                  refine wl_eff0 (e_store_whole (cs := edCells i (.slice ad ((L.drop i).take (j - i)).length cd) (.slice ai l.length ci)) H47.r5 Tryd.sizeOf24 rfl rfl rfl rfl (ed_ones rfl rfl)) ?_
                  rintro _ w48 H48
                  refine wl_val (r_assign rfl) (ltn rfl) ?_
                  refine wl_nil ?_
                  refine wq_seq ?_
                  refine wc_ret ?_
                  refine wq_endCT (.inl rfl) Tryd.results20 rfl rfl Tryd.underlying24 rfl (by rw [show (Tryd.prog.info? 24).map (·.size) = some 3 from by kernel_rfl]; rfl) H48.get.2 ?_
                  refine ⟨_, _, rfl, ?_⟩
                  try rw [show movedP pt i j l.length = (i : Int) + l.length from by unfold movedP; rw [if_neg (by omega), if_pos (by omega)]] at q1 ⊢
                  try rw [show movedM mk i j l.length = (i : Int) from by unfold movedM; rw [if_neg (by omega), if_pos (by omega)]] at q2 ⊢
                  exact (Holds.mk_ref (by omega) (by omega) (by omega) H48.right).r4.right.d3.swap
theorem is_same_ret {q : Nat} (H : Holds w0 w (BufRep p L pt mk • RefRep q L pt mk • F)) : Ret Tryd.prog 22 #[.pointer (some ⟨p, 0, none⟩), .pointer (some ⟨q, 0, none⟩)] w fun v w' => v = .bool true ∧ Holds w0 w' F := by
  obtain ⟨a, c, g1, g2, g3, hc1, hc2, HB⟩ := H.swap.ref
  refine ret_enter Tryd.func22 rfl Tryd.ntmps22 (Nat.le_of_ble_eq_true rfl) ?_
  dsimp only [slots0, Nat.reduceAdd]
  refine wc_seq ?_
  refine wc_region ?_
  refine wl_val (r_assign rfl) (ltn rfl) ?_
  refine wl_nil ?_
  refine wq_seq ?_
  refine wc_seq ?_
  refine wd_begin (n := 43) [0, 1, 2, 3, 4, 5, 6, 7, 8, 9, 10, 11, 12, 13, 14, 15, 16, 17, 18, 19, 20, 21, 22, 23, 24, 25, 26, 27, 28, 29, 30, 31, 32, 33, 34, 35, 36, 37, 38, 39, 40, 41, 42] (fun W => W.heap[q]? = some (.cells (refCells (.slice a L.length c) pt mk) 44 (0, 0))) (by kernel_rfl) (by kernel_rfl) rfl ?_
  have hS0 : (fun W => W.heap[q]? = some (.cells (refCells (.slice a L.length c) pt mk) 44 (0, 0))) (w.drew) := HB.get.2
  have H1d := HB.drew
  refine wd_takeT 0 rfl (by kernel_rfl) (by kernel_rfl) hS0 (fun _ => r_move rfl) (ltn rfl) ?_
  refine wd_takeT 2 rfl (by kernel_rfl) (by kernel_rfl) hS0 (fun _ => r_move rfl) (ltn rfl) ?_
  refine wd_eff 1 rfl (by kernel_rfl) (e_call (r_call rfl Tryd.func21 rfl rfl) (buf_line_ret H1d.rot)) (ltn rfl) ?_
  rintro _ w1 ⟨u1, rfl, H1⟩
  have hS1 : (fun W => W.heap[q]? = some (.cells (refCells (.slice a L.length c) pt mk) 44 (0, 0))) w1 := H1.rot.get.2
  refine keepS hS1 ?_
  refine wd_eff 3 rfl (by kernel_rfl) (e_call (r_call rfl Tryd.func56 rfl rfl) (ref_line_at H1.r4.r4 g1)) (ltn rfl) ?_
  rintro _ w2 ⟨u2, rfl, H2⟩
  have hS2 : (fun W => W.heap[q]? = some (.cells (refCells (.slice a L.length c) pt mk) 44 (0, 0))) w2 := H2.swap.get.2
  refine keepS hS2 ?_
  refine wd_eff 4 rfl (by kernel_rfl) (e_call (r_call rfl Tryd.func44 rfl rfl) (same_line_ret H2 (fun W HW => HW.r4.row_rd) (fun W HW => HW.row_rd))) (ltn rfl) ?_
  rintro _ w3 ⟨rfl, H3⟩
  have hS3 : (fun W => W.heap[q]? = some (.cells (refCells (.slice a L.length c) pt mk) 44 (0, 0))) w3 := H3.swap.get.2
  refine keepS hS3 ?_
  refine wd_takeT 5 rfl (by kernel_rfl) (by kernel_rfl) hS3 (fun _ => r_move rfl) (ltn rfl) ?_
  refine wd_takeT_yes 6 rfl rfl rfl (by kernel_rfl) (by kernel_rfl) hS3 (fun _ => r_move rfl) (ltn rfl) ?_
  refine wd_takeT_yes 8 rfl rfl rfl (by kernel_rfl) (by kernel_rfl) hS3 (fun _ => r_move rfl) (ltn rfl) ?_
  refine wd_takeT_yes 9 rfl rfl rfl (by kernel_rfl) (by kernel_rfl) hS3 (fun _ => r_nil rfl) (ltn rfl) ?_
  refine wd_takeT_yes 10 rfl rfl rfl (by kernel_rfl) (by kernel_rfl) hS3 (fun _ => (by first | exact r_field0 0 Tryd.underlying44 rfl rfl Tryd.sizeOf22 (by decide) rfl | exact r_field 0 Tryd.underlying44 rfl rfl Tryd.sizeOf22 (by decide) rfl)) (ltn rfl) ?_
  refine wd_take_yes 11 rfl rfl rfl (by kernel_rfl) (by kernel_rfl) hS3 (by decide) (fun W hW => r_load (plain_of Tryd.underlying22 rfl) rfl (cell_of_blk hW rfl)) (ltn rfl) ?_
  refine wd_eff_yes 7 rfl rfl rfl (by kernel_rfl) (e_call (r_call rfl Tryd.func15 rfl rfl) (buf_text_ret H3.r5)) (ltn rfl) ?_
  rintro y w4 H4
  have hS4 : (fun W => W.heap[q]? = some (.cells (refCells (.slice a L.length c) pt mk) 44 (0, 0))) w4 := H4.r4.get.2
  refine keepS hS4 ?_
  refine wd_eff_yes 12 rfl rfl rfl (by kernel_rfl) (e_call (r_call rfl Tryd.func14 rfl rfl) (same_eq_ret _ _ _ L H4.row_rd H4.r5.row_rd)) (ltn rfl) ?_
  rintro _ w5 ⟨rfl, hD1⟩
  have HE1 := H4.drewn hD1
  have hS5 : (fun W => W.heap[q]? = some (.cells (refCells (.slice a L.length c) pt mk) 44 (0, 0))) w5 := HE1.r4.get.2
  refine keepS hS5 ?_
  refine wd_takeT 13 rfl (by kernel_rfl) (by kernel_rfl) hS5 (fun _ => r_pick_t rfl rfl) (ltn rfl) ?_
  refine wd_takeT 14 rfl (by kernel_rfl) (by kernel_rfl) hS5 (fun _ => r_move rfl) (ltn rfl) ?_
  refine wd_takeT_yes 15 rfl rfl rfl (by kernel_rfl) (by kernel_rfl) hS5 (fun _ => r_move rfl) (ltn rfl) ?_
  refine wd_takeT_yes 17 rfl rfl rfl (by kernel_rfl) (by kernel_rfl) hS5 (fun _ => r_move rfl) (ltn rfl) ?_
  refine wd_takeT_yes 18 rfl rfl rfl (by kernel_rfl) (by kernel_rfl) hS5 (fun _ => r_nil rfl) (ltn rfl) ?_
  refine wd_takeT_yes 19 rfl rfl rfl (by kernel_rfl) (by kernel_rfl) hS5 (fun _ => (by first | exact r_field0 0 Tryd.underlying44 rfl rfl Tryd.sizeOf22 (by decide) rfl | exact r_field 0 Tryd.underlying44 rfl rfl Tryd.sizeOf22 (by decide) rfl)) (ltn rfl) ?_
  refine wd_take_yes 20 rfl rfl rfl (by kernel_rfl) (by kernel_rfl) hS5 (by decide) (fun W hW => r_load (plain_of Tryd.underlying22 rfl) rfl (cell_of_blk hW rfl)) (ltn rfl) ?_
  refine wd_takeT_yes 21 rfl rfl rfl (by kernel_rfl) (by kernel_rfl) hS5 (fun _ => r_len Tryd.underlying22 rfl) (ltn rfl) ?_
  refine wd_eff_yes 16 rfl rfl rfl (by kernel_rfl) (e_call (r_call rfl Tryd.func45 rfl rfl) (buf_len_ret HE1.swap)) (ltn rfl) ?_
  rintro _ w6 ⟨rfl, hD2⟩
  have HE2 := HE1.drewn hD2
  have hS6 : (fun W => W.heap[q]? = some (.cells (refCells (.slice a L.length c) pt mk) 44 (0, 0))) w6 := HE2.r4.get.2
  refine keepS hS6 ?_
  refine wd_takeT_yes 22 rfl rfl rfl (by kernel_rfl) (by kernel_rfl) hS6 (fun _ => r_known_t (r_eql rfl rfl) (by first | (rw [decide_eq_true_eq]; omega) | (rw [decide_eq_false_iff_not]; omega) | (rw [beq_iff_eq]; omega) | (rw [beq_eq_false_iff_ne]; omega) | (rw [bne_iff_ne]; omega) | (rw [bne_eq_false_iff_eq]; omega) | (simp; done) | (simp; omega))) (ltn rfl) ?_
  refine wd_takeT 23 rfl (by kernel_rfl) (by kernel_rfl) hS6 (fun _ => r_pick_t rfl rfl) (ltn rfl) ?_
  refine wd_takeT 24 rfl (by kernel_rfl) (by kernel_rfl) hS6 (fun _ => r_move rfl) (ltn rfl) ?_
  refine wd_takeT_yes 25 rfl rfl rfl (by kernel_rfl) (by kernel_rfl) hS6 (fun _ => r_move rfl) (ltn rfl) ?_
  refine wd_takeT_yes 27 rfl rfl rfl (by kernel_rfl) (by kernel_rfl) hS6 (fun _ => r_move rfl) (ltn rfl) ?_
  refine wd_takeT_yes 28 rfl rfl rfl (by kernel_rfl) (by kernel_rfl) hS6 (fun _ => r_nil rfl) (ltn rfl) ?_
  refine wd_takeT_yes 29 rfl rfl rfl (by kernel_rfl) (by kernel_rfl) hS6 (fun _ => (by first | exact r_field0 1 Tryd.underlying44 rfl rfl Tryd.sizeOf3 (by decide) rfl | exact r_field 1 Tryd.underlying44 rfl rfl Tryd.sizeOf3 (by decide) rfl)) (ltn rfl) ?_
  refine wd_take_yes 30 rfl rfl rfl (by kernel_rfl) (by kernel_rfl) hS6 (by decide) (fun W hW => r_load (plain_of Tryd.underlying3 rfl) rfl (cell_of_blk hW rfl)) (ltn rfl) ?_
  refine wd_eff_yes 26 rfl rfl rfl (by kernel_rfl) (e_call (r_call rfl Tryd.func23 rfl rfl) (buf_point_ret HE2.swap)) (ltn rfl) ?_
  rintro _ _ ⟨rfl, rfl⟩
  have hS7 : (fun W => W.heap[q]? = some (.cells (refCells (.slice a L.length c) pt mk) 44 (0, 0))) w6 := by first | rfl | assumption
  refine keepS hS7 ?_
  refine wd_takeT_yes 31 rfl rfl rfl (by kernel_rfl) (by kernel_rfl) hS7 (fun _ => r_known_t (r_eql rfl rfl) (by first | (rw [decide_eq_true_eq]; omega) | (rw [decide_eq_false_iff_not]; omega) | (rw [beq_iff_eq]; omega) | (rw [beq_eq_false_iff_ne]; omega) | (rw [bne_iff_ne]; omega) | (rw [bne_eq_false_iff_eq]; omega) | (simp; done) | (simp; omega))) (ltn rfl) ?_
  refine wd_takeT 32 rfl (by kernel_rfl) (by kernel_rfl) hS7 (fun _ => r_pick_t rfl rfl) (ltn rfl) ?_
  refine wd_takeT 33 rfl (by kernel_rfl) (by kernel_rfl) hS7 (fun _ => r_move rfl) (ltn rfl) ?_
  refine wd_takeT_yes 34 rfl rfl rfl (by kernel_rfl) (by kernel_rfl) hS7 (fun _ => r_move rfl) (ltn rfl) ?_
  refine wd_takeT_yes 36 rfl rfl rfl (by kernel_rfl) (by kernel_rfl) hS7 (fun _ => r_move rfl) (ltn rfl) ?_
  refine wd_takeT_yes 37 rfl rfl rfl (by kernel_rfl) (by kernel_rfl) hS7 (fun _ => r_nil rfl) (ltn rfl) ?_
  refine wd_takeT_yes 38 rfl rfl rfl (by kernel_rfl) (by kernel_rfl) hS7 (fun _ => (by first | exact r_field0 2 Tryd.underlying44 rfl rfl Tryd.sizeOf3 (by decide) rfl | exact r_field 2 Tryd.underlying44 rfl rfl Tryd.sizeOf3 (by decide) rfl)) (ltn rfl) ?_
  refine wd_take_yes 39 rfl rfl rfl (by kernel_rfl) (by kernel_rfl) hS7 (by decide) (fun W hW => r_load (plain_of Tryd.underlying3 rfl) rfl (cell_of_blk hW rfl)) (ltn rfl) ?_
  refine wd_eff_yes 35 rfl rfl rfl (by kernel_rfl) (e_call (r_call rfl Tryd.func46 rfl rfl) (buf_mark_ret HE2.swap)) (ltn rfl) ?_
  rintro _ _ ⟨rfl, rfl⟩
  have hS8 : (fun W => W.heap[q]? = some (.cells (refCells (.slice a L.length c) pt mk) 44 (0, 0))) w6 := by first | rfl | assumption
  refine keepS hS8 ?_
  refine wd_takeT_yes 40 rfl rfl rfl (by kernel_rfl) (by kernel_rfl) hS8 (fun _ => r_known_t (r_eql rfl rfl) (by first | (rw [decide_eq_true_eq]; omega) | (rw [decide_eq_false_iff_not]; omega) | (rw [beq_iff_eq]; omega) | (rw [beq_eq_false_iff_ne]; omega) | (rw [bne_iff_ne]; omega) | (rw [bne_eq_false_iff_eq]; omega) | (simp; done) | (simp; omega))) (ltn rfl) ?_
  refine wd_takeT 41 rfl (by kernel_rfl) (by kernel_rfl) hS8 (fun _ => r_pick_t rfl rfl) (ltn rfl) ?_
  refine wd_takeT 42 rfl (by kernel_rfl) (by kernel_rfl) hS8 (fun _ => r_assign rfl) (ltn rfl) ?_
  refine wd_done (by kernel_rfl) ?_
  refine wq_seq ?_
  refine wc_ret ?_
  refine wq_end1 (.inl rfl) Tryd.results22 rfl ?_
  exact ⟨rfl, HE2.right.right.right.right.right.right⟩
end
end Go.Proofs.YtlldaaamdchkdaaDoor
