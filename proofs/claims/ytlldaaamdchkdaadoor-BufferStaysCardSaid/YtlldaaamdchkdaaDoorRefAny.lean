/- The document's buffer: its methods, each as one law. -/
import Derived.Test.YtlldaaamdchkdaaDoorBufAny
import Derived.Test.YtlldaaamdchkdaaDoorRef7c
set_option linter.unusedSimpArgs false
set_option linter.unusedVariables false
namespace Go.Proofs.YtlldaaamdchkdaaDoor
open Go.RowKit
section
variable {w0 w : World} {F : HP} {p : Nat} {L : List Int} {pt mk : Int} {v d s : Value} {l dl il : List Int} {i j a x : Int}
theorem ref_place_rep (H : Holds w0 w (RefRep p L pt mk • F)) : Ret Tryd.prog 54 #[.pointer (some ⟨p, 0, none⟩), .int .i64 x] w fun v w' => v = .bool (decide (0 ≤ x ∧ x ≤ L.length)) ∧ w = w' := by
  obtain ⟨a, c, g1, g2, g3, hc1, hc2, HB⟩ := H.ref
  exact ref_place_ret HB.get.2
theorem ref_replace_ret (H : Holds w0 w (RefRep p L pt mk • F)) (hr : FRdI w0 F .i32 v l) (hlb : l.length ≤ 140737488355328) :
    Ret Tryd.prog 20 #[.pointer (some ⟨p, 0, none⟩), .int .i64 i, .int .i64 j, v] w fun v' w' => ∃ d s, v' = .tuple #[.agg #[.int .i64 (replA L i j l), d, s], .int .i64 (replE L i j l)] ∧
      Holds w0 w' (RowI 21 .i32 d (replD L i j l) • RowI 21 .i32 s (replI L i j l) • RefRep p (replL L i j l) (replP L pt i j l) (replM L mk i j l) • F) := by
  unfold replA replL replP replM replD replI
  by_cases h1 : i < 0 ∨ L.length < i ∨ j < i ∨ L.length < j
  · have e : replE L i j l = 70 := by unfold replE; rw [if_pos h1]
    simp only [e, show ¬ (70 : Int) = 0 from by decide, if_false]
    exact (ref_replace_bad H hr h1).mono fun v' w' h => ⟨_, _, h.1, (h.2.rowi_nil none).rowi_nil none⟩
  · have h2 : 0 ≤ i ∧ i ≤ j ∧ j ≤ L.length := by omega
    by_cases h3 : 1024 < L.length - (j - i) + l.length
    · have e : replE L i j l = 3 := by unfold replE; rw [if_neg h1, if_pos h3]
      simp only [e, show ¬ (3 : Int) = 0 from by decide, if_false]
      exact (ref_replace_long H hr h2 h3 hlb).mono fun v' w' h => ⟨_, _, h.1, (h.2.rowi_nil none).rowi_nil none⟩
    · have e : replE L i j l = 0 := by unfold replE; rw [if_neg h1, if_neg h3]
      simp only [e, if_true]
      obtain ⟨i', rfl⟩ := Int.eq_ofNat_of_zero_le h2.1
      obtain ⟨j', rfl⟩ := Int.eq_ofNat_of_zero_le (show 0 ≤ j by omega)
      have hij : i' ≤ j' ∧ j' ≤ L.length := by omega
      have := ref_replace_ok (i := i') (j := j') H hr hij (by omega)
      simpa only [Int.toNat_natCast, show ((j' : Int) - (i' : Int)).toNat = j' - i' from by omega, edCells] using this
theorem ref_setmark_ret (H : Holds w0 w (RefRep p L pt mk • F)) : Ret Tryd.prog 70 #[.pointer (some ⟨p, 0, none⟩), .int .i64 x] w fun v' w' => v' = .int .i64 (smE L x) ∧ Holds w0 w' (RefRep p L pt (smM L mk x) • F) := by
  unfold smE smM
  refine ret_enter Tryd.func70 rfl Tryd.ntmps70 (Nat.le_of_ble_eq_true rfl) ?_
  dsimp only [slots0, Nat.reduceAdd]
  refine wc_seq ?_
  refine wc_region ?_
  refine wl_val (r_assign rfl) (ltn rfl) ?_
  refine wl_nil ?_
  refine wq_seq ?_
  refine wc_seq ?_
  refine wc_seq ?_
  refine wc_region ?_
  refine wl_val (r_move rfl) (ltn rfl) ?_
  refine wl_val (r_neq rfl rfl) (ltn rfl) ?_
  refine wl_split rfl (ltn rfl) (fun h1 => ?_) (fun h1 => ?_)
  · (try simp only [beq_iff_eq, bne_iff_ne, ne_eq, decide_eq_true_eq, decide_eq_false_iff_not, beq_eq_false_iff_ne, bne_eq_false_iff_eq, Bool.not_eq_true', Bool.not_eq_false', Bool.not_eq_eq_eq_not, Bool.not_true, Bool.not_false, gt_iff_lt, ge_iff_le, Int.not_lt, Int.not_le] at h1)
    try (exfalso; first | contradiction | omega)
    all_goals
      refine wl_yes rfl rfl ?_
      refine wl_val (r_move rfl) (ltn rfl) ?_
      refine wl_yes rfl rfl ?_
      refine wl_val (r_move rfl) (ltn rfl) ?_
      refine wl_yes rfl rfl ?_
      refine wl_eff (e_call (r_call rfl Tryd.func54 rfl rfl) (ref_place_rep H)) (ltn rfl) ?_
      rintro _ _ ⟨rfl, rfl⟩
      refine wl_yes rfl rfl ?_
      refine wl_val (r_not rfl) (ltn rfl) ?_
      refine wl_val (r_pick_t rfl rfl) (ltn rfl) ?_
      refine wl_nil ?_
      refine wq_seq ?_
      refine wc_cond rfl (fun h2 => ?_) (fun h2 => ?_)
      · (try simp only [beq_iff_eq, bne_iff_ne, ne_eq, decide_eq_true_eq, decide_eq_false_iff_not, beq_eq_false_iff_ne, bne_eq_false_iff_eq, Bool.not_eq_true', Bool.not_eq_false', Bool.not_eq_eq_eq_not, Bool.not_true, Bool.not_false, gt_iff_lt, ge_iff_le, Int.not_lt, Int.not_le] at h2)
        try (exfalso; first | contradiction | omega)
        all_goals
          
          refine wc_seq ?_
          refine wc_region ?_
          refine wl_val (r_assign rfl) (ltn rfl) ?_
          refine wl_nil ?_
          refine wq_seq ?_
          refine wc_ret ?_
          refine wq_then_ret ?_
          refine wq_end1 (.inl rfl) Tryd.results70 rfl ?_
          exact ⟨by rw [if_pos (by omega)], by rw [if_pos (by omega)]; exact H⟩
      · (try simp only [beq_iff_eq, bne_iff_ne, ne_eq, decide_eq_true_eq, decide_eq_false_iff_not, beq_eq_false_iff_ne, bne_eq_false_iff_eq, Bool.not_eq_true', Bool.not_eq_false', Bool.not_eq_eq_eq_not, Bool.not_true, Bool.not_false, gt_iff_lt, ge_iff_le, Int.not_lt, Int.not_le] at h2)
        try (exfalso; first | contradiction | omega)
        all_goals
          
          refine wc_skip ?_
          refine wq_seq ?_
          refine wc_seq ?_
          obtain ⟨ay_p, cy_p, r1_p, r2_p, r3_p, r4_p, r5_p, HR_p⟩ := (H).ref
          refine wc_region ?_
          refine wl_val (r_move rfl) (ltn rfl) ?_
          refine wl_val (r_move rfl) (ltn rfl) ?_
          refine wl_val (r_nil rfl) (ltn rfl) ?_
          refine wl_val ((by first | exact r_field0 2 Tryd.underlying44 rfl rfl Tryd.sizeOf3 (by decide) rfl | exact r_field 2 Tryd.underlying44 rfl rfl Tryd.sizeOf3 (by decide) rfl)) (ltn rfl) ?_
          refine wl_eff0 (e_storeL 2 (l' := [_, _, _]) HR_p Tryd.sizeOf3 rfl rfl (by first | rfl | assumption) rfl rfl) ?_
          rintro _ w3 H3
          refine wl_nil ?_
          refine wq_seq ?_
          refine wc_seq ?_
          refine wc_region ?_
          refine wl_val (r_assign rfl) (ltn rfl) ?_
          refine wl_nil ?_
          refine wq_seq ?_
          refine wc_ret ?_
          refine wq_end1 (.inl rfl) Tryd.results70 rfl ?_
          exact ⟨by rw [if_neg (by omega)], by rw [if_neg (by omega)]; exact Holds.mk_ref r1_p r2_p (by omega) H3.f2.f2⟩
  · (try simp only [beq_iff_eq, bne_iff_ne, ne_eq, decide_eq_true_eq, decide_eq_false_iff_not, beq_eq_false_iff_ne, bne_eq_false_iff_eq, Bool.not_eq_true', Bool.not_eq_false', Bool.not_eq_eq_eq_not, Bool.not_true, Bool.not_false, gt_iff_lt, ge_iff_le, Int.not_lt, Int.not_le] at h1)
    try (exfalso; first | contradiction | omega)
    all_goals
      refine wl_no rfl rfl rfl (ltn rfl) ?_
      refine wl_no rfl rfl rfl (ltn rfl) ?_
      refine wl_no rfl rfl rfl (ltn rfl) ?_
      refine wl_no rfl rfl rfl (ltn rfl) ?_
      refine wl_val (r_pick_f rfl rfl) (ltn rfl) ?_
      refine wl_nil ?_
      refine wq_seq ?_
      refine wc_cond_f rfl ?_
      refine wc_skip ?_
      refine wq_seq ?_
      refine wc_seq ?_
      obtain ⟨ay_p, cy_p, r1_p, r2_p, r3_p, r4_p, r5_p, HR_p⟩ := (H).ref
      refine wc_region ?_
      refine wl_val (r_move rfl) (ltn rfl) ?_
      refine wl_val (r_move rfl) (ltn rfl) ?_
      refine wl_val (r_nil rfl) (ltn rfl) ?_
      refine wl_val ((by first | exact r_field0 2 Tryd.underlying44 rfl rfl Tryd.sizeOf3 (by decide) rfl | exact r_field 2 Tryd.underlying44 rfl rfl Tryd.sizeOf3 (by decide) rfl)) (ltn rfl) ?_
      refine wl_eff0 (e_storeL 2 (l' := [_, _, _]) HR_p Tryd.sizeOf3 rfl rfl (by first | rfl | assumption) rfl rfl) ?_
      rintro _ w5 H5
      refine wl_nil ?_
      refine wq_seq ?_
      refine wc_seq ?_
      refine wc_region ?_
      refine wl_val (r_assign rfl) (ltn rfl) ?_
      refine wl_nil ?_
      refine wq_seq ?_
      refine wc_ret ?_
      refine wq_end1 (.inl rfl) Tryd.results70 rfl ?_
      exact ⟨by rw [if_neg (by omega)], by rw [if_neg (by omega)]; exact Holds.mk_ref r1_p r2_p (by omega) H5.f2.f2⟩
theorem ref_swap_ret (H : Holds w0 w (RefRep p L pt mk • F)) : Ret Tryd.prog 71 #[.pointer (some ⟨p, 0, none⟩)] w fun v' w' => v' = .int .i64 (swE mk) ∧ Holds w0 w' (RefRep p L (swP pt mk) (swM pt mk) • F) := by
  unfold swE swP swM
  refine ret_enter Tryd.func71 rfl Tryd.ntmps71 (Nat.le_of_ble_eq_true rfl) ?_
  dsimp only [slots0, Nat.reduceAdd]
  refine wc_seq ?_
  refine wc_region ?_
  refine wl_val (r_assign rfl) (ltn rfl) ?_
  refine wl_nil ?_
  refine wq_seq ?_
  refine wc_seq ?_
  refine wc_seq ?_
  obtain ⟨ay_p, cy_p, r1_p, r2_p, r3_p, r4_p, r5_p, HR_p⟩ := (H).ref
  refine wc_region ?_
  refine wl_val (r_move rfl) (ltn rfl) ?_
  refine wl_val (r_nil rfl) (ltn rfl) ?_
  refine wl_val ((by first | exact r_field0 2 Tryd.underlying44 rfl rfl Tryd.sizeOf3 (by decide) rfl | exact r_field 2 Tryd.underlying44 rfl rfl Tryd.sizeOf3 (by decide) rfl)) (ltn rfl) ?_
  refine wl_val (r_load (plain_of Tryd.underlying3 rfl) rfl (cell_of_blk (HR_p).get.2 rfl)) (ltn rfl) ?_
  refine wl_val (r_lss rfl rfl) (ltn rfl) ?_
  refine wl_nil ?_
  refine wq_seq ?_
  refine wc_cond rfl (fun h1 => ?_) (fun h1 => ?_)
  · (try simp only [beq_iff_eq, bne_iff_ne, ne_eq, decide_eq_true_eq, decide_eq_false_iff_not, beq_eq_false_iff_ne, bne_eq_false_iff_eq, Bool.not_eq_true', Bool.not_eq_false', Bool.not_eq_eq_eq_not, Bool.not_true, Bool.not_false, gt_iff_lt, ge_iff_le, Int.not_lt, Int.not_le] at h1)
    try (exfalso; first | contradiction | omega)
    all_goals
      
      refine wc_seq ?_
      refine wc_region ?_
      refine wl_val (r_assign rfl) (ltn rfl) ?_
      refine wl_nil ?_
      refine wq_seq ?_
      refine wc_ret ?_
      refine wq_then_ret ?_
      refine wq_end1 (.inl rfl) Tryd.results71 rfl ?_
      exact ⟨by rw [if_pos (by omega)], by rw [if_pos (by omega), if_pos (by omega)]; exact Holds.mk_ref r1_p r2_p (by omega) HR_p.f2.f2⟩
  · (try simp only [beq_iff_eq, bne_iff_ne, ne_eq, decide_eq_true_eq, decide_eq_false_iff_not, beq_eq_false_iff_ne, bne_eq_false_iff_eq, Bool.not_eq_true', Bool.not_eq_false', Bool.not_eq_eq_eq_not, Bool.not_true, Bool.not_false, gt_iff_lt, ge_iff_le, Int.not_lt, Int.not_le] at h1)
    try (exfalso; first | contradiction | omega)
    all_goals
      
      refine wc_skip ?_
      refine wq_seq ?_
      refine wc_seq ?_
      have H3d1 := HR_p.drew
      have hS3d1 := Holds.kp (H3d1.f2.f2)
      refine wd_beginK [5, 9] hS3d1 (by kernel_rfl) (by kernel_rfl) rfl ?_
      refine wd_takeT 0 rfl (by kernel_rfl) (by kernel_rfl) hS3d1 (fun _ => r_move rfl) (ltn rfl) ?_
      refine wd_takeT 1 rfl (by kernel_rfl) (by kernel_rfl) hS3d1 (fun _ => r_move rfl) (ltn rfl) ?_
      refine wd_takeT 2 rfl (by kernel_rfl) (by kernel_rfl) hS3d1 (fun _ => r_move rfl) (ltn rfl) ?_
      refine wd_takeT 3 rfl (by kernel_rfl) (by kernel_rfl) hS3d1 (fun _ => r_nil rfl) (ltn rfl) ?_
      refine wd_takeT 4 rfl (by kernel_rfl) (by kernel_rfl) hS3d1 (fun _ => (by first | exact r_field0 2 Tryd.underlying44 rfl rfl Tryd.sizeOf3 (by decide) rfl | exact r_field 2 Tryd.underlying44 rfl rfl Tryd.sizeOf3 (by decide) rfl)) (ltn rfl) ?_
      refine wd_take 5 rfl (by kernel_rfl) (by kernel_rfl) hS3d1 (by decide) (fun W hW => r_load (plain_of Tryd.underlying3 rfl) rfl (cell_of_blk ((Kp.h hW)).get.2 rfl)) (ltn rfl) ?_
      refine wd_takeT 6 rfl (by kernel_rfl) (by kernel_rfl) hS3d1 (fun _ => r_move rfl) (ltn rfl) ?_
      refine wd_takeT 7 rfl (by kernel_rfl) (by kernel_rfl) hS3d1 (fun _ => r_nil rfl) (ltn rfl) ?_
      refine wd_takeT 8 rfl (by kernel_rfl) (by kernel_rfl) hS3d1 (fun _ => (by first | exact r_field0 1 Tryd.underlying44 rfl rfl Tryd.sizeOf3 (by decide) rfl | exact r_field 1 Tryd.underlying44 rfl rfl Tryd.sizeOf3 (by decide) rfl)) (ltn rfl) ?_
      refine wd_take 9 rfl (by kernel_rfl) (by kernel_rfl) hS3d1 (by decide) (fun W hW => r_load (plain_of Tryd.underlying3 rfl) rfl (cell_of_blk ((Kp.h hW)).get.2 rfl)) (ltn rfl) ?_
      refine wd_takeT 10 rfl (by kernel_rfl) (by kernel_rfl) hS3d1 (fun _ => r_nil rfl) (ltn rfl) ?_
      refine wd_takeT 11 rfl (by kernel_rfl) (by kernel_rfl) hS3d1 (fun _ => (by first | exact r_field0 1 Tryd.underlying44 rfl rfl Tryd.sizeOf3 (by decide) rfl | exact r_field 1 Tryd.underlying44 rfl rfl Tryd.sizeOf3 (by decide) rfl)) (ltn rfl) ?_
      refine wd_eff0 12 rfl (by kernel_rfl) (e_storeL 1 (l' := [_, _, _]) H3d1 Tryd.sizeOf3 rfl rfl (by first | rfl | assumption) rfl rfl) ?_
      rintro _ w2 H2
      have hS2n := Holds.kp (H2.f2.f2)
      refine keepX hS2n (by kernel_rfl) ?_
      refine wd_takeT 13 rfl (by kernel_rfl) (by kernel_rfl) hS2n (fun _ => r_nil rfl) (ltn rfl) ?_
      refine wd_takeT 14 rfl (by kernel_rfl) (by kernel_rfl) hS2n (fun _ => (by first | exact r_field0 2 Tryd.underlying44 rfl rfl Tryd.sizeOf3 (by decide) rfl | exact r_field 2 Tryd.underlying44 rfl rfl Tryd.sizeOf3 (by decide) rfl)) (ltn rfl) ?_
      refine wd_eff0 15 rfl (by kernel_rfl) (e_storeL 2 (l' := [_, _, _]) H2 Tryd.sizeOf3 rfl rfl (by first | rfl | assumption) rfl rfl) ?_
      rintro _ w3 H3
      have hS3n := Holds.kp (H3.f2.f2)
      refine keepX hS3n (by kernel_rfl) ?_
      refine wd_done (by kernel_rfl) ?_
      refine wq_seq ?_
      refine wc_seq ?_
      refine wc_region ?_
      refine wl_val (r_assign rfl) (ltn rfl) ?_
      refine wl_nil ?_
      refine wq_seq ?_
      refine wc_ret ?_
      refine wq_end1 (.inl rfl) Tryd.results71 rfl ?_
      exact ⟨by rw [if_neg (by omega)], by rw [if_neg (by omega), if_neg (by omega)]; exact Holds.mk_ref r1_p (by omega) (by omega) H3.f2.f2⟩
theorem ref_apply_ret (H : Holds w0 w (RefRep p L pt mk • F)) (hd : FRdI w0 F .i32 d dl) (hi : FRdI w0 F .i32 s il) (hlb : il.length ≤ 140737488355328) : Ret Tryd.prog 69 #[.pointer (some ⟨p, 0, none⟩), .agg #[.int .i64 a, d, s]] w fun v' w' =>
    v' = .int .i64 (appE L a dl il) ∧ Holds w0 w' (RefRep p (appL L a dl il) (appP L pt a dl il) (appM L mk a dl il) • F) := by
  have hL : L.length ≤ 1024 := by obtain ⟨a, c, g1, g2, g3, hc1, hc2, HB⟩ := H.ref; exact g1
  refine ret_enter Tryd.func69 rfl Tryd.ntmps69 (Nat.le_of_ble_eq_true rfl) ?_
  dsimp only [slots0, Nat.reduceAdd]
  refine wc_seq ?_
  refine wc_region ?_
  refine wl_eff (e_boxL (l := [_, _, _]) H rfl rfl) (ltn rfl) ?_
  rintro _ w1 ⟨b1, rfl, H1⟩
  refine wl_val (r_assign rfl) (ltn rfl) ?_
  refine wl_nil ?_
  refine wq_seq ?_
  refine wc_seq ?_
  refine wc_seq ?_
  refine wc_region ?_
  refine wl_val (r_move rfl) (ltn rfl) ?_
  refine wl_val ((by first | exact r_field0 0 Tryd.underlying24 rfl rfl Tryd.sizeOf3 (by decide) rfl | exact r_field 0 Tryd.underlying24 rfl rfl Tryd.sizeOf3 (by decide) rfl)) (ltn rfl) ?_
  refine wl_val (r_load (plain_of Tryd.underlying3 rfl) rfl (cell_of_blk (H1).get.2 rfl)) (ltn rfl) ?_
  refine wl_eff (e_call (r_call rfl Tryd.func54 rfl rfl) (ref_place_rep H1.f2)) (ltn rfl) ?_
  rintro _ _ ⟨rfl, rfl⟩
  refine wl_val (r_not rfl) (ltn rfl) ?_
  refine wl_nil ?_
  refine wq_seq ?_
  refine wc_cond rfl (fun h1 => ?_) (fun h1 => ?_)
  · (try simp only [beq_iff_eq, bne_iff_ne, ne_eq, decide_eq_true_eq, decide_eq_false_iff_not, beq_eq_false_iff_ne, bne_eq_false_iff_eq, Bool.not_eq_true', Bool.not_eq_false', Bool.not_eq_eq_eq_not, Bool.not_true, Bool.not_false, gt_iff_lt, ge_iff_le, Int.not_lt, Int.not_le] at h1)
    try (exfalso; first | contradiction | omega)
    all_goals
      
      refine wc_seq ?_
      refine wc_region ?_
      refine wl_val (r_assign rfl) (ltn rfl) ?_
      refine wl_nil ?_
      refine wq_seq ?_
      refine wc_ret ?_
      refine wq_then_ret ?_
      refine wq_end1 (.inl rfl) Tryd.results69 rfl ?_
      have e : appE L a dl il = 70 := by unfold appE; rw [if_pos (by omega)]
      unfold appL appP appM
      rw [e]
      exact ⟨rfl, H1.right⟩
  · (try simp only [beq_iff_eq, bne_iff_ne, ne_eq, decide_eq_true_eq, decide_eq_false_iff_not, beq_eq_false_iff_ne, bne_eq_false_iff_eq, Bool.not_eq_true', Bool.not_eq_false', Bool.not_eq_eq_eq_not, Bool.not_true, Bool.not_false, gt_iff_lt, ge_iff_le, Int.not_lt, Int.not_le] at h1)
    try (exfalso; first | contradiction | omega)
    all_goals
      
      refine wc_skip ?_
      refine wq_seq ?_
      refine wc_seq ?_
      refine wc_seq ?_
      obtain ⟨ay_p, cy_p, r1_p, r2_p, r3_p, r4_p, r5_p, HR_p⟩ := (H1.f2).ref
      have H3d3 := HR_p.drew
      have hS3d3 := Holds.kp (H3d3.f3.f3.f3)
      refine wd_beginK [1, 6, 9, 16, 18, 20, 22, 27] hS3d3 (by kernel_rfl) (by kernel_rfl) rfl ?_
      refine wd_takeT 0 rfl (by kernel_rfl) (by kernel_rfl) hS3d3 (fun _ => (by first | exact r_field0 1 Tryd.underlying24 rfl rfl Tryd.sizeOf22 (by decide) rfl | exact r_field 1 Tryd.underlying24 rfl rfl Tryd.sizeOf22 (by decide) rfl)) (ltn rfl) ?_
      refine wd_take 1 rfl (by kernel_rfl) (by kernel_rfl) hS3d3 (by decide) (fun W hW => r_load (plain_of Tryd.underlying22 rfl) rfl (cell_of_blk ((Kp.h hW).f3).get.2 rfl)) (ltn rfl) ?_
      refine wd_takeT 2 rfl (by kernel_rfl) (by kernel_rfl) hS3d3 (fun _ => r_lenR (hd _ (H3d3.right.right.right)) Tryd.underlying22 rfl) (ltn rfl) ?_
      refine wd_takeT 3 rfl (by kernel_rfl) (by kernel_rfl) hS3d3 (fun _ => r_move rfl) (ltn rfl) ?_
      refine wd_takeT 4 rfl (by kernel_rfl) (by kernel_rfl) hS3d3 (fun _ => r_nil rfl) (ltn rfl) ?_
      refine wd_takeT 5 rfl (by kernel_rfl) (by kernel_rfl) hS3d3 (fun _ => (by first | exact r_field0 0 Tryd.underlying44 rfl rfl Tryd.sizeOf22 (by decide) rfl | exact r_field 0 Tryd.underlying44 rfl rfl Tryd.sizeOf22 (by decide) rfl)) (ltn rfl) ?_
      refine wd_take 6 rfl (by kernel_rfl) (by kernel_rfl) hS3d3 (by decide) (fun W hW => r_load (plain_of Tryd.underlying22 rfl) rfl (cell_of_blk ((Kp.h hW)).get.2 rfl)) (ltn rfl) ?_
      refine wd_takeT 7 rfl (by kernel_rfl) (by kernel_rfl) hS3d3 (fun _ => r_lenR ((H3d3.f2).row_rd) Tryd.underlying22 rfl) (ltn rfl) ?_
      refine wd_takeT 8 rfl (by kernel_rfl) (by kernel_rfl) hS3d3 (fun _ => (by first | exact r_field0 0 Tryd.underlying24 rfl rfl Tryd.sizeOf3 (by decide) rfl | exact r_field 0 Tryd.underlying24 rfl rfl Tryd.sizeOf3 (by decide) rfl)) (ltn rfl) ?_
      refine wd_take 9 rfl (by kernel_rfl) (by kernel_rfl) hS3d3 (by decide) (fun W hW => r_load (plain_of Tryd.underlying3 rfl) rfl (cell_of_blk ((Kp.h hW).f3).get.2 rfl)) (ltn rfl) ?_
      refine wd_takeT 10 rfl (by kernel_rfl) (by kernel_rfl) hS3d3 (fun _ => r_sub rfl rfl (by omega)) (ltn rfl) ?_
      refine wd_takeT 11 rfl (by kernel_rfl) (by kernel_rfl) hS3d3 (fun _ => r_gtr rfl rfl) (ltn rfl) ?_
      refine wd_split 12 rfl rfl (by kernel_rfl) (by kernel_rfl) hS3d3 (ltn rfl) (fun h2 => ?_) (fun h2 => ?_)
      · (try simp only [beq_iff_eq, bne_iff_ne, ne_eq, decide_eq_true_eq, decide_eq_false_iff_not, beq_eq_false_iff_ne, bne_eq_false_iff_eq, Bool.not_eq_true', Bool.not_eq_false', Bool.not_eq_eq_eq_not, Bool.not_true, Bool.not_false, gt_iff_lt, ge_iff_le, Int.not_lt, Int.not_le] at h2)
        try (exfalso; first | contradiction | omega)
        all_goals
          refine wd_no 13 rfl rfl rfl rfl (by kernel_rfl) (by kernel_rfl) hS3d3 (ltn rfl) ?_
          refine wd_no 14 rfl rfl rfl rfl (by kernel_rfl) (by kernel_rfl) hS3d3 (ltn rfl) ?_
          refine wd_no 15 rfl rfl rfl rfl (by kernel_rfl) (by kernel_rfl) hS3d3 (ltn rfl) ?_
          refine wd_no 16 rfl rfl rfl rfl (by kernel_rfl) (by kernel_rfl) hS3d3 (ltn rfl) ?_
          refine wd_no 17 rfl rfl rfl rfl (by kernel_rfl) (by kernel_rfl) hS3d3 (ltn rfl) ?_
          refine wd_no 18 rfl rfl rfl rfl (by kernel_rfl) (by kernel_rfl) hS3d3 (ltn rfl) ?_
          refine wd_no 19 rfl rfl rfl rfl (by kernel_rfl) (by kernel_rfl) hS3d3 (ltn rfl) ?_
          refine wd_no 20 rfl rfl rfl rfl (by kernel_rfl) (by kernel_rfl) hS3d3 (ltn rfl) ?_
          refine wd_no 21 rfl rfl rfl rfl (by kernel_rfl) (by kernel_rfl) hS3d3 (ltn rfl) ?_
          refine wd_no 22 rfl rfl rfl rfl (by kernel_rfl) (by kernel_rfl) hS3d3 (ltn rfl) ?_
          refine wd_no 23 rfl rfl rfl rfl (by kernel_rfl) (by kernel_rfl) hS3d3 (ltn rfl) ?_
          refine wd_no 24 rfl rfl rfl rfl (by kernel_rfl) (by kernel_rfl) hS3d3 (ltn rfl) ?_
          refine wd_no 25 rfl rfl rfl rfl (by kernel_rfl) (by kernel_rfl) hS3d3 (ltn rfl) ?_
          refine wd_no 26 rfl rfl rfl rfl (by kernel_rfl) (by kernel_rfl) hS3d3 (ltn rfl) ?_
          refine wd_no 27 rfl rfl rfl rfl (by kernel_rfl) (by kernel_rfl) hS3d3 (ltn rfl) ?_
          refine wd_no 28 rfl rfl rfl rfl (by kernel_rfl) (by kernel_rfl) hS3d3 (ltn rfl) ?_
          refine wd_no 29 rfl rfl rfl rfl (by kernel_rfl) (by kernel_rfl) hS3d3 (ltn rfl) ?_
          refine wd_takeT 30 rfl (by kernel_rfl) (by kernel_rfl) hS3d3 (fun _ => r_pick_t rfl rfl) (ltn rfl) ?_
          refine wd_done (by kernel_rfl) ?_
          refine wq_seq ?_
          refine wc_cond_t rfl ?_
          refine wc_seq ?_
          refine wc_region ?_
          refine wl_val (r_assign rfl) (ltn rfl) ?_
          refine wl_nil ?_
          refine wq_seq ?_
          refine wc_ret ?_
          refine wq_then_ret ?_
          refine wq_end1 (.inl rfl) Tryd.results69 rfl ?_
          have e1 : (a + dl.length).toNat - a.toNat = dl.length := by omega
          have hf : fitsE L a dl = false := by
            simp only [fitsE, Bool.and_eq_false_iff, decide_eq_false_iff_not, beq_eq_false_iff_ne, ne_eq]
            first
              | (refine .inl ?_; omega)
              | (refine .inr ?_; rw [e1] at hcond; exact hcond)
          have e : appE L a dl il = 71 := by unfold appE; rw [if_neg (by omega), hf]; rfl
          unfold appL appP appM
          rw [e]
          exact ⟨rfl, Holds.mk_ref r1_p r2_p r3_p H3d3.f3.right.f2.f2⟩
      · (try simp only [beq_iff_eq, bne_iff_ne, ne_eq, decide_eq_true_eq, decide_eq_false_iff_not, beq_eq_false_iff_ne, bne_eq_false_iff_eq, Bool.not_eq_true', Bool.not_eq_false', Bool.not_eq_eq_eq_not, Bool.not_true, Bool.not_false, gt_iff_lt, ge_iff_le, Int.not_lt, Int.not_le] at h2)
        try (exfalso; first | contradiction | omega)
        all_goals
          refine wd_takeT_yes 13 rfl rfl rfl (by kernel_rfl) (by kernel_rfl) hS3d3 (fun _ => r_move rfl) (ltn rfl) ?_
          refine wd_takeT_yes 14 rfl rfl rfl (by kernel_rfl) (by kernel_rfl) hS3d3 (fun _ => r_nil rfl) (ltn rfl) ?_
          refine wd_takeT_yes 15 rfl rfl rfl (by kernel_rfl) (by kernel_rfl) hS3d3 (fun _ => (by first | exact r_field0 0 Tryd.underlying44 rfl rfl Tryd.sizeOf22 (by decide) rfl | exact r_field 0 Tryd.underlying44 rfl rfl Tryd.sizeOf22 (by decide) rfl)) (ltn rfl) ?_
          refine wd_take_yes 16 rfl rfl rfl (by kernel_rfl) (by kernel_rfl) hS3d3 (by decide) (fun W hW => r_load (plain_of Tryd.underlying22 rfl) rfl (cell_of_blk ((Kp.h hW)).get.2 rfl)) (ltn rfl) ?_
          refine wd_takeT_yes 17 rfl rfl rfl (by kernel_rfl) (by kernel_rfl) hS3d3 (fun _ => (by first | exact r_field0 0 Tryd.underlying24 rfl rfl Tryd.sizeOf3 (by decide) rfl | exact r_field 0 Tryd.underlying24 rfl rfl Tryd.sizeOf3 (by decide) rfl)) (ltn rfl) ?_
          refine wd_take_yes 18 rfl rfl rfl (by kernel_rfl) (by kernel_rfl) hS3d3 (by decide) (fun W hW => r_load (plain_of Tryd.underlying3 rfl) rfl (cell_of_blk ((Kp.h hW).f3).get.2 rfl)) (ltn rfl) ?_
          refine wd_takeT_yes 19 rfl rfl rfl (by kernel_rfl) (by kernel_rfl) hS3d3 (fun _ => (by first | exact r_field0 0 Tryd.underlying24 rfl rfl Tryd.sizeOf3 (by decide) rfl | exact r_field 0 Tryd.underlying24 rfl rfl Tryd.sizeOf3 (by decide) rfl)) (ltn rfl) ?_
          refine wd_take_yes 20 rfl rfl rfl (by kernel_rfl) (by kernel_rfl) hS3d3 (by decide) (fun W hW => r_load (plain_of Tryd.underlying3 rfl) rfl (cell_of_blk ((Kp.h hW).f3).get.2 rfl)) (ltn rfl) ?_
          refine wd_takeT_yes 21 rfl rfl rfl (by kernel_rfl) (by kernel_rfl) hS3d3 (fun _ => (by first | exact r_field0 1 Tryd.underlying24 rfl rfl Tryd.sizeOf22 (by decide) rfl | exact r_field 1 Tryd.underlying24 rfl rfl Tryd.sizeOf22 (by decide) rfl)) (ltn rfl) ?_
          refine wd_take_yes 22 rfl rfl rfl (by kernel_rfl) (by kernel_rfl) hS3d3 (by decide) (fun W hW => r_load (plain_of Tryd.underlying22 rfl) rfl (cell_of_blk ((Kp.h hW).f3).get.2 rfl)) (ltn rfl) ?_
          refine wd_takeT_yes 23 rfl rfl rfl (by kernel_rfl) (by kernel_rfl) hS3d3 (fun _ => r_lenR (hd _ (H3d3.right.right.right)) Tryd.underlying22 rfl) (ltn rfl) ?_
          refine wd_takeT_yes 24 rfl rfl rfl (by kernel_rfl) (by kernel_rfl) hS3d3 (fun _ => r_add rfl rfl (by omega)) (ltn rfl) ?_
          refine wd_takeT_yes 25 rfl rfl rfl (by kernel_rfl) (by kernel_rfl) hS3d3 (fun _ => r_sliceS ((H3d3.f2).row_rd) Tryd.underlying22 Tryd.sizeOf21 rfl rfl rfl (by omega)) (ltn rfl) ?_
          refine wd_takeT_yes 26 rfl rfl rfl (by kernel_rfl) (by kernel_rfl) hS3d3 (fun _ => (by first | exact r_field0 1 Tryd.underlying24 rfl rfl Tryd.sizeOf22 (by decide) rfl | exact r_field 1 Tryd.underlying24 rfl rfl Tryd.sizeOf22 (by decide) rfl)) (ltn rfl) ?_
          refine wd_take_yes 27 rfl rfl rfl (by kernel_rfl) (by kernel_rfl) hS3d3 (by decide) (fun W hW => r_load (plain_of Tryd.underlying22 rfl) rfl (cell_of_blk ((Kp.h hW).f3).get.2 rfl)) (ltn rfl) ?_
          refine wd_eff_yes 28 rfl rfl rfl (by kernel_rfl) (e_call (r_call rfl Tryd.func14 rfl rfl) (same_ret _ _ _ _ _ (RdI.cut ((H3d3.f2).row_rd) (by omega) (by omega)) (hd _ (H3d3.right.right.right)))) (ltn rfl) ?_
          rintro _ w4 ⟨rfl, hD4⟩
          have HD4 := H3d3.drewn hD4
          have hS4n := Holds.kp (HD4.f3.f3.f3)
          refine keepX hS4n (by kernel_rfl) ?_
          refine wd_takeT_yes 29 rfl rfl rfl (by kernel_rfl) (by kernel_rfl) hS4n (fun _ => r_not rfl) (ltn rfl) ?_
          refine wd_takeT 30 rfl (by kernel_rfl) (by kernel_rfl) hS4n (fun _ => r_pick_f rfl rfl) (ltn rfl) ?_
          refine wd_done (by kernel_rfl) ?_
          refine wq_seq ?_
          refine wc_cond rfl (fun h3 => ?_) (fun h3 => ?_)
          · (try simp only [beq_iff_eq, bne_iff_ne, ne_eq, decide_eq_true_eq, decide_eq_false_iff_not, beq_eq_false_iff_ne, bne_eq_false_iff_eq, Bool.not_eq_true', Bool.not_eq_false', Bool.not_eq_eq_eq_not, Bool.not_true, Bool.not_false, gt_iff_lt, ge_iff_le, Int.not_lt, Int.not_le] at h3)
            try (exfalso; first | contradiction | omega)
            all_goals
              have hcond := h3
              refine wc_seq ?_
              refine wc_region ?_
              refine wl_val (r_assign rfl) (ltn rfl) ?_
              refine wl_nil ?_
              refine wq_seq ?_
              refine wc_ret ?_
              refine wq_then_ret ?_
              refine wq_end1 (.inl rfl) Tryd.results69 rfl ?_
              have e1 : (a + dl.length).toNat - a.toNat = dl.length := by omega
              have hf : fitsE L a dl = false := by
                simp only [fitsE, Bool.and_eq_false_iff, decide_eq_false_iff_not, beq_eq_false_iff_ne, ne_eq]
                first
                  | (refine .inl ?_; omega)
                  | (refine .inr ?_; rw [e1] at hcond; exact hcond)
              have e : appE L a dl il = 71 := by unfold appE; rw [if_neg (by omega), hf]; rfl
              unfold appL appP appM
              rw [e]
              exact ⟨rfl, Holds.mk_ref r1_p r2_p r3_p HD4.f3.right.f2.f2⟩
          · (try simp only [beq_iff_eq, bne_iff_ne, ne_eq, decide_eq_true_eq, decide_eq_false_iff_not, beq_eq_false_iff_ne, bne_eq_false_iff_eq, Bool.not_eq_true', Bool.not_eq_false', Bool.not_eq_eq_eq_not, Bool.not_true, Bool.not_false, gt_iff_lt, ge_iff_le, Int.not_lt, Int.not_le] at h3)
            try (exfalso; first | contradiction | omega)
            all_goals
              have hcond := h3
              refine wc_skip ?_
              refine wq_seq ?_
              refine wc_seq ?_
              have Ho6 := HD4.f2.f2
              have Hc7 := Holds.mk_ref r1_p r2_p r3_p Ho6
              refine wc_region ?_
              refine wl_val (r_move rfl) (ltn rfl) ?_
              refine wl_val ((by first | exact r_field0 0 Tryd.underlying24 rfl rfl Tryd.sizeOf3 (by decide) rfl | exact r_field 0 Tryd.underlying24 rfl rfl Tryd.sizeOf3 (by decide) rfl)) (ltn rfl) ?_
              refine wl_val (r_load (plain_of Tryd.underlying3 rfl) rfl (cell_of_blk (Hc7.f2).get.2 rfl)) (ltn rfl) ?_
              refine wl_val ((by first | exact r_field0 0 Tryd.underlying24 rfl rfl Tryd.sizeOf3 (by decide) rfl | exact r_field 0 Tryd.underlying24 rfl rfl Tryd.sizeOf3 (by decide) rfl)) (ltn rfl) ?_
              refine wl_val (r_load (plain_of Tryd.underlying3 rfl) rfl (cell_of_blk (Hc7.f2).get.2 rfl)) (ltn rfl) ?_
              refine wl_val ((by first | exact r_field0 1 Tryd.underlying24 rfl rfl Tryd.sizeOf22 (by decide) rfl | exact r_field 1 Tryd.underlying24 rfl rfl Tryd.sizeOf22 (by decide) rfl)) (ltn rfl) ?_
              refine wl_val (r_load (plain_of Tryd.underlying22 rfl) rfl (cell_of_blk (Hc7.f2).get.2 rfl)) (ltn rfl) ?_
              refine wl_val (r_lenR (hd _ (Hc7.right.right)) Tryd.underlying22 rfl) (ltn rfl) ?_
              refine wl_val (r_add rfl rfl (by omega)) (ltn rfl) ?_
              refine wl_val ((by first | exact r_field0 2 Tryd.underlying24 rfl rfl Tryd.sizeOf22 (by decide) rfl | exact r_field 2 Tryd.underlying24 rfl rfl Tryd.sizeOf22 (by decide) rfl)) (ltn rfl) ?_
              refine wl_val (r_load (plain_of Tryd.underlying22 rfl) rfl (cell_of_blk (Hc7.f2).get.2 rfl)) (ltn rfl) ?_
              refine wl_eff (e_call (r_call rfl Tryd.func20 rfl rfl) (ref_replace_ret Hc7 (fun W HW => hi _ (HW.right)) (by (try simp only [List.length_nil]); omega))) (ltn rfl) ?_
              rintro _ w8 ⟨d8, s8, rfl, H8⟩
              refine wl_val (r_move rfl) (ltn rfl) ?_
              refine wl_val (r_extract rfl rfl) (ltn rfl) ?_
              refine wl_val (r_extract rfl rfl) (ltn rfl) ?_
              refine wl_eff (e_allocL (l := [_, _, _]) H8 Tryd.zeroValue24 rfl) (ltn rfl) ?_
              rintro _ w9 ⟨b9, rfl, H9⟩
              refine wl_eff0 (e_storePL 0 (l' := [_, _, _]) (us := [_, _, _]) H9 Tryd.sizeOf24 rfl rfl rfl (ones_cons (by first | rfl | assumption) (ones_cons (by first | rfl | exact Rd.one ((H9.f2).row_rd)) (ones_cons (by first | rfl | exact Rd.one ((H9.f3).row_rd)) ones_nil))) rfl rfl) ?_
              rintro _ w10 H10
              refine wl_val (r_assign rfl) (ltn rfl) ?_
              refine wl_nil ?_
              refine wq_seq ?_
              refine wc_seq ?_
              refine wc_region ?_
              refine wl_val (r_move rfl) (ltn rfl) ?_
              refine wl_val (r_assign rfl) (ltn rfl) ?_
              refine wl_nil ?_
              refine wq_seq ?_
              refine wc_ret ?_
              refine wq_end1 (.inl rfl) Tryd.results69 rfl ?_
              have e1 : (a + dl.length).toNat - a.toNat = dl.length := by omega
              have hf : fitsE L a dl = true := by
                simp only [fitsE, Bool.and_eq_true, decide_eq_true_eq, beq_iff_eq]
                exact ⟨by omega, by rw [e1] at hcond; exact hcond⟩
              have e : appE L a dl il = replE L a (a + dl.length) il := by unfold appE; rw [if_neg (by omega), if_pos hf]
              refine ⟨by rw [e]; rfl, ?_⟩
              unfold appL appP appM
              rw [e]
              by_cases h0 : replE L a (a + dl.length) il = 0
              · simp only [if_pos h0]; exact H10.right.right.right.f2.right
              · simp only [if_neg h0]
                have H9 := H10.right.right.right.f2.right
                unfold replL replP replM at H9
                simpa only [if_neg h0] using H9
end
end Go.Proofs.YtlldaaamdchkdaaDoor
