/- Undo: two edits in one. -/
import Derived.Test.YtaabgcfeghcmnaaUndo1
set_option linter.unusedSimpArgs false
set_option linter.unusedVariables false
namespace Go.Proofs.Ytaabgcfeghcmnaa
open Go.RowKit
section
variable {w0 w : World} {F : HP} {v d s z d2 z2 u1 u2 u3 : Value} {L dl il dl2 il2 l1 l2 l3 : List Int} {a a2 : Int}
/-- Which way two edits are one; that one. -/
def jK (a a2 : Int) (dl il dl2 il2 : List Int) : Nat := if dl2.length = 0 ∧ a2 = a + il.length then 1 else if il.length = 0 ∧ il2.length = 0 ∧ a = a2 + dl2.length then 2 else 0
def jA (k : Nat) (a a2 : Int) : Int := if k = 1 then a else if k = 2 then a2 else 0
def jD (k : Nat) (dl dl2 : List Int) : List Int := if k = 1 then dl else if k = 2 then dl2 ++ dl else []
def jI (k : Nat) (il il2 : List Int) : List Int := if k = 1 then il ++ il2 else []
theorem jK_1 (h : dl2.length = 0) (g : a2 = a + il.length) : jK a a2 dl il dl2 il2 = 1 := by unfold jK; rw [if_pos ⟨h, g⟩]
theorem jK_2 (h : ¬ (dl2.length = 0 ∧ a2 = a + il.length)) (g1 : il.length = 0) (g2 : il2.length = 0) (g3 : a = a2 + dl2.length) : jK a a2 dl il dl2 il2 = 2 := by unfold jK; rw [if_neg h, if_pos ⟨g1, g2, g3⟩]
theorem jK_0 (h : ¬ (dl2.length = 0 ∧ a2 = a + il.length)) (g : ¬ (il.length = 0 ∧ il2.length = 0 ∧ a = a2 + dl2.length)) : jK a a2 dl il dl2 il2 = 0 := by unfold jK; rw [if_neg h, if_neg g]
theorem undo_join_ret (H : Holds w0 w F) (hd : FRdI w0 F .i32 d dl) (hi : FRdI w0 F .i32 z il) (hd2 : FRdI w0 F .i32 d2 dl2) (hi2 : FRdI w0 F .i32 z2 il2) (ba : -9223372036854775808 ≤ a ∧ a ≤ 9223372036854775807) (ba2 : -9223372036854775808 ≤ a2 ∧ a2 ≤ 9223372036854775807)
    (b1 : dl.length + dl2.length ≤ 35184372088832) (b2 : il.length + il2.length ≤ 35184372088832) :
    Ret Try.prog 11 #[edV a d z, edV a2 d2 z2] w fun v' w' => ∃ d' z', v' = .tuple #[edV (jA (jK a a2 dl il dl2 il2) a a2) d' z', .bool (decide (jK a a2 dl il dl2 il2 ≠ 0))] ∧
      Holds w0 w' (RowI 21 .i32 d' (jD (jK a a2 dl il dl2 il2) dl dl2) • RowI 21 .i32 z' (jI (jK a a2 dl il dl2 il2) il il2) • F) := by
  have W1 := IntKind.wrap_i64 (a2 - il.length)
  have W2 := IntKind.wrap_i64 (a - dl2.length)
  refine ret_enter Try.func11 rfl Try.ntmps11 (Nat.le_of_ble_eq_true rfl) ?_
  dsimp only [slots0, Nat.reduceAdd]
  refine wc_seq ?_
  refine wc_region ?_
  refine wl_eff (e_boxL (l := [_, _, _]) H rfl rfl) (ltn rfl) ?_
  rintro _ w1 ⟨b1, rfl, H1⟩
  refine wl_eff (e_boxL (l := [_, _, _]) H1 rfl rfl) (ltn rfl) ?_
  rintro _ w2 ⟨b2, rfl, H2⟩
  refine wl_eff (e_allocL (l := [_, _, _]) H2 Try.zeroValue24 rfl) (ltn rfl) ?_
  rintro _ w3 ⟨b3, rfl, H3⟩
  refine wl_val (r_assign rfl) (ltn rfl) ?_
  refine wl_nil ?_
  refine wq_seq ?_
  refine wc_seq ?_
  refine wc_seq ?_
  refine wc_region ?_
  refine wl_val ((by first | exact r_field0 1 Try.underlying24 rfl rfl Try.sizeOf22 (by decide) rfl | exact r_field 1 Try.underlying24 rfl rfl Try.sizeOf22 (by decide) rfl)) (ltn rfl) ?_
  refine wl_val (r_load (plain_of Try.underlying22 rfl) rfl (cell_of_blk (H3.f2).get.2 rfl)) (ltn rfl) ?_
  refine wl_val (r_lenR (hd2 _ (H3.right.right.right)) Try.underlying22 rfl) (ltn rfl) ?_
  refine wl_val (r_eql rfl rfl) (ltn rfl) ?_
  refine wl_split rfl (ltn rfl) (fun h1 => ?_) (fun h1 => ?_)
  · (try simp only [beq_iff_eq, bne_iff_ne, ne_eq, decide_eq_true_eq, decide_eq_false_iff_not, beq_eq_false_iff_ne, bne_eq_false_iff_eq, Bool.not_eq_true', Bool.not_eq_false', Bool.not_eq_eq_eq_not, Bool.not_true, Bool.not_false, gt_iff_lt, ge_iff_le, Int.not_lt, Int.not_le] at h1)
    try (exfalso; first | contradiction | omega)
    all_goals
      refine wl_yes rfl rfl ?_
      refine wl_val ((by first | exact r_field0 0 Try.underlying24 rfl rfl Try.sizeOf3 (by decide) rfl | exact r_field 0 Try.underlying24 rfl rfl Try.sizeOf3 (by decide) rfl)) (ltn rfl) ?_
      refine wl_yes rfl rfl ?_
      refine wl_val (r_load (plain_of Try.underlying3 rfl) rfl (cell_of_blk (H3.f2).get.2 rfl)) (ltn rfl) ?_
      refine wl_yes rfl rfl ?_
      refine wl_val ((by first | exact r_field0 2 Try.underlying24 rfl rfl Try.sizeOf22 (by decide) rfl | exact r_field 2 Try.underlying24 rfl rfl Try.sizeOf22 (by decide) rfl)) (ltn rfl) ?_
      refine wl_yes rfl rfl ?_
      refine wl_val (r_load (plain_of Try.underlying22 rfl) rfl (cell_of_blk (H3.f3).get.2 rfl)) (ltn rfl) ?_
      refine wl_yes rfl rfl ?_
      refine wl_val (r_lenR (hi _ (H3.right.right.right)) Try.underlying22 rfl) (ltn rfl) ?_
      refine wl_yes rfl rfl ?_
      refine wl_val (r_subK rfl rfl) (ltn rfl) ?_
      refine wl_yes rfl rfl ?_
      refine wl_val ((by first | exact r_field0 0 Try.underlying24 rfl rfl Try.sizeOf3 (by decide) rfl | exact r_field 0 Try.underlying24 rfl rfl Try.sizeOf3 (by decide) rfl)) (ltn rfl) ?_
      refine wl_yes rfl rfl ?_
      refine wl_val (r_load (plain_of Try.underlying3 rfl) rfl (cell_of_blk (H3.f3).get.2 rfl)) (ltn rfl) ?_
      refine wl_yes rfl rfl ?_
      refine wl_val (r_eql rfl rfl) (ltn rfl) ?_
      refine wl_val (r_pick_t rfl rfl) (ltn rfl) ?_
      refine wl_split rfl (ltn rfl) (fun h2 => ?_) (fun h2 => ?_)
      · (try simp only [beq_iff_eq, bne_iff_ne, ne_eq, decide_eq_true_eq, decide_eq_false_iff_not, beq_eq_false_iff_ne, bne_eq_false_iff_eq, Bool.not_eq_true', Bool.not_eq_false', Bool.not_eq_eq_eq_not, Bool.not_true, Bool.not_false, gt_iff_lt, ge_iff_le, Int.not_lt, Int.not_le] at h2)
        try (exfalso; first | contradiction | omega)
        all_goals
          refine wl_yes rfl rfl ?_
          refine wl_val ((by first | exact r_field0 0 Try.underlying24 rfl rfl Try.sizeOf3 (by decide) rfl | exact r_field 0 Try.underlying24 rfl rfl Try.sizeOf3 (by decide) rfl)) (ltn rfl) ?_
          refine wl_yes rfl rfl ?_
          refine wl_val (r_load (plain_of Try.underlying3 rfl) rfl (cell_of_blk (H3.f2).get.2 rfl)) (ltn rfl) ?_
          refine wl_yes rfl rfl ?_
          refine wl_val ((by first | exact r_field0 0 Try.underlying24 rfl rfl Try.sizeOf3 (by decide) rfl | exact r_field 0 Try.underlying24 rfl rfl Try.sizeOf3 (by decide) rfl)) (ltn rfl) ?_
          refine wl_yes rfl rfl ?_
          refine wl_val (r_load (plain_of Try.underlying3 rfl) rfl (cell_of_blk (H3.f3).get.2 rfl)) (ltn rfl) ?_
          refine wl_yes rfl rfl ?_
          refine wl_val (r_geq rfl rfl) (ltn rfl) ?_
          refine wl_val (r_pick_t rfl rfl) (ltn rfl) ?_
          refine wl_nil ?_
          refine wq_seq ?_
          refine wc_cond rfl (fun h3 => ?_) (fun h3 => ?_)
          · (try simp only [beq_iff_eq, bne_iff_ne, ne_eq, decide_eq_true_eq, decide_eq_false_iff_not, beq_eq_false_iff_ne, bne_eq_false_iff_eq, Bool.not_eq_true', Bool.not_eq_false', Bool.not_eq_eq_eq_not, Bool.not_true, Bool.not_false, gt_iff_lt, ge_iff_le, Int.not_lt, Int.not_le] at h3)
            try (exfalso; first | contradiction | omega)
            all_goals
              
              refine wc_seq ?_
              have H2d3 := H3.drew
              have hS2d3 := Holds.kp (H2d3.f3.f3.f3)
              refine wd_beginK [1, 3, 6, 8] hS2d3 (by kernel_rfl) (by kernel_rfl) rfl ?_
              refine wd_takeT 0 rfl (by kernel_rfl) (by kernel_rfl) hS2d3 (fun _ => (by first | exact r_field0 0 Try.underlying24 rfl rfl Try.sizeOf3 (by decide) rfl | exact r_field 0 Try.underlying24 rfl rfl Try.sizeOf3 (by decide) rfl)) (ltn rfl) ?_
              refine wd_take 1 rfl (by kernel_rfl) (by kernel_rfl) hS2d3 (by decide) (fun W hW => r_load (plain_of Try.underlying3 rfl) rfl (cell_of_blk ((Kp.h hW).f3).get.2 rfl)) (ltn rfl) ?_
              refine wd_takeT 2 rfl (by kernel_rfl) (by kernel_rfl) hS2d3 (fun _ => (by first | exact r_field0 1 Try.underlying24 rfl rfl Try.sizeOf22 (by decide) rfl | exact r_field 1 Try.underlying24 rfl rfl Try.sizeOf22 (by decide) rfl)) (ltn rfl) ?_
              refine wd_take 3 rfl (by kernel_rfl) (by kernel_rfl) hS2d3 (by decide) (fun W hW => r_load (plain_of Try.underlying22 rfl) rfl (cell_of_blk ((Kp.h hW).f3).get.2 rfl)) (ltn rfl) ?_
              refine wd_takeT 5 rfl (by kernel_rfl) (by kernel_rfl) hS2d3 (fun _ => (by first | exact r_field0 2 Try.underlying24 rfl rfl Try.sizeOf22 (by decide) rfl | exact r_field 2 Try.underlying24 rfl rfl Try.sizeOf22 (by decide) rfl)) (ltn rfl) ?_
              refine wd_take 6 rfl (by kernel_rfl) (by kernel_rfl) hS2d3 (by decide) (fun W hW => r_load (plain_of Try.underlying22 rfl) rfl (cell_of_blk ((Kp.h hW).f3).get.2 rfl)) (ltn rfl) ?_
              refine wd_takeT 7 rfl (by kernel_rfl) (by kernel_rfl) hS2d3 (fun _ => (by first | exact r_field0 2 Try.underlying24 rfl rfl Try.sizeOf22 (by decide) rfl | exact r_field 2 Try.underlying24 rfl rfl Try.sizeOf22 (by decide) rfl)) (ltn rfl) ?_
              refine wd_take 8 rfl (by kernel_rfl) (by kernel_rfl) hS2d3 (by decide) (fun W hW => r_load (plain_of Try.underlying22 rfl) rfl (cell_of_blk ((Kp.h hW).f2).get.2 rfl)) (ltn rfl) ?_
              refine wd_two (i := 4) (j := 9) (by kernel_rfl) ?_ ?_
              · skip
                refine wdi_eff 4 rfl (by kernel_rfl) (e_call (r_call rfl Try.func48 rfl rfl) (clone_ret H2d3 (fun W HW => hd _ (HW.right.right.right)) (by omega))) (ltn rfl) ?_
                rintro u4 w4 H4
                have hS4n := Holds.kp (H4.f4.f4.f4.f4)
                refine keepK hS4n (fun W hW => (Kp.h hW).right.f3.f3.f3) ?_
                refine wd_eff 9 rfl (by kernel_rfl) (e_lit_row (vs := [_, _]) H4 Try.underlying54 Try.sizeOf22 Try.zeroValue22 rfl rfl rfl (by decide) (ones_cons (by first | rfl | exact Rd.one (hi _ (H4.right.right.right.right))) (ones_cons (by first | rfl | exact Rd.one (hi2 _ (H4.right.right.right.right))) ones_nil))) (ltn rfl) ?_
                rintro l5 w5 H5
                have hS5n := Holds.kp (H5.f5.f5.f5.f5.f5)
                refine keepK hS5n (fun W hW => (Kp.h hW).right.f4.f4.f4.f4) ?_
                refine wd_eff 10 rfl (by kernel_rfl) (e_call (r_call rfl Try.func46 rfl rfl) (concat2_any H5 (fun W HW => (HW).row_rd) (fun W HW => hi _ (HW.right.right.right.right.right)) (fun W HW => hi2 _ (HW.right.right.right.right.right)) (by first|omega|(simp only [List.length_take, List.length_drop]; omega)))) (ltn rfl) ?_
                rintro u6 w6 H6
                have hS6n := Holds.kp (H6.f6.f6.f6.f6.f6.f6)
                refine keepK hS6n (fun W hW => (Kp.h hW).right.f5.f5.f5.f5.f5) ?_
                obtain ⟨au4, cu4, eu4, -⟩ := RdI.open ((H6.f3).row_rd)
                subst eu4
                obtain ⟨au6, cu6, eu6, -⟩ := RdI.open ((H6).row_rd)
                subst eu6
                refine wd_takeT 11 rfl (by kernel_rfl) (by kernel_rfl) hS6n (fun _ => r_build (pl := #[(0, 1), (1, 1), (2, 1)]) (_) Try.underlying24 Try.zeroValue24 (fun w => by kernel_rfl) rfl (rfl)) (ltn rfl) ?_
                refine wd_eff0 12 rfl (by kernel_rfl) (e_storePL 0 (l' := [_, _, _]) (us := [_, _, _]) H6.f4 Try.sizeOf24 rfl rfl rfl (ones_cons (by first | rfl | assumption) (ones_cons (by first | rfl | exact Rd.one ((H6.f3).row_rd)) (ones_cons (by first | rfl | exact Rd.one ((H6).row_rd)) ones_nil))) rfl rfl) ?_
                rintro _ w9 H9
                have hS9n := Holds.kp (H9.f6.f6.f6.f6.f6.f6)
                refine keepX hS9n (by kernel_rfl) ?_
                refine wd_takeT 13 rfl (by kernel_rfl) (by kernel_rfl) hS9n (fun _ => r_assign rfl) (ltn rfl) ?_
                refine wd_done (by kernel_rfl) ?_
                refine wq_seq ?_
                refine wc_ret ?_
                refine wq_then_ret ?_
                refine wq_end (.inl rfl) (resCT Try.results11 rfl rfl Try.underlying24 rfl (by rw [show (Try.prog.info? 24).map (·.size) = some 3 from by kernel_rfl]; rfl) (H9).get.2) ?_
                rw [jK_1 (by omega) (by omega)]
                exact ⟨_, _, rfl, H9.right.f2.right.f3.right.f3.right.f2⟩
              · skip
                refine wdi_eff 9 rfl (by kernel_rfl) (e_lit_row (vs := [_, _]) H2d3 Try.underlying54 Try.sizeOf22 Try.zeroValue22 rfl rfl rfl (by decide) (ones_cons (by first | rfl | exact Rd.one (hi _ (H2d3.right.right.right))) (ones_cons (by first | rfl | exact Rd.one (hi2 _ (H2d3.right.right.right))) ones_nil))) (ltn rfl) ?_
                rintro l10 w10 H10
                have hS10n := Holds.kp (H10.f4.f4.f4.f4)
                refine keepK hS10n (fun W hW => (Kp.h hW).right.f3.f3.f3) ?_
                refine wd_eff 4 rfl (by kernel_rfl) (e_call (r_call rfl Try.func48 rfl rfl) (clone_ret H10 (fun W HW => hd _ (HW.right.right.right.right)) (by omega))) (ltn rfl) ?_
                rintro u11 w11 H11
                have hS11n := Holds.kp (H11.f5.f5.f5.f5.f5)
                refine keepK hS11n (fun W hW => (Kp.h hW).right.f4.f4.f4.f4) ?_
                refine wd_eff 10 rfl (by kernel_rfl) (e_call (r_call rfl Try.func46 rfl rfl) (concat2_any H11 (fun W HW => (HW.f2).row_rd) (fun W HW => hi _ (HW.right.right.right.right.right)) (fun W HW => hi2 _ (HW.right.right.right.right.right)) (by first|omega|(simp only [List.length_take, List.length_drop]; omega)))) (ltn rfl) ?_
                rintro u12 w12 H12
                have hS12n := Holds.kp (H12.f6.f6.f6.f6.f6.f6)
                refine keepK hS12n (fun W hW => (Kp.h hW).right.f5.f5.f5.f5.f5) ?_
                obtain ⟨au11, cu11, eu11, -⟩ := RdI.open ((H12.f2).row_rd)
                subst eu11
                obtain ⟨au12, cu12, eu12, -⟩ := RdI.open ((H12).row_rd)
                subst eu12
                refine wd_takeT 11 rfl (by kernel_rfl) (by kernel_rfl) hS12n (fun _ => r_build (pl := #[(0, 1), (1, 1), (2, 1)]) (_) Try.underlying24 Try.zeroValue24 (fun w => by kernel_rfl) rfl (rfl)) (ltn rfl) ?_
                refine wd_eff0 12 rfl (by kernel_rfl) (e_storePL 0 (l' := [_, _, _]) (us := [_, _, _]) H12.f4 Try.sizeOf24 rfl rfl rfl (ones_cons (by first | rfl | assumption) (ones_cons (by first | rfl | exact Rd.one ((H12.f2).row_rd)) (ones_cons (by first | rfl | exact Rd.one ((H12).row_rd)) ones_nil))) rfl rfl) ?_
                rintro _ w15 H15
                have hS15n := Holds.kp (H15.f6.f6.f6.f6.f6.f6)
                refine keepX hS15n (by kernel_rfl) ?_
                refine wd_takeT 13 rfl (by kernel_rfl) (by kernel_rfl) hS15n (fun _ => r_assign rfl) (ltn rfl) ?_
                refine wd_done (by kernel_rfl) ?_
                refine wq_seq ?_
                refine wc_ret ?_
                refine wq_then_ret ?_
                refine wq_end (.inl rfl) (resCT Try.results11 rfl rfl Try.underlying24 rfl (by rw [show (Try.prog.info? 24).map (·.size) = some 3 from by kernel_rfl]; rfl) (H15).get.2) ?_
                rw [jK_1 (by omega) (by omega)]
                exact ⟨_, _, rfl, H15.right.f3.right.f3.right.f3.right.f2⟩
          · (try simp only [beq_iff_eq, bne_iff_ne, ne_eq, decide_eq_true_eq, decide_eq_false_iff_not, beq_eq_false_iff_ne, bne_eq_false_iff_eq, Bool.not_eq_true', Bool.not_eq_false', Bool.not_eq_eq_eq_not, Bool.not_true, Bool.not_false, gt_iff_lt, ge_iff_le, Int.not_lt, Int.not_le] at h3)
            try (exfalso; first | contradiction | omega)
            all_goals
              
              refine wc_skip ?_
              refine wq_seq ?_
              refine wc_seq ?_
              refine wc_seq ?_
              refine wc_region ?_
              refine wl_val ((by first | exact r_field0 2 Try.underlying24 rfl rfl Try.sizeOf22 (by decide) rfl | exact r_field 2 Try.underlying24 rfl rfl Try.sizeOf22 (by decide) rfl)) (ltn rfl) ?_
              refine wl_val (r_load (plain_of Try.underlying22 rfl) rfl (cell_of_blk (H3.f3).get.2 rfl)) (ltn rfl) ?_
              refine wl_val (r_lenR (hi _ (H3.right.right.right)) Try.underlying22 rfl) (ltn rfl) ?_
              refine wl_val (r_eql rfl rfl) (ltn rfl) ?_
              refine wl_split rfl (ltn rfl) (fun h4 => ?_) (fun h4 => ?_)
              · (try simp only [beq_iff_eq, bne_iff_ne, ne_eq, decide_eq_true_eq, decide_eq_false_iff_not, beq_eq_false_iff_ne, bne_eq_false_iff_eq, Bool.not_eq_true', Bool.not_eq_false', Bool.not_eq_eq_eq_not, Bool.not_true, Bool.not_false, gt_iff_lt, ge_iff_le, Int.not_lt, Int.not_le] at h4)
                try (exfalso; first | contradiction | omega)
                all_goals
                  refine wl_yes rfl rfl ?_
                  refine wl_val ((by first | exact r_field0 2 Try.underlying24 rfl rfl Try.sizeOf22 (by decide) rfl | exact r_field 2 Try.underlying24 rfl rfl Try.sizeOf22 (by decide) rfl)) (ltn rfl) ?_
                  refine wl_yes rfl rfl ?_
                  refine wl_val (r_load (plain_of Try.underlying22 rfl) rfl (cell_of_blk (H3.f2).get.2 rfl)) (ltn rfl) ?_
                  refine wl_yes rfl rfl ?_
                  refine wl_val (r_lenR (hi2 _ (H3.right.right.right)) Try.underlying22 rfl) (ltn rfl) ?_
                  refine wl_yes rfl rfl ?_
                  refine wl_val (r_eql rfl rfl) (ltn rfl) ?_
                  refine wl_val (r_pick_t rfl rfl) (ltn rfl) ?_
                  refine wl_split rfl (ltn rfl) (fun h5 => ?_) (fun h5 => ?_)
                  · (try simp only [beq_iff_eq, bne_iff_ne, ne_eq, decide_eq_true_eq, decide_eq_false_iff_not, beq_eq_false_iff_ne, bne_eq_false_iff_eq, Bool.not_eq_true', Bool.not_eq_false', Bool.not_eq_eq_eq_not, Bool.not_true, Bool.not_false, gt_iff_lt, ge_iff_le, Int.not_lt, Int.not_le] at h5)
                    try (exfalso; first | contradiction | omega)
                    all_goals
                      refine wl_yes rfl rfl ?_
                      refine wl_val ((by first | exact r_field0 0 Try.underlying24 rfl rfl Try.sizeOf3 (by decide) rfl | exact r_field 0 Try.underlying24 rfl rfl Try.sizeOf3 (by decide) rfl)) (ltn rfl) ?_
                      refine wl_yes rfl rfl ?_
                      refine wl_val (r_load (plain_of Try.underlying3 rfl) rfl (cell_of_blk (H3.f3).get.2 rfl)) (ltn rfl) ?_
                      refine wl_yes rfl rfl ?_
                      refine wl_val ((by first | exact r_field0 1 Try.underlying24 rfl rfl Try.sizeOf22 (by decide) rfl | exact r_field 1 Try.underlying24 rfl rfl Try.sizeOf22 (by decide) rfl)) (ltn rfl) ?_
                      refine wl_yes rfl rfl ?_
                      refine wl_val (r_load (plain_of Try.underlying22 rfl) rfl (cell_of_blk (H3.f2).get.2 rfl)) (ltn rfl) ?_
                      refine wl_yes rfl rfl ?_
                      refine wl_val (r_lenR (hd2 _ (H3.right.right.right)) Try.underlying22 rfl) (ltn rfl) ?_
                      refine wl_yes rfl rfl ?_
                      refine wl_val (r_subK rfl rfl) (ltn rfl) ?_
                      refine wl_yes rfl rfl ?_
                      refine wl_val ((by first | exact r_field0 0 Try.underlying24 rfl rfl Try.sizeOf3 (by decide) rfl | exact r_field 0 Try.underlying24 rfl rfl Try.sizeOf3 (by decide) rfl)) (ltn rfl) ?_
                      refine wl_yes rfl rfl ?_
                      refine wl_val (r_load (plain_of Try.underlying3 rfl) rfl (cell_of_blk (H3.f2).get.2 rfl)) (ltn rfl) ?_
                      refine wl_yes rfl rfl ?_
                      refine wl_val (r_eql rfl rfl) (ltn rfl) ?_
                      refine wl_val (r_pick_t rfl rfl) (ltn rfl) ?_
                      refine wl_split rfl (ltn rfl) (fun h6 => ?_) (fun h6 => ?_)
                      · (try simp only [beq_iff_eq, bne_iff_ne, ne_eq, decide_eq_true_eq, decide_eq_false_iff_not, beq_eq_false_iff_ne, bne_eq_false_iff_eq, Bool.not_eq_true', Bool.not_eq_false', Bool.not_eq_eq_eq_not, Bool.not_true, Bool.not_false, gt_iff_lt, ge_iff_le, Int.not_lt, Int.not_le] at h6)
                        try (exfalso; first | contradiction | omega)
                        all_goals
                          refine wl_yes rfl rfl ?_
                          refine wl_val ((by first | exact r_field0 0 Try.underlying24 rfl rfl Try.sizeOf3 (by decide) rfl | exact r_field 0 Try.underlying24 rfl rfl Try.sizeOf3 (by decide) rfl)) (ltn rfl) ?_
                          refine wl_yes rfl rfl ?_
                          refine wl_val (r_load (plain_of Try.underlying3 rfl) rfl (cell_of_blk (H3.f2).get.2 rfl)) (ltn rfl) ?_
                          refine wl_yes rfl rfl ?_
                          refine wl_val ((by first | exact r_field0 0 Try.underlying24 rfl rfl Try.sizeOf3 (by decide) rfl | exact r_field 0 Try.underlying24 rfl rfl Try.sizeOf3 (by decide) rfl)) (ltn rfl) ?_
                          refine wl_yes rfl rfl ?_
                          refine wl_val (r_load (plain_of Try.underlying3 rfl) rfl (cell_of_blk (H3.f3).get.2 rfl)) (ltn rfl) ?_
                          refine wl_yes rfl rfl ?_
                          refine wl_val (r_leq rfl rfl) (ltn rfl) ?_
                          refine wl_val (r_pick_t rfl rfl) (ltn rfl) ?_
                          refine wl_nil ?_
                          refine wq_seq ?_
                          refine wc_cond rfl (fun h7 => ?_) (fun h7 => ?_)
                          · (try simp only [beq_iff_eq, bne_iff_ne, ne_eq, decide_eq_true_eq, decide_eq_false_iff_not, beq_eq_false_iff_ne, bne_eq_false_iff_eq, Bool.not_eq_true', Bool.not_eq_false', Bool.not_eq_eq_eq_not, Bool.not_true, Bool.not_false, gt_iff_lt, ge_iff_le, Int.not_lt, Int.not_le] at h7)
                            try (exfalso; first | contradiction | omega)
                            all_goals
                              
                              refine wc_seq ?_
                              have H4d15 := H3.drew
                              have hS4d15 := Holds.kp (H4d15.f3.f3.f3)
                              refine wd_beginK [1, 3, 5] hS4d15 (by kernel_rfl) (by kernel_rfl) rfl ?_
                              refine wd_takeT 0 rfl (by kernel_rfl) (by kernel_rfl) hS4d15 (fun _ => (by first | exact r_field0 0 Try.underlying24 rfl rfl Try.sizeOf3 (by decide) rfl | exact r_field 0 Try.underlying24 rfl rfl Try.sizeOf3 (by decide) rfl)) (ltn rfl) ?_
                              refine wd_take 1 rfl (by kernel_rfl) (by kernel_rfl) hS4d15 (by decide) (fun W hW => r_load (plain_of Try.underlying3 rfl) rfl (cell_of_blk ((Kp.h hW).f2).get.2 rfl)) (ltn rfl) ?_
                              refine wd_takeT 2 rfl (by kernel_rfl) (by kernel_rfl) hS4d15 (fun _ => (by first | exact r_field0 1 Try.underlying24 rfl rfl Try.sizeOf22 (by decide) rfl | exact r_field 1 Try.underlying24 rfl rfl Try.sizeOf22 (by decide) rfl)) (ltn rfl) ?_
                              refine wd_take 3 rfl (by kernel_rfl) (by kernel_rfl) hS4d15 (by decide) (fun W hW => r_load (plain_of Try.underlying22 rfl) rfl (cell_of_blk ((Kp.h hW).f2).get.2 rfl)) (ltn rfl) ?_
                              refine wd_takeT 4 rfl (by kernel_rfl) (by kernel_rfl) hS4d15 (fun _ => (by first | exact r_field0 1 Try.underlying24 rfl rfl Try.sizeOf22 (by decide) rfl | exact r_field 1 Try.underlying24 rfl rfl Try.sizeOf22 (by decide) rfl)) (ltn rfl) ?_
                              refine wd_take 5 rfl (by kernel_rfl) (by kernel_rfl) hS4d15 (by decide) (fun W hW => r_load (plain_of Try.underlying22 rfl) rfl (cell_of_blk ((Kp.h hW).f3).get.2 rfl)) (ltn rfl) ?_
                              refine wd_eff 6 rfl (by kernel_rfl) (e_lit_row (vs := [_, _]) H4d15 Try.underlying54 Try.sizeOf22 Try.zeroValue22 rfl rfl rfl (by decide) (ones_cons (by first | rfl | exact Rd.one (hd2 _ (H4d15.right.right.right))) (ones_cons (by first | rfl | exact Rd.one (hd _ (H4d15.right.right.right))) ones_nil))) (ltn rfl) ?_
                              rintro l16 w16 H16
                              have hS16n := Holds.kp (H16.f4.f4.f4.f4)
                              refine keepK hS16n (fun W hW => (Kp.h hW).right.f3.f3.f3) ?_
                              refine wd_eff 7 rfl (by kernel_rfl) (e_call (r_call rfl Try.func46 rfl rfl) (concat2_any H16 (fun W HW => (HW).row_rd) (fun W HW => hd2 _ (HW.right.right.right.right)) (fun W HW => hd _ (HW.right.right.right.right)) (by first|omega|(simp only [List.length_take, List.length_drop]; omega)))) (ltn rfl) ?_
                              rintro u17 w17 H17
                              have hS17n := Holds.kp (H17.f5.f5.f5.f5.f5)
                              refine keepK hS17n (fun W hW => (Kp.h hW).right.f4.f4.f4.f4) ?_
                              obtain ⟨au17, cu17, eu17, -⟩ := RdI.open ((H17).row_rd)
                              subst eu17
                              refine wd_takeT 8 rfl (by kernel_rfl) (by kernel_rfl) hS17n (fun _ => r_build (pl := #[(0, 1), (1, 1), (2, 1)]) (_) Try.underlying24 Try.zeroValue24 (fun w => by kernel_rfl) rfl (rfl)) (ltn rfl) ?_
                              refine wd_eff0 9 rfl (by kernel_rfl) (e_storePL 0 (l' := [_, _, _]) (us := [_, _, _]) H17.f3 Try.sizeOf24 rfl rfl rfl (ones_cons (by first | rfl | assumption) (ones_cons (by first | rfl | exact Rd.one ((H17).row_rd)) (ones_cons (by first | rfl | assumption) ones_nil))) rfl rfl) ?_
                              rintro _ w19 H19
                              have hS19n := Holds.kp (H19.f5.f5.f5.f5.f5)
                              refine keepX hS19n (by kernel_rfl) ?_
                              refine wd_takeT 10 rfl (by kernel_rfl) (by kernel_rfl) hS19n (fun _ => r_assign rfl) (ltn rfl) ?_
                              refine wd_done (by kernel_rfl) ?_
                              refine wq_seq ?_
                              refine wc_ret ?_
                              refine wq_then_ret ?_
                              refine wq_end (.inl rfl) (resCT Try.results11 rfl rfl Try.underlying24 rfl (by rw [show (Try.prog.info? 24).map (·.size) = some 3 from by kernel_rfl]; rfl) (H19).get.2) ?_
                              rw [jK_2 (by omega) (by omega) (by omega) (by omega)]
                              exact ⟨_, _, rfl, ((H19.right.f2.right.f2.right.f2.right).row_nil none).swap⟩
                          · (try simp only [beq_iff_eq, bne_iff_ne, ne_eq, decide_eq_true_eq, decide_eq_false_iff_not, beq_eq_false_iff_ne, bne_eq_false_iff_eq, Bool.not_eq_true', Bool.not_eq_false', Bool.not_eq_eq_eq_not, Bool.not_true, Bool.not_false, gt_iff_lt, ge_iff_le, Int.not_lt, Int.not_le] at h7)
                            try (exfalso; first | contradiction | omega)
                            all_goals
                              
                              refine wc_skip ?_
                              refine wq_seq ?_
                              refine wc_seq ?_
                              refine wc_region ?_
                              refine wl_val (r_build (pl := #[(0, 1), (1, 1), (2, 1)]) (_) Try.underlying24 Try.zeroValue24 (fun w => by kernel_rfl) rfl (rfl)) (ltn rfl) ?_
                              refine wl_eff0 (e_storePL 0 (l' := [_, _, _]) (us := [_, _, _]) H3 Try.sizeOf24 rfl rfl rfl (ones_cons (by first | rfl | assumption) (ones_cons (by first | rfl | assumption) (ones_cons (by first | rfl | assumption) ones_nil))) rfl rfl) ?_
                              rintro _ w20 H20
                              refine wl_val (r_assign rfl) (ltn rfl) ?_
                              refine wl_nil ?_
                              refine wq_seq ?_
                              refine wc_ret ?_
                              refine wq_end (.inl rfl) (resCT Try.results11 rfl rfl Try.underlying24 rfl (by rw [show (Try.prog.info? 24).map (·.size) = some 3 from by kernel_rfl]; rfl) (H20).get.2) ?_
                              rw [jK_0 (by omega) (by omega)]
                              exact ⟨_, _, rfl, ((H20.right.right.right).row_nil none).row_nil none⟩
                      · (try simp only [beq_iff_eq, bne_iff_ne, ne_eq, decide_eq_true_eq, decide_eq_false_iff_not, beq_eq_false_iff_ne, bne_eq_false_iff_eq, Bool.not_eq_true', Bool.not_eq_false', Bool.not_eq_eq_eq_not, Bool.not_true, Bool.not_false, gt_iff_lt, ge_iff_le, Int.not_lt, Int.not_le] at h6)
                        try (exfalso; first | contradiction | omega)
                        all_goals
                          refine wl_no rfl rfl rfl (ltn rfl) ?_
                          refine wl_no rfl rfl rfl (ltn rfl) ?_
                          refine wl_no rfl rfl rfl (ltn rfl) ?_
                          refine wl_no rfl rfl rfl (ltn rfl) ?_
                          refine wl_no rfl rfl rfl (ltn rfl) ?_
                          refine wl_val (r_pick_f rfl rfl) (ltn rfl) ?_
                          refine wl_nil ?_
                          refine wq_seq ?_
                          refine wc_cond_f rfl ?_
                          refine wc_skip ?_
                          refine wq_seq ?_
                          refine wc_seq ?_
                          refine wc_region ?_
                          refine wl_val (r_build (pl := #[(0, 1), (1, 1), (2, 1)]) (_) Try.underlying24 Try.zeroValue24 (fun w => by kernel_rfl) rfl (rfl)) (ltn rfl) ?_
                          refine wl_eff0 (e_storePL 0 (l' := [_, _, _]) (us := [_, _, _]) H3 Try.sizeOf24 rfl rfl rfl (ones_cons (by first | rfl | assumption) (ones_cons (by first | rfl | assumption) (ones_cons (by first | rfl | assumption) ones_nil))) rfl rfl) ?_
                          rintro _ w21 H21
                          refine wl_val (r_assign rfl) (ltn rfl) ?_
                          refine wl_nil ?_
                          refine wq_seq ?_
                          refine wc_ret ?_
                          refine wq_end (.inl rfl) (resCT Try.results11 rfl rfl Try.underlying24 rfl (by rw [show (Try.prog.info? 24).map (·.size) = some 3 from by kernel_rfl]; rfl) (H21).get.2) ?_
                          rw [jK_0 (by omega) (by omega)]
                          exact ⟨_, _, rfl, ((H21.right.right.right).row_nil none).row_nil none⟩
                  · (try simp only [beq_iff_eq, bne_iff_ne, ne_eq, decide_eq_true_eq, decide_eq_false_iff_not, beq_eq_false_iff_ne, bne_eq_false_iff_eq, Bool.not_eq_true', Bool.not_eq_false', Bool.not_eq_eq_eq_not, Bool.not_true, Bool.not_false, gt_iff_lt, ge_iff_le, Int.not_lt, Int.not_le] at h5)
                    try (exfalso; first | contradiction | omega)
                    all_goals
                      refine wl_no rfl rfl rfl (ltn rfl) ?_
                      refine wl_no rfl rfl rfl (ltn rfl) ?_
                      refine wl_no rfl rfl rfl (ltn rfl) ?_
                      refine wl_no rfl rfl rfl (ltn rfl) ?_
                      refine wl_no rfl rfl rfl (ltn rfl) ?_
                      refine wl_no rfl rfl rfl (ltn rfl) ?_
                      refine wl_no rfl rfl rfl (ltn rfl) ?_
                      refine wl_no rfl rfl rfl (ltn rfl) ?_
                      refine wl_no rfl rfl rfl (ltn rfl) ?_
                      refine wl_val (r_pick_f rfl rfl) (ltn rfl) ?_
                      refine wl_val (r_move rfl) (ltn rfl) ?_
                      refine wl_no rfl rfl rfl (ltn rfl) ?_
                      refine wl_no rfl rfl rfl (ltn rfl) ?_
                      refine wl_no rfl rfl rfl (ltn rfl) ?_
                      refine wl_no rfl rfl rfl (ltn rfl) ?_
                      refine wl_no rfl rfl rfl (ltn rfl) ?_
                      refine wl_val (r_pick_f rfl rfl) (ltn rfl) ?_
                      refine wl_nil ?_
                      refine wq_seq ?_
                      refine wc_cond_f rfl ?_
                      refine wc_skip ?_
                      refine wq_seq ?_
                      refine wc_seq ?_
                      refine wc_region ?_
                      refine wl_val (r_build (pl := #[(0, 1), (1, 1), (2, 1)]) (_) Try.underlying24 Try.zeroValue24 (fun w => by kernel_rfl) rfl (rfl)) (ltn rfl) ?_
                      refine wl_eff0 (e_storePL 0 (l' := [_, _, _]) (us := [_, _, _]) H3 Try.sizeOf24 rfl rfl rfl (ones_cons (by first | rfl | assumption) (ones_cons (by first | rfl | assumption) (ones_cons (by first | rfl | assumption) ones_nil))) rfl rfl) ?_
                      rintro _ w22 H22
                      refine wl_val (r_assign rfl) (ltn rfl) ?_
                      refine wl_nil ?_
                      refine wq_seq ?_
                      refine wc_ret ?_
                      refine wq_end (.inl rfl) (resCT Try.results11 rfl rfl Try.underlying24 rfl (by rw [show (Try.prog.info? 24).map (·.size) = some 3 from by kernel_rfl]; rfl) (H22).get.2) ?_
                      rw [jK_0 (by omega) (by omega)]
                      exact ⟨_, _, rfl, ((H22.right.right.right).row_nil none).row_nil none⟩
              · (try simp only [beq_iff_eq, bne_iff_ne, ne_eq, decide_eq_true_eq, decide_eq_false_iff_not, beq_eq_false_iff_ne, bne_eq_false_iff_eq, Bool.not_eq_true', Bool.not_eq_false', Bool.not_eq_eq_eq_not, Bool.not_true, Bool.not_false, gt_iff_lt, ge_iff_le, Int.not_lt, Int.not_le] at h4)
                try (exfalso; first | contradiction | omega)
                all_goals
                  refine wl_no rfl rfl rfl (ltn rfl) ?_
                  refine wl_no rfl rfl rfl (ltn rfl) ?_
                  refine wl_no rfl rfl rfl (ltn rfl) ?_
                  refine wl_no rfl rfl rfl (ltn rfl) ?_
                  refine wl_val (r_pick_f rfl rfl) (ltn rfl) ?_
                  refine wl_val (r_move rfl) (ltn rfl) ?_
                  refine wl_no rfl rfl rfl (ltn rfl) ?_
                  refine wl_no rfl rfl rfl (ltn rfl) ?_
                  refine wl_no rfl rfl rfl (ltn rfl) ?_
                  refine wl_no rfl rfl rfl (ltn rfl) ?_
                  refine wl_no rfl rfl rfl (ltn rfl) ?_
                  refine wl_no rfl rfl rfl (ltn rfl) ?_
                  refine wl_no rfl rfl rfl (ltn rfl) ?_
                  refine wl_no rfl rfl rfl (ltn rfl) ?_
                  refine wl_no rfl rfl rfl (ltn rfl) ?_
                  refine wl_val (r_pick_f rfl rfl) (ltn rfl) ?_
                  refine wl_val (r_move rfl) (ltn rfl) ?_
                  refine wl_no rfl rfl rfl (ltn rfl) ?_
                  refine wl_no rfl rfl rfl (ltn rfl) ?_
                  refine wl_no rfl rfl rfl (ltn rfl) ?_
                  refine wl_no rfl rfl rfl (ltn rfl) ?_
                  refine wl_no rfl rfl rfl (ltn rfl) ?_
                  refine wl_val (r_pick_f rfl rfl) (ltn rfl) ?_
                  refine wl_nil ?_
                  refine wq_seq ?_
                  refine wc_cond_f rfl ?_
                  refine wc_skip ?_
                  refine wq_seq ?_
                  refine wc_seq ?_
                  refine wc_region ?_
                  refine wl_val (r_build (pl := #[(0, 1), (1, 1), (2, 1)]) (_) Try.underlying24 Try.zeroValue24 (fun w => by kernel_rfl) rfl (rfl)) (ltn rfl) ?_
                  refine wl_eff0 (e_storePL 0 (l' := [_, _, _]) (us := [_, _, _]) H3 Try.sizeOf24 rfl rfl rfl (ones_cons (by first | rfl | assumption) (ones_cons (by first | rfl | assumption) (ones_cons (by first | rfl | assumption) ones_nil))) rfl rfl) ?_
                  rintro _ w23 H23
                  refine wl_val (r_assign rfl) (ltn rfl) ?_
                  refine wl_nil ?_
                  refine wq_seq ?_
                  refine wc_ret ?_
                  refine wq_end (.inl rfl) (resCT Try.results11 rfl rfl Try.underlying24 rfl (by rw [show (Try.prog.info? 24).map (·.size) = some 3 from by kernel_rfl]; rfl) (H23).get.2) ?_
                  rw [jK_0 (by omega) (by omega)]
                  exact ⟨_, _, rfl, ((H23.right.right.right).row_nil none).row_nil none⟩
      · (try simp only [beq_iff_eq, bne_iff_ne, ne_eq, decide_eq_true_eq, decide_eq_false_iff_not, beq_eq_false_iff_ne, bne_eq_false_iff_eq, Bool.not_eq_true', Bool.not_eq_false', Bool.not_eq_eq_eq_not, Bool.not_true, Bool.not_false, gt_iff_lt, ge_iff_le, Int.not_lt, Int.not_le] at h2)
        try (exfalso; first | contradiction | omega)
        all_goals
          refine wl_no rfl rfl rfl (ltn rfl) ?_
          refine wl_no rfl rfl rfl (ltn rfl) ?_
          refine wl_no rfl rfl rfl (ltn rfl) ?_
          refine wl_no rfl rfl rfl (ltn rfl) ?_
          refine wl_no rfl rfl rfl (ltn rfl) ?_
          refine wl_val (r_pick_f rfl rfl) (ltn rfl) ?_
          refine wl_nil ?_
          refine wq_seq ?_
          refine wc_cond_f rfl ?_
          refine wc_skip ?_
          refine wq_seq ?_
          refine wc_seq ?_
          refine wc_seq ?_
          refine wc_region ?_
          refine wl_val ((by first | exact r_field0 2 Try.underlying24 rfl rfl Try.sizeOf22 (by decide) rfl | exact r_field 2 Try.underlying24 rfl rfl Try.sizeOf22 (by decide) rfl)) (ltn rfl) ?_
          refine wl_val (r_load (plain_of Try.underlying22 rfl) rfl (cell_of_blk (H3.f3).get.2 rfl)) (ltn rfl) ?_
          refine wl_val (r_lenR (hi _ (H3.right.right.right)) Try.underlying22 rfl) (ltn rfl) ?_
          refine wl_val (r_eql rfl rfl) (ltn rfl) ?_
          refine wl_split rfl (ltn rfl) (fun h8 => ?_) (fun h8 => ?_)
          · (try simp only [beq_iff_eq, bne_iff_ne, ne_eq, decide_eq_true_eq, decide_eq_false_iff_not, beq_eq_false_iff_ne, bne_eq_false_iff_eq, Bool.not_eq_true', Bool.not_eq_false', Bool.not_eq_eq_eq_not, Bool.not_true, Bool.not_false, gt_iff_lt, ge_iff_le, Int.not_lt, Int.not_le] at h8)
            try (exfalso; first | contradiction | omega)
            all_goals
              refine wl_yes rfl rfl ?_
              refine wl_val ((by first | exact r_field0 2 Try.underlying24 rfl rfl Try.sizeOf22 (by decide) rfl | exact r_field 2 Try.underlying24 rfl rfl Try.sizeOf22 (by decide) rfl)) (ltn rfl) ?_
              refine wl_yes rfl rfl ?_
              refine wl_val (r_load (plain_of Try.underlying22 rfl) rfl (cell_of_blk (H3.f2).get.2 rfl)) (ltn rfl) ?_
              refine wl_yes rfl rfl ?_
              refine wl_val (r_lenR (hi2 _ (H3.right.right.right)) Try.underlying22 rfl) (ltn rfl) ?_
              refine wl_yes rfl rfl ?_
              refine wl_val (r_eql rfl rfl) (ltn rfl) ?_
              refine wl_val (r_pick_t rfl rfl) (ltn rfl) ?_
              refine wl_split rfl (ltn rfl) (fun h9 => ?_) (fun h9 => ?_)
              · (try simp only [beq_iff_eq, bne_iff_ne, ne_eq, decide_eq_true_eq, decide_eq_false_iff_not, beq_eq_false_iff_ne, bne_eq_false_iff_eq, Bool.not_eq_true', Bool.not_eq_false', Bool.not_eq_eq_eq_not, Bool.not_true, Bool.not_false, gt_iff_lt, ge_iff_le, Int.not_lt, Int.not_le] at h9)
                try (exfalso; first | contradiction | omega)
                all_goals
                  refine wl_yes rfl rfl ?_
                  refine wl_val ((by first | exact r_field0 0 Try.underlying24 rfl rfl Try.sizeOf3 (by decide) rfl | exact r_field 0 Try.underlying24 rfl rfl Try.sizeOf3 (by decide) rfl)) (ltn rfl) ?_
                  refine wl_yes rfl rfl ?_
                  refine wl_val (r_load (plain_of Try.underlying3 rfl) rfl (cell_of_blk (H3.f3).get.2 rfl)) (ltn rfl) ?_
                  refine wl_yes rfl rfl ?_
                  refine wl_val ((by first | exact r_field0 1 Try.underlying24 rfl rfl Try.sizeOf22 (by decide) rfl | exact r_field 1 Try.underlying24 rfl rfl Try.sizeOf22 (by decide) rfl)) (ltn rfl) ?_
                  refine wl_yes rfl rfl ?_
                  refine wl_val (r_load (plain_of Try.underlying22 rfl) rfl (cell_of_blk (H3.f2).get.2 rfl)) (ltn rfl) ?_
                  refine wl_yes rfl rfl ?_
                  refine wl_val (r_lenR (hd2 _ (H3.right.right.right)) Try.underlying22 rfl) (ltn rfl) ?_
                  refine wl_yes rfl rfl ?_
                  refine wl_val (r_subK rfl rfl) (ltn rfl) ?_
                  refine wl_yes rfl rfl ?_
                  refine wl_val ((by first | exact r_field0 0 Try.underlying24 rfl rfl Try.sizeOf3 (by decide) rfl | exact r_field 0 Try.underlying24 rfl rfl Try.sizeOf3 (by decide) rfl)) (ltn rfl) ?_
                  refine wl_yes rfl rfl ?_
                  refine wl_val (r_load (plain_of Try.underlying3 rfl) rfl (cell_of_blk (H3.f2).get.2 rfl)) (ltn rfl) ?_
                  refine wl_yes rfl rfl ?_
                  refine wl_val (r_eql rfl rfl) (ltn rfl) ?_
                  refine wl_val (r_pick_t rfl rfl) (ltn rfl) ?_
                  refine wl_split rfl (ltn rfl) (fun h10 => ?_) (fun h10 => ?_)
                  · (try simp only [beq_iff_eq, bne_iff_ne, ne_eq, decide_eq_true_eq, decide_eq_false_iff_not, beq_eq_false_iff_ne, bne_eq_false_iff_eq, Bool.not_eq_true', Bool.not_eq_false', Bool.not_eq_eq_eq_not, Bool.not_true, Bool.not_false, gt_iff_lt, ge_iff_le, Int.not_lt, Int.not_le] at h10)
                    try (exfalso; first | contradiction | omega)
                    all_goals
                      refine wl_yes rfl rfl ?_
                      refine wl_val ((by first | exact r_field0 0 Try.underlying24 rfl rfl Try.sizeOf3 (by decide) rfl | exact r_field 0 Try.underlying24 rfl rfl Try.sizeOf3 (by decide) rfl)) (ltn rfl) ?_
                      refine wl_yes rfl rfl ?_
                      refine wl_val (r_load (plain_of Try.underlying3 rfl) rfl (cell_of_blk (H3.f2).get.2 rfl)) (ltn rfl) ?_
                      refine wl_yes rfl rfl ?_
                      refine wl_val ((by first | exact r_field0 0 Try.underlying24 rfl rfl Try.sizeOf3 (by decide) rfl | exact r_field 0 Try.underlying24 rfl rfl Try.sizeOf3 (by decide) rfl)) (ltn rfl) ?_
                      refine wl_yes rfl rfl ?_
                      refine wl_val (r_load (plain_of Try.underlying3 rfl) rfl (cell_of_blk (H3.f3).get.2 rfl)) (ltn rfl) ?_
                      refine wl_yes rfl rfl ?_
                      refine wl_val (r_leq rfl rfl) (ltn rfl) ?_
                      refine wl_val (r_pick_t rfl rfl) (ltn rfl) ?_
                      refine wl_nil ?_
                      refine wq_seq ?_
                      refine wc_cond rfl (fun h11 => ?_) (fun h11 => ?_)
                      · (try simp only [beq_iff_eq, bne_iff_ne, ne_eq, decide_eq_true_eq, decide_eq_false_iff_not, beq_eq_false_iff_ne, bne_eq_false_iff_eq, Bool.not_eq_true', Bool.not_eq_false', Bool.not_eq_eq_eq_not, Bool.not_true, Bool.not_false, gt_iff_lt, ge_iff_le, Int.not_lt, Int.not_le] at h11)
                        try (exfalso; first | contradiction | omega)
                        all_goals
                          
                          refine wc_seq ?_
                          have H4d23 := H3.drew
                          have hS4d23 := Holds.kp (H4d23.f3.f3.f3)
                          refine wd_beginK [1, 3, 5] hS4d23 (by kernel_rfl) (by kernel_rfl) rfl ?_
                          refine wd_takeT 0 rfl (by kernel_rfl) (by kernel_rfl) hS4d23 (fun _ => (by first | exact r_field0 0 Try.underlying24 rfl rfl Try.sizeOf3 (by decide) rfl | exact r_field 0 Try.underlying24 rfl rfl Try.sizeOf3 (by decide) rfl)) (ltn rfl) ?_
                          refine wd_take 1 rfl (by kernel_rfl) (by kernel_rfl) hS4d23 (by decide) (fun W hW => r_load (plain_of Try.underlying3 rfl) rfl (cell_of_blk ((Kp.h hW).f2).get.2 rfl)) (ltn rfl) ?_
                          refine wd_takeT 2 rfl (by kernel_rfl) (by kernel_rfl) hS4d23 (fun _ => (by first | exact r_field0 1 Try.underlying24 rfl rfl Try.sizeOf22 (by decide) rfl | exact r_field 1 Try.underlying24 rfl rfl Try.sizeOf22 (by decide) rfl)) (ltn rfl) ?_
                          refine wd_take 3 rfl (by kernel_rfl) (by kernel_rfl) hS4d23 (by decide) (fun W hW => r_load (plain_of Try.underlying22 rfl) rfl (cell_of_blk ((Kp.h hW).f2).get.2 rfl)) (ltn rfl) ?_
                          refine wd_takeT 4 rfl (by kernel_rfl) (by kernel_rfl) hS4d23 (fun _ => (by first | exact r_field0 1 Try.underlying24 rfl rfl Try.sizeOf22 (by decide) rfl | exact r_field 1 Try.underlying24 rfl rfl Try.sizeOf22 (by decide) rfl)) (ltn rfl) ?_
                          refine wd_take 5 rfl (by kernel_rfl) (by kernel_rfl) hS4d23 (by decide) (fun W hW => r_load (plain_of Try.underlying22 rfl) rfl (cell_of_blk ((Kp.h hW).f3).get.2 rfl)) (ltn rfl) ?_
                          refine wd_eff 6 rfl (by kernel_rfl) (e_lit_row (vs := [_, _]) H4d23 Try.underlying54 Try.sizeOf22 Try.zeroValue22 rfl rfl rfl (by decide) (ones_cons (by first | rfl | exact Rd.one (hd2 _ (H4d23.right.right.right))) (ones_cons (by first | rfl | exact Rd.one (hd _ (H4d23.right.right.right))) ones_nil))) (ltn rfl) ?_
                          rintro l24 w24 H24
                          have hS24n := Holds.kp (H24.f4.f4.f4.f4)
                          refine keepK hS24n (fun W hW => (Kp.h hW).right.f3.f3.f3) ?_
                          refine wd_eff 7 rfl (by kernel_rfl) (e_call (r_call rfl Try.func46 rfl rfl) (concat2_any H24 (fun W HW => (HW).row_rd) (fun W HW => hd2 _ (HW.right.right.right.right)) (fun W HW => hd _ (HW.right.right.right.right)) (by first|omega|(simp only [List.length_take, List.length_drop]; omega)))) (ltn rfl) ?_
                          rintro u25 w25 H25
                          have hS25n := Holds.kp (H25.f5.f5.f5.f5.f5)
                          refine keepK hS25n (fun W hW => (Kp.h hW).right.f4.f4.f4.f4) ?_
                          obtain ⟨au25, cu25, eu25, -⟩ := RdI.open ((H25).row_rd)
                          subst eu25
                          refine wd_takeT 8 rfl (by kernel_rfl) (by kernel_rfl) hS25n (fun _ => r_build (pl := #[(0, 1), (1, 1), (2, 1)]) (_) Try.underlying24 Try.zeroValue24 (fun w => by kernel_rfl) rfl (rfl)) (ltn rfl) ?_
                          refine wd_eff0 9 rfl (by kernel_rfl) (e_storePL 0 (l' := [_, _, _]) (us := [_, _, _]) H25.f3 Try.sizeOf24 rfl rfl rfl (ones_cons (by first | rfl | assumption) (ones_cons (by first | rfl | exact Rd.one ((H25).row_rd)) (ones_cons (by first | rfl | assumption) ones_nil))) rfl rfl) ?_
                          rintro _ w27 H27
                          have hS27n := Holds.kp (H27.f5.f5.f5.f5.f5)
                          refine keepX hS27n (by kernel_rfl) ?_
                          refine wd_takeT 10 rfl (by kernel_rfl) (by kernel_rfl) hS27n (fun _ => r_assign rfl) (ltn rfl) ?_
                          refine wd_done (by kernel_rfl) ?_
                          refine wq_seq ?_
                          refine wc_ret ?_
                          refine wq_then_ret ?_
                          refine wq_end (.inl rfl) (resCT Try.results11 rfl rfl Try.underlying24 rfl (by rw [show (Try.prog.info? 24).map (·.size) = some 3 from by kernel_rfl]; rfl) (H27).get.2) ?_
                          rw [jK_2 (by omega) (by omega) (by omega) (by omega)]
                          exact ⟨_, _, rfl, ((H27.right.f2.right.f2.right.f2.right).row_nil none).swap⟩
                      · (try simp only [beq_iff_eq, bne_iff_ne, ne_eq, decide_eq_true_eq, decide_eq_false_iff_not, beq_eq_false_iff_ne, bne_eq_false_iff_eq, Bool.not_eq_true', Bool.not_eq_false', Bool.not_eq_eq_eq_not, Bool.not_true, Bool.not_false, gt_iff_lt, ge_iff_le, Int.not_lt, Int.not_le] at h11)
                        try (exfalso; first | contradiction | omega)
                        all_goals
                          
                          refine wc_skip ?_
                          refine wq_seq ?_
                          refine wc_seq ?_
                          refine wc_region ?_
                          refine wl_val (r_build (pl := #[(0, 1), (1, 1), (2, 1)]) (_) Try.underlying24 Try.zeroValue24 (fun w => by kernel_rfl) rfl (rfl)) (ltn rfl) ?_
                          refine wl_eff0 (e_storePL 0 (l' := [_, _, _]) (us := [_, _, _]) H3 Try.sizeOf24 rfl rfl rfl (ones_cons (by first | rfl | assumption) (ones_cons (by first | rfl | assumption) (ones_cons (by first | rfl | assumption) ones_nil))) rfl rfl) ?_
                          rintro _ w28 H28
                          refine wl_val (r_assign rfl) (ltn rfl) ?_
                          refine wl_nil ?_
                          refine wq_seq ?_
                          refine wc_ret ?_
                          refine wq_end (.inl rfl) (resCT Try.results11 rfl rfl Try.underlying24 rfl (by rw [show (Try.prog.info? 24).map (·.size) = some 3 from by kernel_rfl]; rfl) (H28).get.2) ?_
                          rw [jK_0 (by omega) (by omega)]
                          exact ⟨_, _, rfl, ((H28.right.right.right).row_nil none).row_nil none⟩
                  · (try simp only [beq_iff_eq, bne_iff_ne, ne_eq, decide_eq_true_eq, decide_eq_false_iff_not, beq_eq_false_iff_ne, bne_eq_false_iff_eq, Bool.not_eq_true', Bool.not_eq_false', Bool.not_eq_eq_eq_not, Bool.not_true, Bool.not_false, gt_iff_lt, ge_iff_le, Int.not_lt, Int.not_le] at h10)
                    try (exfalso; first | contradiction | omega)
                    all_goals
                      refine wl_no rfl rfl rfl (ltn rfl) ?_
                      refine wl_no rfl rfl rfl (ltn rfl) ?_
                      refine wl_no rfl rfl rfl (ltn rfl) ?_
                      refine wl_no rfl rfl rfl (ltn rfl) ?_
                      refine wl_no rfl rfl rfl (ltn rfl) ?_
                      refine wl_val (r_pick_f rfl rfl) (ltn rfl) ?_
                      refine wl_nil ?_
                      refine wq_seq ?_
                      refine wc_cond_f rfl ?_
                      refine wc_skip ?_
                      refine wq_seq ?_
                      refine wc_seq ?_
                      refine wc_region ?_
                      refine wl_val (r_build (pl := #[(0, 1), (1, 1), (2, 1)]) (_) Try.underlying24 Try.zeroValue24 (fun w => by kernel_rfl) rfl (rfl)) (ltn rfl) ?_
                      refine wl_eff0 (e_storePL 0 (l' := [_, _, _]) (us := [_, _, _]) H3 Try.sizeOf24 rfl rfl rfl (ones_cons (by first | rfl | assumption) (ones_cons (by first | rfl | assumption) (ones_cons (by first | rfl | assumption) ones_nil))) rfl rfl) ?_
                      rintro _ w29 H29
                      refine wl_val (r_assign rfl) (ltn rfl) ?_
                      refine wl_nil ?_
                      refine wq_seq ?_
                      refine wc_ret ?_
                      refine wq_end (.inl rfl) (resCT Try.results11 rfl rfl Try.underlying24 rfl (by rw [show (Try.prog.info? 24).map (·.size) = some 3 from by kernel_rfl]; rfl) (H29).get.2) ?_
                      rw [jK_0 (by omega) (by omega)]
                      exact ⟨_, _, rfl, ((H29.right.right.right).row_nil none).row_nil none⟩
              · (try simp only [beq_iff_eq, bne_iff_ne, ne_eq, decide_eq_true_eq, decide_eq_false_iff_not, beq_eq_false_iff_ne, bne_eq_false_iff_eq, Bool.not_eq_true', Bool.not_eq_false', Bool.not_eq_eq_eq_not, Bool.not_true, Bool.not_false, gt_iff_lt, ge_iff_le, Int.not_lt, Int.not_le] at h9)
                try (exfalso; first | contradiction | omega)
                all_goals
                  refine wl_no rfl rfl rfl (ltn rfl) ?_
                  refine wl_no rfl rfl rfl (ltn rfl) ?_
                  refine wl_no rfl rfl rfl (ltn rfl) ?_
                  refine wl_no rfl rfl rfl (ltn rfl) ?_
                  refine wl_no rfl rfl rfl (ltn rfl) ?_
                  refine wl_no rfl rfl rfl (ltn rfl) ?_
                  refine wl_no rfl rfl rfl (ltn rfl) ?_
                  refine wl_no rfl rfl rfl (ltn rfl) ?_
                  refine wl_no rfl rfl rfl (ltn rfl) ?_
                  refine wl_val (r_pick_f rfl rfl) (ltn rfl) ?_
                  refine wl_val (r_move rfl) (ltn rfl) ?_
                  refine wl_no rfl rfl rfl (ltn rfl) ?_
                  refine wl_no rfl rfl rfl (ltn rfl) ?_
                  refine wl_no rfl rfl rfl (ltn rfl) ?_
                  refine wl_no rfl rfl rfl (ltn rfl) ?_
                  refine wl_no rfl rfl rfl (ltn rfl) ?_
                  refine wl_val (r_pick_f rfl rfl) (ltn rfl) ?_
                  refine wl_nil ?_
                  refine wq_seq ?_
                  refine wc_cond_f rfl ?_
                  refine wc_skip ?_
                  refine wq_seq ?_
                  refine wc_seq ?_
                  refine wc_region ?_
                  refine wl_val (r_build (pl := #[(0, 1), (1, 1), (2, 1)]) (_) Try.underlying24 Try.zeroValue24 (fun w => by kernel_rfl) rfl (rfl)) (ltn rfl) ?_
                  refine wl_eff0 (e_storePL 0 (l' := [_, _, _]) (us := [_, _, _]) H3 Try.sizeOf24 rfl rfl rfl (ones_cons (by first | rfl | assumption) (ones_cons (by first | rfl | assumption) (ones_cons (by first | rfl | assumption) ones_nil))) rfl rfl) ?_
                  rintro _ w30 H30
                  refine wl_val (r_assign rfl) (ltn rfl) ?_
                  refine wl_nil ?_
                  refine wq_seq ?_
                  refine wc_ret ?_
                  refine wq_end (.inl rfl) (resCT Try.results11 rfl rfl Try.underlying24 rfl (by rw [show (Try.prog.info? 24).map (·.size) = some 3 from by kernel_rfl]; rfl) (H30).get.2) ?_
                  rw [jK_0 (by omega) (by omega)]
                  exact ⟨_, _, rfl, ((H30.right.right.right).row_nil none).row_nil none⟩
          · (try simp only [beq_iff_eq, bne_iff_ne, ne_eq, decide_eq_true_eq, decide_eq_false_iff_not, beq_eq_false_iff_ne, bne_eq_false_iff_eq, Bool.not_eq_true', Bool.not_eq_false', Bool.not_eq_eq_eq_not, Bool.not_true, Bool.not_false, gt_iff_lt, ge_iff_le, Int.not_lt, Int.not_le] at h8)
            try (exfalso; first | contradiction | omega)
            all_goals
              refine wl_no rfl rfl rfl (ltn rfl) ?_
              refine wl_no rfl rfl rfl (ltn rfl) ?_
              refine wl_no rfl rfl rfl (ltn rfl) ?_
              refine wl_no rfl rfl rfl (ltn rfl) ?_
              refine wl_val (r_pick_f rfl rfl) (ltn rfl) ?_
              refine wl_val (r_move rfl) (ltn rfl) ?_
              refine wl_no rfl rfl rfl (ltn rfl) ?_
              refine wl_no rfl rfl rfl (ltn rfl) ?_
              refine wl_no rfl rfl rfl (ltn rfl) ?_
              refine wl_no rfl rfl rfl (ltn rfl) ?_
              refine wl_no rfl rfl rfl (ltn rfl) ?_
              refine wl_no rfl rfl rfl (ltn rfl) ?_
              refine wl_no rfl rfl rfl (ltn rfl) ?_
              refine wl_no rfl rfl rfl (ltn rfl) ?_
              refine wl_no rfl rfl rfl (ltn rfl) ?_
              refine wl_val (r_pick_f rfl rfl) (ltn rfl) ?_
              refine wl_val (r_move rfl) (ltn rfl) ?_
              refine wl_no rfl rfl rfl (ltn rfl) ?_
              refine wl_no rfl rfl rfl (ltn rfl) ?_
              refine wl_no rfl rfl rfl (ltn rfl) ?_
              refine wl_no rfl rfl rfl (ltn rfl) ?_
              refine wl_no rfl rfl rfl (ltn rfl) ?_
              refine wl_val (r_pick_f rfl rfl) (ltn rfl) ?_
              refine wl_nil ?_
              refine wq_seq ?_
              refine wc_cond_f rfl ?_
              refine wc_skip ?_
              refine wq_seq ?_
              refine wc_seq ?_
              refine wc_region ?_
              refine wl_val (r_build (pl := #[(0, 1), (1, 1), (2, 1)]) (_) Try.underlying24 Try.zeroValue24 (fun w => by kernel_rfl) rfl (rfl)) (ltn rfl) ?_
              refine wl_eff0 (e_storePL 0 (l' := [_, _, _]) (us := [_, _, _]) H3 Try.sizeOf24 rfl rfl rfl (ones_cons (by first | rfl | assumption) (ones_cons (by first | rfl | assumption) (ones_cons (by first | rfl | assumption) ones_nil))) rfl rfl) ?_
              rintro _ w31 H31
              refine wl_val (r_assign rfl) (ltn rfl) ?_
              refine wl_nil ?_
              refine wq_seq ?_
              refine wc_ret ?_
              refine wq_end (.inl rfl) (resCT Try.results11 rfl rfl Try.underlying24 rfl (by rw [show (Try.prog.info? 24).map (·.size) = some 3 from by kernel_rfl]; rfl) (H31).get.2) ?_
              rw [jK_0 (by omega) (by omega)]
              exact ⟨_, _, rfl, ((H31.right.right.right).row_nil none).row_nil none⟩
  · (try simp only [beq_iff_eq, bne_iff_ne, ne_eq, decide_eq_true_eq, decide_eq_false_iff_not, beq_eq_false_iff_ne, bne_eq_false_iff_eq, Bool.not_eq_true', Bool.not_eq_false', Bool.not_eq_eq_eq_not, Bool.not_true, Bool.not_false, gt_iff_lt, ge_iff_le, Int.not_lt, Int.not_le] at h1)
    try (exfalso; first | contradiction | omega)
    all_goals
      refine wl_no rfl rfl rfl (ltn rfl) ?_
      refine wl_no rfl rfl rfl (ltn rfl) ?_
      refine wl_no rfl rfl rfl (ltn rfl) ?_
      refine wl_no rfl rfl rfl (ltn rfl) ?_
      refine wl_no rfl rfl rfl (ltn rfl) ?_
      refine wl_no rfl rfl rfl (ltn rfl) ?_
      refine wl_no rfl rfl rfl (ltn rfl) ?_
      refine wl_no rfl rfl rfl (ltn rfl) ?_
      refine wl_no rfl rfl rfl (ltn rfl) ?_
      refine wl_val (r_pick_f rfl rfl) (ltn rfl) ?_
      refine wl_val (r_move rfl) (ltn rfl) ?_
      refine wl_no rfl rfl rfl (ltn rfl) ?_
      refine wl_no rfl rfl rfl (ltn rfl) ?_
      refine wl_no rfl rfl rfl (ltn rfl) ?_
      refine wl_no rfl rfl rfl (ltn rfl) ?_
      refine wl_no rfl rfl rfl (ltn rfl) ?_
      refine wl_val (r_pick_f rfl rfl) (ltn rfl) ?_
      refine wl_nil ?_
      refine wq_seq ?_
      refine wc_cond_f rfl ?_
      refine wc_skip ?_
      refine wq_seq ?_
      refine wc_seq ?_
      refine wc_seq ?_
      refine wc_region ?_
      refine wl_val ((by first | exact r_field0 2 Try.underlying24 rfl rfl Try.sizeOf22 (by decide) rfl | exact r_field 2 Try.underlying24 rfl rfl Try.sizeOf22 (by decide) rfl)) (ltn rfl) ?_
      refine wl_val (r_load (plain_of Try.underlying22 rfl) rfl (cell_of_blk (H3.f3).get.2 rfl)) (ltn rfl) ?_
      refine wl_val (r_lenR (hi _ (H3.right.right.right)) Try.underlying22 rfl) (ltn rfl) ?_
      refine wl_val (r_eql rfl rfl) (ltn rfl) ?_
      refine wl_split rfl (ltn rfl) (fun h12 => ?_) (fun h12 => ?_)
      · (try simp only [beq_iff_eq, bne_iff_ne, ne_eq, decide_eq_true_eq, decide_eq_false_iff_not, beq_eq_false_iff_ne, bne_eq_false_iff_eq, Bool.not_eq_true', Bool.not_eq_false', Bool.not_eq_eq_eq_not, Bool.not_true, Bool.not_false, gt_iff_lt, ge_iff_le, Int.not_lt, Int.not_le] at h12)
        try (exfalso; first | contradiction | omega)
        all_goals
          refine wl_yes rfl rfl ?_
          refine wl_val ((by first | exact r_field0 2 Try.underlying24 rfl rfl Try.sizeOf22 (by decide) rfl | exact r_field 2 Try.underlying24 rfl rfl Try.sizeOf22 (by decide) rfl)) (ltn rfl) ?_
          refine wl_yes rfl rfl ?_
          refine wl_val (r_load (plain_of Try.underlying22 rfl) rfl (cell_of_blk (H3.f2).get.2 rfl)) (ltn rfl) ?_
          refine wl_yes rfl rfl ?_
          refine wl_val (r_lenR (hi2 _ (H3.right.right.right)) Try.underlying22 rfl) (ltn rfl) ?_
          refine wl_yes rfl rfl ?_
          refine wl_val (r_eql rfl rfl) (ltn rfl) ?_
          refine wl_val (r_pick_t rfl rfl) (ltn rfl) ?_
          refine wl_split rfl (ltn rfl) (fun h13 => ?_) (fun h13 => ?_)
          · (try simp only [beq_iff_eq, bne_iff_ne, ne_eq, decide_eq_true_eq, decide_eq_false_iff_not, beq_eq_false_iff_ne, bne_eq_false_iff_eq, Bool.not_eq_true', Bool.not_eq_false', Bool.not_eq_eq_eq_not, Bool.not_true, Bool.not_false, gt_iff_lt, ge_iff_le, Int.not_lt, Int.not_le] at h13)
            try (exfalso; first | contradiction | omega)
            all_goals
              refine wl_yes rfl rfl ?_
              refine wl_val ((by first | exact r_field0 0 Try.underlying24 rfl rfl Try.sizeOf3 (by decide) rfl | exact r_field 0 Try.underlying24 rfl rfl Try.sizeOf3 (by decide) rfl)) (ltn rfl) ?_
              refine wl_yes rfl rfl ?_
              refine wl_val (r_load (plain_of Try.underlying3 rfl) rfl (cell_of_blk (H3.f3).get.2 rfl)) (ltn rfl) ?_
              refine wl_yes rfl rfl ?_
              refine wl_val ((by first | exact r_field0 1 Try.underlying24 rfl rfl Try.sizeOf22 (by decide) rfl | exact r_field 1 Try.underlying24 rfl rfl Try.sizeOf22 (by decide) rfl)) (ltn rfl) ?_
              refine wl_yes rfl rfl ?_
              refine wl_val (r_load (plain_of Try.underlying22 rfl) rfl (cell_of_blk (H3.f2).get.2 rfl)) (ltn rfl) ?_
              refine wl_yes rfl rfl ?_
              refine wl_val (r_lenR (hd2 _ (H3.right.right.right)) Try.underlying22 rfl) (ltn rfl) ?_
              refine wl_yes rfl rfl ?_
              refine wl_val (r_subK rfl rfl) (ltn rfl) ?_
              refine wl_yes rfl rfl ?_
              refine wl_val ((by first | exact r_field0 0 Try.underlying24 rfl rfl Try.sizeOf3 (by decide) rfl | exact r_field 0 Try.underlying24 rfl rfl Try.sizeOf3 (by decide) rfl)) (ltn rfl) ?_
              refine wl_yes rfl rfl ?_
              refine wl_val (r_load (plain_of Try.underlying3 rfl) rfl (cell_of_blk (H3.f2).get.2 rfl)) (ltn rfl) ?_
              refine wl_yes rfl rfl ?_
              refine wl_val (r_eql rfl rfl) (ltn rfl) ?_
              refine wl_val (r_pick_t rfl rfl) (ltn rfl) ?_
              refine wl_split rfl (ltn rfl) (fun h14 => ?_) (fun h14 => ?_)
              · (try simp only [beq_iff_eq, bne_iff_ne, ne_eq, decide_eq_true_eq, decide_eq_false_iff_not, beq_eq_false_iff_ne, bne_eq_false_iff_eq, Bool.not_eq_true', Bool.not_eq_false', Bool.not_eq_eq_eq_not, Bool.not_true, Bool.not_false, gt_iff_lt, ge_iff_le, Int.not_lt, Int.not_le] at h14)
                try (exfalso; first | contradiction | omega)
                all_goals
                  refine wl_yes rfl rfl ?_
                  refine wl_val ((by first | exact r_field0 0 Try.underlying24 rfl rfl Try.sizeOf3 (by decide) rfl | exact r_field 0 Try.underlying24 rfl rfl Try.sizeOf3 (by decide) rfl)) (ltn rfl) ?_
                  refine wl_yes rfl rfl ?_
                  refine wl_val (r_load (plain_of Try.underlying3 rfl) rfl (cell_of_blk (H3.f2).get.2 rfl)) (ltn rfl) ?_
                  refine wl_yes rfl rfl ?_
                  refine wl_val ((by first | exact r_field0 0 Try.underlying24 rfl rfl Try.sizeOf3 (by decide) rfl | exact r_field 0 Try.underlying24 rfl rfl Try.sizeOf3 (by decide) rfl)) (ltn rfl) ?_
                  refine wl_yes rfl rfl ?_
                  refine wl_val (r_load (plain_of Try.underlying3 rfl) rfl (cell_of_blk (H3.f3).get.2 rfl)) (ltn rfl) ?_
                  refine wl_yes rfl rfl ?_
                  refine wl_val (r_leq rfl rfl) (ltn rfl) ?_
                  refine wl_val (r_pick_t rfl rfl) (ltn rfl) ?_
                  refine wl_nil ?_
                  refine wq_seq ?_
                  refine wc_cond rfl (fun h15 => ?_) (fun h15 => ?_)
                  · (try simp only [beq_iff_eq, bne_iff_ne, ne_eq, decide_eq_true_eq, decide_eq_false_iff_not, beq_eq_false_iff_ne, bne_eq_false_iff_eq, Bool.not_eq_true', Bool.not_eq_false', Bool.not_eq_eq_eq_not, Bool.not_true, Bool.not_false, gt_iff_lt, ge_iff_le, Int.not_lt, Int.not_le] at h15)
                    try (exfalso; first | contradiction | omega)
                    all_goals
                      
                      refine wc_seq ?_
                      have H4d31 := H3.drew
                      have hS4d31 := Holds.kp (H4d31.f3.f3.f3)
                      refine wd_beginK [1, 3, 5] hS4d31 (by kernel_rfl) (by kernel_rfl) rfl ?_
                      refine wd_takeT 0 rfl (by kernel_rfl) (by kernel_rfl) hS4d31 (fun _ => (by first | exact r_field0 0 Try.underlying24 rfl rfl Try.sizeOf3 (by decide) rfl | exact r_field 0 Try.underlying24 rfl rfl Try.sizeOf3 (by decide) rfl)) (ltn rfl) ?_
                      refine wd_take 1 rfl (by kernel_rfl) (by kernel_rfl) hS4d31 (by decide) (fun W hW => r_load (plain_of Try.underlying3 rfl) rfl (cell_of_blk ((Kp.h hW).f2).get.2 rfl)) (ltn rfl) ?_
                      refine wd_takeT 2 rfl (by kernel_rfl) (by kernel_rfl) hS4d31 (fun _ => (by first | exact r_field0 1 Try.underlying24 rfl rfl Try.sizeOf22 (by decide) rfl | exact r_field 1 Try.underlying24 rfl rfl Try.sizeOf22 (by decide) rfl)) (ltn rfl) ?_
                      refine wd_take 3 rfl (by kernel_rfl) (by kernel_rfl) hS4d31 (by decide) (fun W hW => r_load (plain_of Try.underlying22 rfl) rfl (cell_of_blk ((Kp.h hW).f2).get.2 rfl)) (ltn rfl) ?_
                      refine wd_takeT 4 rfl (by kernel_rfl) (by kernel_rfl) hS4d31 (fun _ => (by first | exact r_field0 1 Try.underlying24 rfl rfl Try.sizeOf22 (by decide) rfl | exact r_field 1 Try.underlying24 rfl rfl Try.sizeOf22 (by decide) rfl)) (ltn rfl) ?_
                      refine wd_take 5 rfl (by kernel_rfl) (by kernel_rfl) hS4d31 (by decide) (fun W hW => r_load (plain_of Try.underlying22 rfl) rfl (cell_of_blk ((Kp.h hW).f3).get.2 rfl)) (ltn rfl) ?_
                      refine wd_eff 6 rfl (by kernel_rfl) (e_lit_row (vs := [_, _]) H4d31 Try.underlying54 Try.sizeOf22 Try.zeroValue22 rfl rfl rfl (by decide) (ones_cons (by first | rfl | exact Rd.one (hd2 _ (H4d31.right.right.right))) (ones_cons (by first | rfl | exact Rd.one (hd _ (H4d31.right.right.right))) ones_nil))) (ltn rfl) ?_
                      rintro l32 w32 H32
                      have hS32n := Holds.kp (H32.f4.f4.f4.f4)
                      refine keepK hS32n (fun W hW => (Kp.h hW).right.f3.f3.f3) ?_
                      refine wd_eff 7 rfl (by kernel_rfl) (e_call (r_call rfl Try.func46 rfl rfl) (concat2_any H32 (fun W HW => (HW).row_rd) (fun W HW => hd2 _ (HW.right.right.right.right)) (fun W HW => hd _ (HW.right.right.right.right)) (by first|omega|(simp only [List.length_take, List.length_drop]; omega)))) (ltn rfl) ?_
                      rintro u33 w33 H33
                      have hS33n := Holds.kp (H33.f5.f5.f5.f5.f5)
                      refine keepK hS33n (fun W hW => (Kp.h hW).right.f4.f4.f4.f4) ?_
                      obtain ⟨au33, cu33, eu33, -⟩ := RdI.open ((H33).row_rd)
                      subst eu33
                      refine wd_takeT 8 rfl (by kernel_rfl) (by kernel_rfl) hS33n (fun _ => r_build (pl := #[(0, 1), (1, 1), (2, 1)]) (_) Try.underlying24 Try.zeroValue24 (fun w => by kernel_rfl) rfl (rfl)) (ltn rfl) ?_
                      refine wd_eff0 9 rfl (by kernel_rfl) (e_storePL 0 (l' := [_, _, _]) (us := [_, _, _]) H33.f3 Try.sizeOf24 rfl rfl rfl (ones_cons (by first | rfl | assumption) (ones_cons (by first | rfl | exact Rd.one ((H33).row_rd)) (ones_cons (by first | rfl | assumption) ones_nil))) rfl rfl) ?_
                      rintro _ w35 H35
                      have hS35n := Holds.kp (H35.f5.f5.f5.f5.f5)
                      refine keepX hS35n (by kernel_rfl) ?_
                      refine wd_takeT 10 rfl (by kernel_rfl) (by kernel_rfl) hS35n (fun _ => r_assign rfl) (ltn rfl) ?_
                      refine wd_done (by kernel_rfl) ?_
                      refine wq_seq ?_
                      refine wc_ret ?_
                      refine wq_then_ret ?_
                      refine wq_end (.inl rfl) (resCT Try.results11 rfl rfl Try.underlying24 rfl (by rw [show (Try.prog.info? 24).map (·.size) = some 3 from by kernel_rfl]; rfl) (H35).get.2) ?_
                      rw [jK_2 (by omega) (by omega) (by omega) (by omega)]
                      exact ⟨_, _, rfl, ((H35.right.f2.right.f2.right.f2.right).row_nil none).swap⟩
                  · (try simp only [beq_iff_eq, bne_iff_ne, ne_eq, decide_eq_true_eq, decide_eq_false_iff_not, beq_eq_false_iff_ne, bne_eq_false_iff_eq, Bool.not_eq_true', Bool.not_eq_false', Bool.not_eq_eq_eq_not, Bool.not_true, Bool.not_false, gt_iff_lt, ge_iff_le, Int.not_lt, Int.not_le] at h15)
                    try (exfalso; first | contradiction | omega)
                    all_goals
                      
                      refine wc_skip ?_
                      refine wq_seq ?_
                      refine wc_seq ?_
                      refine wc_region ?_
                      refine wl_val (r_build (pl := #[(0, 1), (1, 1), (2, 1)]) (_) Try.underlying24 Try.zeroValue24 (fun w => by kernel_rfl) rfl (rfl)) (ltn rfl) ?_
                      refine wl_eff0 (e_storePL 0 (l' := [_, _, _]) (us := [_, _, _]) H3 Try.sizeOf24 rfl rfl rfl (ones_cons (by first | rfl | assumption) (ones_cons (by first | rfl | assumption) (ones_cons (by first | rfl | assumption) ones_nil))) rfl rfl) ?_
                      rintro _ w36 H36
                      refine wl_val (r_assign rfl) (ltn rfl) ?_
                      refine wl_nil ?_
                      refine wq_seq ?_
                      refine wc_ret ?_
                      refine wq_end (.inl rfl) (resCT Try.results11 rfl rfl Try.underlying24 rfl (by rw [show (Try.prog.info? 24).map (·.size) = some 3 from by kernel_rfl]; rfl) (H36).get.2) ?_
                      rw [jK_0 (by omega) (by omega)]
                      exact ⟨_, _, rfl, ((H36.right.right.right).row_nil none).row_nil none⟩
              · (try simp only [beq_iff_eq, bne_iff_ne, ne_eq, decide_eq_true_eq, decide_eq_false_iff_not, beq_eq_false_iff_ne, bne_eq_false_iff_eq, Bool.not_eq_true', Bool.not_eq_false', Bool.not_eq_eq_eq_not, Bool.not_true, Bool.not_false, gt_iff_lt, ge_iff_le, Int.not_lt, Int.not_le] at h14)
                try (exfalso; first | contradiction | omega)
                all_goals
                  refine wl_no rfl rfl rfl (ltn rfl) ?_
                  refine wl_no rfl rfl rfl (ltn rfl) ?_
                  refine wl_no rfl rfl rfl (ltn rfl) ?_
                  refine wl_no rfl rfl rfl (ltn rfl) ?_
                  refine wl_no rfl rfl rfl (ltn rfl) ?_
                  refine wl_val (r_pick_f rfl rfl) (ltn rfl) ?_
                  refine wl_nil ?_
                  refine wq_seq ?_
                  refine wc_cond_f rfl ?_
                  refine wc_skip ?_
                  refine wq_seq ?_
                  refine wc_seq ?_
                  refine wc_region ?_
                  refine wl_val (r_build (pl := #[(0, 1), (1, 1), (2, 1)]) (_) Try.underlying24 Try.zeroValue24 (fun w => by kernel_rfl) rfl (rfl)) (ltn rfl) ?_
                  refine wl_eff0 (e_storePL 0 (l' := [_, _, _]) (us := [_, _, _]) H3 Try.sizeOf24 rfl rfl rfl (ones_cons (by first | rfl | assumption) (ones_cons (by first | rfl | assumption) (ones_cons (by first | rfl | assumption) ones_nil))) rfl rfl) ?_
                  rintro _ w37 H37
                  refine wl_val (r_assign rfl) (ltn rfl) ?_
                  refine wl_nil ?_
                  refine wq_seq ?_
                  refine wc_ret ?_
                  refine wq_end (.inl rfl) (resCT Try.results11 rfl rfl Try.underlying24 rfl (by rw [show (Try.prog.info? 24).map (·.size) = some 3 from by kernel_rfl]; rfl) (H37).get.2) ?_
                  rw [jK_0 (by omega) (by omega)]
                  exact ⟨_, _, rfl, ((H37.right.right.right).row_nil none).row_nil none⟩
          · (try simp only [beq_iff_eq, bne_iff_ne, ne_eq, decide_eq_true_eq, decide_eq_false_iff_not, beq_eq_false_iff_ne, bne_eq_false_iff_eq, Bool.not_eq_true', Bool.not_eq_false', Bool.not_eq_eq_eq_not, Bool.not_true, Bool.not_false, gt_iff_lt, ge_iff_le, Int.not_lt, Int.not_le] at h13)
            try (exfalso; first | contradiction | omega)
            all_goals
              refine wl_no rfl rfl rfl (ltn rfl) ?_
              refine wl_no rfl rfl rfl (ltn rfl) ?_
              refine wl_no rfl rfl rfl (ltn rfl) ?_
              refine wl_no rfl rfl rfl (ltn rfl) ?_
              refine wl_no rfl rfl rfl (ltn rfl) ?_
              refine wl_no rfl rfl rfl (ltn rfl) ?_
              refine wl_no rfl rfl rfl (ltn rfl) ?_
              refine wl_no rfl rfl rfl (ltn rfl) ?_
              refine wl_no rfl rfl rfl (ltn rfl) ?_
              refine wl_val (r_pick_f rfl rfl) (ltn rfl) ?_
              refine wl_val (r_move rfl) (ltn rfl) ?_
              refine wl_no rfl rfl rfl (ltn rfl) ?_
              refine wl_no rfl rfl rfl (ltn rfl) ?_
              refine wl_no rfl rfl rfl (ltn rfl) ?_
              refine wl_no rfl rfl rfl (ltn rfl) ?_
              refine wl_no rfl rfl rfl (ltn rfl) ?_
              refine wl_val (r_pick_f rfl rfl) (ltn rfl) ?_
              refine wl_nil ?_
              refine wq_seq ?_
              refine wc_cond_f rfl ?_
              refine wc_skip ?_
              refine wq_seq ?_
              refine wc_seq ?_
              refine wc_region ?_
              refine wl_val (r_build (pl := #[(0, 1), (1, 1), (2, 1)]) (_) Try.underlying24 Try.zeroValue24 (fun w => by kernel_rfl) rfl (rfl)) (ltn rfl) ?_
              refine wl_eff0 (e_storePL 0 (l' := [_, _, _]) (us := [_, _, _]) H3 Try.sizeOf24 rfl rfl rfl (ones_cons (by first | rfl | assumption) (ones_cons (by first | rfl | assumption) (ones_cons (by first | rfl | assumption) ones_nil))) rfl rfl) ?_
              rintro _ w38 H38
              refine wl_val (r_assign rfl) (ltn rfl) ?_
              refine wl_nil ?_
              refine wq_seq ?_
              refine wc_ret ?_
              refine wq_end (.inl rfl) (resCT Try.results11 rfl rfl Try.underlying24 rfl (by rw [show (Try.prog.info? 24).map (·.size) = some 3 from by kernel_rfl]; rfl) (H38).get.2) ?_
              rw [jK_0 (by omega) (by omega)]
              exact ⟨_, _, rfl, ((H38.right.right.right).row_nil none).row_nil none⟩
      · (try simp only [beq_iff_eq, bne_iff_ne, ne_eq, decide_eq_true_eq, decide_eq_false_iff_not, beq_eq_false_iff_ne, bne_eq_false_iff_eq, Bool.not_eq_true', Bool.not_eq_false', Bool.not_eq_eq_eq_not, Bool.not_true, Bool.not_false, gt_iff_lt, ge_iff_le, Int.not_lt, Int.not_le] at h12)
        try (exfalso; first | contradiction | omega)
        all_goals
          refine wl_no rfl rfl rfl (ltn rfl) ?_
          refine wl_no rfl rfl rfl (ltn rfl) ?_
          refine wl_no rfl rfl rfl (ltn rfl) ?_
          refine wl_no rfl rfl rfl (ltn rfl) ?_
          refine wl_val (r_pick_f rfl rfl) (ltn rfl) ?_
          refine wl_val (r_move rfl) (ltn rfl) ?_
          refine wl_no rfl rfl rfl (ltn rfl) ?_
          refine wl_no rfl rfl rfl (ltn rfl) ?_
          refine wl_no rfl rfl rfl (ltn rfl) ?_
          refine wl_no rfl rfl rfl (ltn rfl) ?_
          refine wl_no rfl rfl rfl (ltn rfl) ?_
          refine wl_no rfl rfl rfl (ltn rfl) ?_
          refine wl_no rfl rfl rfl (ltn rfl) ?_
          refine wl_no rfl rfl rfl (ltn rfl) ?_
          refine wl_no rfl rfl rfl (ltn rfl) ?_
          refine wl_val (r_pick_f rfl rfl) (ltn rfl) ?_
          refine wl_val (r_move rfl) (ltn rfl) ?_
          refine wl_no rfl rfl rfl (ltn rfl) ?_
          refine wl_no rfl rfl rfl (ltn rfl) ?_
          refine wl_no rfl rfl rfl (ltn rfl) ?_
          refine wl_no rfl rfl rfl (ltn rfl) ?_
          refine wl_no rfl rfl rfl (ltn rfl) ?_
          refine wl_val (r_pick_f rfl rfl) (ltn rfl) ?_
          refine wl_nil ?_
          refine wq_seq ?_
          refine wc_cond_f rfl ?_
          refine wc_skip ?_
          refine wq_seq ?_
          refine wc_seq ?_
          refine wc_region ?_
          refine wl_val (r_build (pl := #[(0, 1), (1, 1), (2, 1)]) (_) Try.underlying24 Try.zeroValue24 (fun w => by kernel_rfl) rfl (rfl)) (ltn rfl) ?_
          refine wl_eff0 (e_storePL 0 (l' := [_, _, _]) (us := [_, _, _]) H3 Try.sizeOf24 rfl rfl rfl (ones_cons (by first | rfl | assumption) (ones_cons (by first | rfl | assumption) (ones_cons (by first | rfl | assumption) ones_nil))) rfl rfl) ?_
          rintro _ w39 H39
          refine wl_val (r_assign rfl) (ltn rfl) ?_
          refine wl_nil ?_
          refine wq_seq ?_
          refine wc_ret ?_
          refine wq_end (.inl rfl) (resCT Try.results11 rfl rfl Try.underlying24 rfl (by rw [show (Try.prog.info? 24).map (·.size) = some 3 from by kernel_rfl]; rfl) (H39).get.2) ?_
          rw [jK_0 (by omega) (by omega)]
          exact ⟨_, _, rfl, ((H39.right.right.right).row_nil none).row_nil none⟩
theorem ref_join_ret (H : Holds w0 w F) (hd : FRdI w0 F .i32 d dl) (hi : FRdI w0 F .i32 z il) (hd2 : FRdI w0 F .i32 d2 dl2) (hi2 : FRdI w0 F .i32 z2 il2) (ba : -9223372036854775808 ≤ a ∧ a ≤ 9223372036854775807) (ba2 : -9223372036854775808 ≤ a2 ∧ a2 ≤ 9223372036854775807)
    (b1 : dl.length + dl2.length ≤ 35184372088832) (b2 : il.length + il2.length ≤ 35184372088832) :
    Ret Try.prog 12 #[edV a d z, edV a2 d2 z2] w fun v' w' => ∃ d' z', v' = .tuple #[edV (jA (jK a a2 dl il dl2 il2) a a2) d' z', .bool (decide (jK a a2 dl il dl2 il2 ≠ 0))] ∧
      Holds w0 w' (RowI 21 .i32 d' (jD (jK a a2 dl il dl2 il2) dl dl2) • RowI 21 .i32 z' (jI (jK a a2 dl il dl2 il2) il il2) • F) := by
  have W1 := IntKind.wrap_i64 (a2 - a)
  have W2 := IntKind.wrap_i64 (a - a2)
  refine ret_enter Try.func12 rfl Try.ntmps12 (Nat.le_of_ble_eq_true rfl) ?_
  dsimp only [slots0, Nat.reduceAdd]
  refine wc_seq ?_
  refine wc_region ?_
  refine wl_eff (e_boxL (l := [_, _, _]) H rfl rfl) (ltn rfl) ?_
  rintro _ w1 ⟨b1, rfl, H1⟩
  refine wl_eff (e_boxL (l := [_, _, _]) H1 rfl rfl) (ltn rfl) ?_
  rintro _ w2 ⟨b2, rfl, H2⟩
  refine wl_eff (e_allocL (l := [_, _, _]) H2 Try.zeroValue24 rfl) (ltn rfl) ?_
  rintro _ w3 ⟨b3, rfl, H3⟩
  refine wl_val (r_assign rfl) (ltn rfl) ?_
  refine wl_nil ?_
  refine wq_seq ?_
  refine wc_seq ?_
  refine wc_block ?_
  refine wc_seq ?_
  refine wc_region ?_
  refine wl_val ((by first | exact r_field0 1 Try.underlying24 rfl rfl Try.sizeOf22 (by decide) rfl | exact r_field 1 Try.underlying24 rfl rfl Try.sizeOf22 (by decide) rfl)) (ltn rfl) ?_
  refine wl_val (r_load (plain_of Try.underlying22 rfl) rfl (cell_of_blk (H3.f2).get.2 rfl)) (ltn rfl) ?_
  refine wl_val (r_lenR (hd2 _ (H3.right.right.right)) Try.underlying22 rfl) (ltn rfl) ?_
  refine wl_val (r_eql rfl rfl) (ltn rfl) ?_
  refine wl_split rfl (ltn rfl) (fun h1 => ?_) (fun h1 => ?_)
  · (try simp only [beq_iff_eq, bne_iff_ne, ne_eq, decide_eq_true_eq, decide_eq_false_iff_not, beq_eq_false_iff_ne, bne_eq_false_iff_eq, Bool.not_eq_true', Bool.not_eq_false', Bool.not_eq_eq_eq_not, Bool.not_true, Bool.not_false, gt_iff_lt, ge_iff_le, Int.not_lt, Int.not_le] at h1)
    try (exfalso; first | contradiction | omega)
    all_goals
      refine wl_yes rfl rfl ?_
      refine wl_val ((by first | exact r_field0 0 Try.underlying24 rfl rfl Try.sizeOf3 (by decide) rfl | exact r_field 0 Try.underlying24 rfl rfl Try.sizeOf3 (by decide) rfl)) (ltn rfl) ?_
      refine wl_yes rfl rfl ?_
      refine wl_val (r_load (plain_of Try.underlying3 rfl) rfl (cell_of_blk (H3.f3).get.2 rfl)) (ltn rfl) ?_
      refine wl_yes rfl rfl ?_
      refine wl_val ((by first | exact r_field0 0 Try.underlying24 rfl rfl Try.sizeOf3 (by decide) rfl | exact r_field 0 Try.underlying24 rfl rfl Try.sizeOf3 (by decide) rfl)) (ltn rfl) ?_
      refine wl_yes rfl rfl ?_
      refine wl_val (r_load (plain_of Try.underlying3 rfl) rfl (cell_of_blk (H3.f2).get.2 rfl)) (ltn rfl) ?_
      refine wl_yes rfl rfl ?_
      refine wl_val (r_leq rfl rfl) (ltn rfl) ?_
      refine wl_val (r_pick_t rfl rfl) (ltn rfl) ?_
      refine wl_split rfl (ltn rfl) (fun h2 => ?_) (fun h2 => ?_)
      · (try simp only [beq_iff_eq, bne_iff_ne, ne_eq, decide_eq_true_eq, decide_eq_false_iff_not, beq_eq_false_iff_ne, bne_eq_false_iff_eq, Bool.not_eq_true', Bool.not_eq_false', Bool.not_eq_eq_eq_not, Bool.not_true, Bool.not_false, gt_iff_lt, ge_iff_le, Int.not_lt, Int.not_le] at h2)
        try (exfalso; first | contradiction | omega)
        all_goals
          refine wl_yes rfl rfl ?_
          refine wl_val ((by first | exact r_field0 0 Try.underlying24 rfl rfl Try.sizeOf3 (by decide) rfl | exact r_field 0 Try.underlying24 rfl rfl Try.sizeOf3 (by decide) rfl)) (ltn rfl) ?_
          refine wl_yes rfl rfl ?_
          refine wl_val (r_load (plain_of Try.underlying3 rfl) rfl (cell_of_blk (H3.f2).get.2 rfl)) (ltn rfl) ?_
          refine wl_yes rfl rfl ?_
          refine wl_val ((by first | exact r_field0 0 Try.underlying24 rfl rfl Try.sizeOf3 (by decide) rfl | exact r_field 0 Try.underlying24 rfl rfl Try.sizeOf3 (by decide) rfl)) (ltn rfl) ?_
          refine wl_yes rfl rfl ?_
          refine wl_val (r_load (plain_of Try.underlying3 rfl) rfl (cell_of_blk (H3.f3).get.2 rfl)) (ltn rfl) ?_
          refine wl_yes rfl rfl ?_
          refine wl_val (r_subK rfl rfl) (ltn rfl) ?_
          refine wl_yes rfl rfl ?_
          refine wl_val ((by first | exact r_field0 2 Try.underlying24 rfl rfl Try.sizeOf22 (by decide) rfl | exact r_field 2 Try.underlying24 rfl rfl Try.sizeOf22 (by decide) rfl)) (ltn rfl) ?_
          refine wl_yes rfl rfl ?_
          refine wl_val (r_load (plain_of Try.underlying22 rfl) rfl (cell_of_blk (H3.f3).get.2 rfl)) (ltn rfl) ?_
          refine wl_yes rfl rfl ?_
          refine wl_val (r_lenR (hi _ (H3.right.right.right)) Try.underlying22 rfl) (ltn rfl) ?_
          refine wl_yes rfl rfl ?_
          refine wl_val (r_eql rfl rfl) (ltn rfl) ?_
          refine wl_val (r_pick_t rfl rfl) (ltn rfl) ?_
          refine wl_val (r_assign rfl) (ltn rfl) ?_
          refine wl_nil ?_
          refine wq_seq ?_
          refine wc_cond rfl (fun h3 => ?_) (fun h3 => ?_)
          · (try simp only [beq_iff_eq, bne_iff_ne, ne_eq, decide_eq_true_eq, decide_eq_false_iff_not, beq_eq_false_iff_ne, bne_eq_false_iff_eq, Bool.not_eq_true', Bool.not_eq_false', Bool.not_eq_eq_eq_not, Bool.not_true, Bool.not_false, gt_iff_lt, ge_iff_le, Int.not_lt, Int.not_le] at h3)
            try (exfalso; first | contradiction | omega)
            all_goals
              
              refine wc_seq ?_
              have H2d3 := H3.drew
              have hS2d3 := Holds.kp (H2d3.f3.f3.f3)
              refine wd_beginK [1, 3, 6, 9] hS2d3 (by kernel_rfl) (by kernel_rfl) rfl ?_
              refine wd_takeT 0 rfl (by kernel_rfl) (by kernel_rfl) hS2d3 (fun _ => (by first | exact r_field0 0 Try.underlying24 rfl rfl Try.sizeOf3 (by decide) rfl | exact r_field 0 Try.underlying24 rfl rfl Try.sizeOf3 (by decide) rfl)) (ltn rfl) ?_
              refine wd_take 1 rfl (by kernel_rfl) (by kernel_rfl) hS2d3 (by decide) (fun W hW => r_load (plain_of Try.underlying3 rfl) rfl (cell_of_blk ((Kp.h hW).f3).get.2 rfl)) (ltn rfl) ?_
              refine wd_takeT 2 rfl (by kernel_rfl) (by kernel_rfl) hS2d3 (fun _ => (by first | exact r_field0 1 Try.underlying24 rfl rfl Try.sizeOf22 (by decide) rfl | exact r_field 1 Try.underlying24 rfl rfl Try.sizeOf22 (by decide) rfl)) (ltn rfl) ?_
              refine wd_take 3 rfl (by kernel_rfl) (by kernel_rfl) hS2d3 (by decide) (fun W hW => r_load (plain_of Try.underlying22 rfl) rfl (cell_of_blk ((Kp.h hW).f3).get.2 rfl)) (ltn rfl) ?_
              refine wd_takeT 5 rfl (by kernel_rfl) (by kernel_rfl) hS2d3 (fun _ => (by first | exact r_field0 2 Try.underlying24 rfl rfl Try.sizeOf22 (by decide) rfl | exact r_field 2 Try.underlying24 rfl rfl Try.sizeOf22 (by decide) rfl)) (ltn rfl) ?_
              refine wd_take 6 rfl (by kernel_rfl) (by kernel_rfl) hS2d3 (by decide) (fun W hW => r_load (plain_of Try.underlying22 rfl) rfl (cell_of_blk ((Kp.h hW).f3).get.2 rfl)) (ltn rfl) ?_
              refine wd_takeT 8 rfl (by kernel_rfl) (by kernel_rfl) hS2d3 (fun _ => (by first | exact r_field0 2 Try.underlying24 rfl rfl Try.sizeOf22 (by decide) rfl | exact r_field 2 Try.underlying24 rfl rfl Try.sizeOf22 (by decide) rfl)) (ltn rfl) ?_
              refine wd_take 9 rfl (by kernel_rfl) (by kernel_rfl) hS2d3 (by decide) (fun W hW => r_load (plain_of Try.underlying22 rfl) rfl (cell_of_blk ((Kp.h hW).f2).get.2 rfl)) (ltn rfl) ?_
              refine wd_eff 4 rfl (by kernel_rfl) (e_call (r_call rfl Try.func47 rfl rfl) (rclone_ret H2d3 (fun W HW => hd _ (HW.right.right.right)) (by first|omega|(simp only [List.length_take]; omega)))) (ltn rfl) ?_
              rintro u4 w4 H4
              have hS4n := Holds.kp (H4.f4.f4.f4.f4)
              refine keepK hS4n (fun W hW => (Kp.h hW).right.f3.f3.f3) ?_
              refine wd_eff 7 rfl (by kernel_rfl) (e_call (r_call rfl Try.func47 rfl rfl) (rclone_ret H4 (fun W HW => hi _ (HW.right.right.right.right)) (by first|omega|(simp only [List.length_take]; omega)))) (ltn rfl) ?_
              rintro u5 w5 H5
              have hS5n := Holds.kp (H5.right.f4.f4.f4.f4)
              refine keepK hS5n (fun W hW => (Kp.h hW).f4.f4.f4.f4) ?_
              refine wd_eff 10 rfl (by kernel_rfl) (e_append_ints H5 (hi2 _ (H5.right.right.right.right.right)) Try.underlying22 (show (Try.prog.info? 21).map (fun i => (i.zero, i.size, i.bytes)) = some (some (.int .i32 0), 1, 4) by kernel_rfl) rfl rfl (by first | omega | (simp only [List.length_append, List.length_nil, List.length_cons]; omega) | (simp; omega)) (by first | omega | (simp only [List.length_append, List.length_nil, List.length_cons]; omega) | (simp; omega))) (ltn rfl) ?_
              rintro l6 w6 H6
              try simp only [List.nil_append] at H6
              have hS6n := Holds.kp (H6.f5.f5.f5.f5.f5)
              refine keepK hS6n (fun W hW => (Kp.h hW).right.f4.f4.f4.f4) ?_
              obtain ⟨au4, cu4, eu4, -⟩ := RdI.open ((H6.f2).row_rd)
              subst eu4
              obtain ⟨al6, cl6, el6, -⟩ := RdI.open ((H6).row_rd)
              subst el6
              refine wd_takeT 11 rfl (by kernel_rfl) (by kernel_rfl) hS6n (fun _ => r_build (pl := #[(0, 1), (1, 1), (2, 1)]) (_) Try.underlying24 Try.zeroValue24 (fun w => by kernel_rfl) rfl (rfl)) (ltn rfl) ?_
              refine wd_eff0 12 rfl (by kernel_rfl) (e_storePL 0 (l' := [_, _, _]) (us := [_, _, _]) H6.f3 Try.sizeOf24 rfl rfl rfl (ones_cons (by first | rfl | assumption) (ones_cons (by first | rfl | exact Rd.one ((H6.f2).row_rd)) (ones_cons (by first | rfl | exact Rd.one ((H6).row_rd)) ones_nil))) rfl rfl) ?_
              rintro _ w9 H9
              have hS9n := Holds.kp (H9.f5.f5.f5.f5.f5)
              refine keepX hS9n (by kernel_rfl) ?_
              refine wd_takeT 13 rfl (by kernel_rfl) (by kernel_rfl) hS9n (fun _ => r_assign rfl) (ltn rfl) ?_
              refine wd_done (by kernel_rfl) ?_
              refine wq_seq ?_
              refine wc_ret ?_
              refine wq_block_ret ?_
              refine wq_then_ret ?_
              refine wq_end (.inl rfl) (resCT Try.results12 rfl rfl Try.underlying24 rfl (by rw [show (Try.prog.info? 24).map (·.size) = some 3 from by kernel_rfl]; rfl) (H9).get.2) ?_
              rw [jK_1 (by omega) (by omega)]
              exact ⟨_, _, rfl, H9.right.f3.right.f3.right.f2⟩
          · (try simp only [beq_iff_eq, bne_iff_ne, ne_eq, decide_eq_true_eq, decide_eq_false_iff_not, beq_eq_false_iff_ne, bne_eq_false_iff_eq, Bool.not_eq_true', Bool.not_eq_false', Bool.not_eq_eq_eq_not, Bool.not_true, Bool.not_false, gt_iff_lt, ge_iff_le, Int.not_lt, Int.not_le] at h3)
            try (exfalso; first | contradiction | omega)
            all_goals
              
              refine wc_seq ?_
              refine wc_region ?_
              refine wl_val ((by first | exact r_field0 2 Try.underlying24 rfl rfl Try.sizeOf22 (by decide) rfl | exact r_field 2 Try.underlying24 rfl rfl Try.sizeOf22 (by decide) rfl)) (ltn rfl) ?_
              refine wl_val (r_load (plain_of Try.underlying22 rfl) rfl (cell_of_blk (H3.f3).get.2 rfl)) (ltn rfl) ?_
              refine wl_val (r_lenR (hi _ (H3.right.right.right)) Try.underlying22 rfl) (ltn rfl) ?_
              refine wl_val (r_eql rfl rfl) (ltn rfl) ?_
              refine wl_split rfl (ltn rfl) (fun h4 => ?_) (fun h4 => ?_)
              · (try simp only [beq_iff_eq, bne_iff_ne, ne_eq, decide_eq_true_eq, decide_eq_false_iff_not, beq_eq_false_iff_ne, bne_eq_false_iff_eq, Bool.not_eq_true', Bool.not_eq_false', Bool.not_eq_eq_eq_not, Bool.not_true, Bool.not_false, gt_iff_lt, ge_iff_le, Int.not_lt, Int.not_le] at h4)
                try (exfalso; first | contradiction | omega)
                all_goals
                  refine wl_yes rfl rfl ?_
                  refine wl_val ((by first | exact r_field0 2 Try.underlying24 rfl rfl Try.sizeOf22 (by decide) rfl | exact r_field 2 Try.underlying24 rfl rfl Try.sizeOf22 (by decide) rfl)) (ltn rfl) ?_
                  refine wl_yes rfl rfl ?_
                  refine wl_val (r_load (plain_of Try.underlying22 rfl) rfl (cell_of_blk (H3.f2).get.2 rfl)) (ltn rfl) ?_
                  refine wl_yes rfl rfl ?_
                  refine wl_val (r_lenR (hi2 _ (H3.right.right.right)) Try.underlying22 rfl) (ltn rfl) ?_
                  refine wl_yes rfl rfl ?_
                  refine wl_val (r_eql rfl rfl) (ltn rfl) ?_
                  refine wl_val (r_pick_t rfl rfl) (ltn rfl) ?_
                  refine wl_split rfl (ltn rfl) (fun h5 => ?_) (fun h5 => ?_)
                  · (try simp only [beq_iff_eq, bne_iff_ne, ne_eq, decide_eq_true_eq, decide_eq_false_iff_not, beq_eq_false_iff_ne, bne_eq_false_iff_eq, Bool.not_eq_true', Bool.not_eq_false', Bool.not_eq_eq_eq_not, Bool.not_true, Bool.not_false, gt_iff_lt, ge_iff_le, Int.not_lt, Int.not_le] at h5)
                    try (exfalso; first | contradiction | omega)
                    all_goals
                      refine wl_yes rfl rfl ?_
                      refine wl_val ((by first | exact r_field0 0 Try.underlying24 rfl rfl Try.sizeOf3 (by decide) rfl | exact r_field 0 Try.underlying24 rfl rfl Try.sizeOf3 (by decide) rfl)) (ltn rfl) ?_
                      refine wl_yes rfl rfl ?_
                      refine wl_val (r_load (plain_of Try.underlying3 rfl) rfl (cell_of_blk (H3.f2).get.2 rfl)) (ltn rfl) ?_
                      refine wl_yes rfl rfl ?_
                      refine wl_val ((by first | exact r_field0 0 Try.underlying24 rfl rfl Try.sizeOf3 (by decide) rfl | exact r_field 0 Try.underlying24 rfl rfl Try.sizeOf3 (by decide) rfl)) (ltn rfl) ?_
                      refine wl_yes rfl rfl ?_
                      refine wl_val (r_load (plain_of Try.underlying3 rfl) rfl (cell_of_blk (H3.f3).get.2 rfl)) (ltn rfl) ?_
                      refine wl_yes rfl rfl ?_
                      refine wl_val (r_leq rfl rfl) (ltn rfl) ?_
                      refine wl_val (r_pick_t rfl rfl) (ltn rfl) ?_
                      refine wl_split rfl (ltn rfl) (fun h6 => ?_) (fun h6 => ?_)
                      · (try simp only [beq_iff_eq, bne_iff_ne, ne_eq, decide_eq_true_eq, decide_eq_false_iff_not, beq_eq_false_iff_ne, bne_eq_false_iff_eq, Bool.not_eq_true', Bool.not_eq_false', Bool.not_eq_eq_eq_not, Bool.not_true, Bool.not_false, gt_iff_lt, ge_iff_le, Int.not_lt, Int.not_le] at h6)
                        try (exfalso; first | contradiction | omega)
                        all_goals
                          refine wl_yes rfl rfl ?_
                          refine wl_val ((by first | exact r_field0 0 Try.underlying24 rfl rfl Try.sizeOf3 (by decide) rfl | exact r_field 0 Try.underlying24 rfl rfl Try.sizeOf3 (by decide) rfl)) (ltn rfl) ?_
                          refine wl_yes rfl rfl ?_
                          refine wl_val (r_load (plain_of Try.underlying3 rfl) rfl (cell_of_blk (H3.f3).get.2 rfl)) (ltn rfl) ?_
                          refine wl_yes rfl rfl ?_
                          refine wl_val ((by first | exact r_field0 0 Try.underlying24 rfl rfl Try.sizeOf3 (by decide) rfl | exact r_field 0 Try.underlying24 rfl rfl Try.sizeOf3 (by decide) rfl)) (ltn rfl) ?_
                          refine wl_yes rfl rfl ?_
                          refine wl_val (r_load (plain_of Try.underlying3 rfl) rfl (cell_of_blk (H3.f2).get.2 rfl)) (ltn rfl) ?_
                          refine wl_yes rfl rfl ?_
                          refine wl_val (r_subK rfl rfl) (ltn rfl) ?_
                          refine wl_yes rfl rfl ?_
                          refine wl_val ((by first | exact r_field0 1 Try.underlying24 rfl rfl Try.sizeOf22 (by decide) rfl | exact r_field 1 Try.underlying24 rfl rfl Try.sizeOf22 (by decide) rfl)) (ltn rfl) ?_
                          refine wl_yes rfl rfl ?_
                          refine wl_val (r_load (plain_of Try.underlying22 rfl) rfl (cell_of_blk (H3.f2).get.2 rfl)) (ltn rfl) ?_
                          refine wl_yes rfl rfl ?_
                          refine wl_val (r_lenR (hd2 _ (H3.right.right.right)) Try.underlying22 rfl) (ltn rfl) ?_
                          refine wl_yes rfl rfl ?_
                          refine wl_val (r_eql rfl rfl) (ltn rfl) ?_
                          refine wl_val (r_pick_t rfl rfl) (ltn rfl) ?_
                          refine wl_val (r_assign rfl) (ltn rfl) ?_
                          refine wl_nil ?_
                          refine wq_seq ?_
                          refine wc_cond rfl (fun h7 => ?_) (fun h7 => ?_)
                          · (try simp only [beq_iff_eq, bne_iff_ne, ne_eq, decide_eq_true_eq, decide_eq_false_iff_not, beq_eq_false_iff_ne, bne_eq_false_iff_eq, Bool.not_eq_true', Bool.not_eq_false', Bool.not_eq_eq_eq_not, Bool.not_true, Bool.not_false, gt_iff_lt, ge_iff_le, Int.not_lt, Int.not_le] at h7)
                            try (exfalso; first | contradiction | omega)
                            all_goals
                              
                              refine wc_seq ?_
                              have H4d9 := H3.drew
                              have hS4d9 := Holds.kp (H4d9.f3.f3.f3)
                              refine wd_beginK [1, 3, 6] hS4d9 (by kernel_rfl) (by kernel_rfl) rfl ?_
                              refine wd_takeT 0 rfl (by kernel_rfl) (by kernel_rfl) hS4d9 (fun _ => (by first | exact r_field0 0 Try.underlying24 rfl rfl Try.sizeOf3 (by decide) rfl | exact r_field 0 Try.underlying24 rfl rfl Try.sizeOf3 (by decide) rfl)) (ltn rfl) ?_
                              refine wd_take 1 rfl (by kernel_rfl) (by kernel_rfl) hS4d9 (by decide) (fun W hW => r_load (plain_of Try.underlying3 rfl) rfl (cell_of_blk ((Kp.h hW).f2).get.2 rfl)) (ltn rfl) ?_
                              refine wd_takeT 2 rfl (by kernel_rfl) (by kernel_rfl) hS4d9 (fun _ => (by first | exact r_field0 1 Try.underlying24 rfl rfl Try.sizeOf22 (by decide) rfl | exact r_field 1 Try.underlying24 rfl rfl Try.sizeOf22 (by decide) rfl)) (ltn rfl) ?_
                              refine wd_take 3 rfl (by kernel_rfl) (by kernel_rfl) hS4d9 (by decide) (fun W hW => r_load (plain_of Try.underlying22 rfl) rfl (cell_of_blk ((Kp.h hW).f2).get.2 rfl)) (ltn rfl) ?_
                              refine wd_takeT 5 rfl (by kernel_rfl) (by kernel_rfl) hS4d9 (fun _ => (by first | exact r_field0 1 Try.underlying24 rfl rfl Try.sizeOf22 (by decide) rfl | exact r_field 1 Try.underlying24 rfl rfl Try.sizeOf22 (by decide) rfl)) (ltn rfl) ?_
                              refine wd_take 6 rfl (by kernel_rfl) (by kernel_rfl) hS4d9 (by decide) (fun W hW => r_load (plain_of Try.underlying22 rfl) rfl (cell_of_blk ((Kp.h hW).f3).get.2 rfl)) (ltn rfl) ?_
                              refine wd_eff 4 rfl (by kernel_rfl) (e_call (r_call rfl Try.func47 rfl rfl) (rclone_ret H4d9 (fun W HW => hd2 _ (HW.right.right.right)) (by first|omega|(simp only [List.length_take]; omega)))) (ltn rfl) ?_
                              rintro u10 w10 H10
                              have hS10n := Holds.kp (H10.right.f3.f3.f3)
                              refine keepK hS10n (fun W hW => (Kp.h hW).f3.f3.f3) ?_
                              refine wd_eff 7 rfl (by kernel_rfl) (e_append_ints H10 (hd _ (H10.right.right.right.right)) Try.underlying22 (show (Try.prog.info? 21).map (fun i => (i.zero, i.size, i.bytes)) = some (some (.int .i32 0), 1, 4) by kernel_rfl) rfl rfl (by first | omega | (simp only [List.length_append, List.length_nil, List.length_cons]; omega) | (simp; omega)) (by first | omega | (simp only [List.length_append, List.length_nil, List.length_cons]; omega) | (simp; omega))) (ltn rfl) ?_
                              rintro l11 w11 H11
                              try simp only [List.nil_append] at H11
                              have hS11n := Holds.kp (H11.f4.f4.f4.f4)
                              refine keepK hS11n (fun W hW => (Kp.h hW).right.f3.f3.f3) ?_
                              obtain ⟨al11, cl11, el11, -⟩ := RdI.open ((H11).row_rd)
                              subst el11
                              refine wd_takeT 8 rfl (by kernel_rfl) (by kernel_rfl) hS11n (fun _ => r_build (pl := #[(0, 1), (1, 1), (2, 1)]) (_) Try.underlying24 Try.zeroValue24 (fun w => by kernel_rfl) rfl (rfl)) (ltn rfl) ?_
                              refine wd_eff0 9 rfl (by kernel_rfl) (e_storePL 0 (l' := [_, _, _]) (us := [_, _, _]) H11.f2 Try.sizeOf24 rfl rfl rfl (ones_cons (by first | rfl | assumption) (ones_cons (by first | rfl | exact Rd.one ((H11).row_rd)) (ones_cons (by first | rfl | assumption) ones_nil))) rfl rfl) ?_
                              rintro _ w13 H13
                              have hS13n := Holds.kp (H13.f4.f4.f4.f4)
                              refine keepX hS13n (by kernel_rfl) ?_
                              refine wd_takeT 10 rfl (by kernel_rfl) (by kernel_rfl) hS13n (fun _ => r_assign rfl) (ltn rfl) ?_
                              refine wd_done (by kernel_rfl) ?_
                              refine wq_seq ?_
                              refine wc_ret ?_
                              refine wq_block_ret ?_
                              refine wq_then_ret ?_
                              refine wq_end (.inl rfl) (resCT Try.results12 rfl rfl Try.underlying24 rfl (by rw [show (Try.prog.info? 24).map (·.size) = some 3 from by kernel_rfl]; rfl) (H13).get.2) ?_
                              rw [jK_2 (by omega) (by omega) (by omega) (by omega)]
                              exact ⟨_, _, rfl, ((H13.right.f2.right.f2.right).row_nil none).swap⟩
                          · (try simp only [beq_iff_eq, bne_iff_ne, ne_eq, decide_eq_true_eq, decide_eq_false_iff_not, beq_eq_false_iff_ne, bne_eq_false_iff_eq, Bool.not_eq_true', Bool.not_eq_false', Bool.not_eq_eq_eq_not, Bool.not_true, Bool.not_false, gt_iff_lt, ge_iff_le, Int.not_lt, Int.not_le] at h7)
                            try (exfalso; first | contradiction | omega)
                            all_goals
                              
                              refine wc_skip ?_
                              refine wq_block_normal ?_
                              refine wq_seq ?_
                              refine wc_seq ?_
                              refine wc_region ?_
                              refine wl_val (r_build (pl := #[(0, 1), (1, 1), (2, 1)]) (_) Try.underlying24 Try.zeroValue24 (fun w => by kernel_rfl) rfl (rfl)) (ltn rfl) ?_
                              refine wl_eff0 (e_storePL 0 (l' := [_, _, _]) (us := [_, _, _]) H3 Try.sizeOf24 rfl rfl rfl (ones_cons (by first | rfl | assumption) (ones_cons (by first | rfl | assumption) (ones_cons (by first | rfl | assumption) ones_nil))) rfl rfl) ?_
                              rintro _ w14 H14
                              refine wl_val (r_assign rfl) (ltn rfl) ?_
                              refine wl_nil ?_
                              refine wq_seq ?_
                              refine wc_ret ?_
                              refine wq_end (.inl rfl) (resCT Try.results12 rfl rfl Try.underlying24 rfl (by rw [show (Try.prog.info? 24).map (·.size) = some 3 from by kernel_rfl]; rfl) (H14).get.2) ?_
                              rw [jK_0 (by omega) (by omega)]
                              exact ⟨_, _, rfl, ((H14.right.right.right).row_nil none).row_nil none⟩
                      · (try simp only [beq_iff_eq, bne_iff_ne, ne_eq, decide_eq_true_eq, decide_eq_false_iff_not, beq_eq_false_iff_ne, bne_eq_false_iff_eq, Bool.not_eq_true', Bool.not_eq_false', Bool.not_eq_eq_eq_not, Bool.not_true, Bool.not_false, gt_iff_lt, ge_iff_le, Int.not_lt, Int.not_le] at h6)
                        try (exfalso; first | contradiction | omega)
                        all_goals
                          refine wl_no rfl rfl rfl (ltn rfl) ?_
                          refine wl_no rfl rfl rfl (ltn rfl) ?_
                          refine wl_no rfl rfl rfl (ltn rfl) ?_
                          refine wl_no rfl rfl rfl (ltn rfl) ?_
                          refine wl_no rfl rfl rfl (ltn rfl) ?_
                          refine wl_no rfl rfl rfl (ltn rfl) ?_
                          refine wl_no rfl rfl rfl (ltn rfl) ?_
                          refine wl_no rfl rfl rfl (ltn rfl) ?_
                          refine wl_no rfl rfl rfl (ltn rfl) ?_
                          refine wl_val (r_pick_f rfl rfl) (ltn rfl) ?_
                          refine wl_val (r_assign rfl) (ltn rfl) ?_
                          refine wl_nil ?_
                          refine wq_seq ?_
                          refine wc_cond_f rfl ?_
                          refine wc_skip ?_
                          refine wq_block_normal ?_
                          refine wq_seq ?_
                          refine wc_seq ?_
                          refine wc_region ?_
                          refine wl_val (r_build (pl := #[(0, 1), (1, 1), (2, 1)]) (_) Try.underlying24 Try.zeroValue24 (fun w => by kernel_rfl) rfl (rfl)) (ltn rfl) ?_
                          refine wl_eff0 (e_storePL 0 (l' := [_, _, _]) (us := [_, _, _]) H3 Try.sizeOf24 rfl rfl rfl (ones_cons (by first | rfl | assumption) (ones_cons (by first | rfl | assumption) (ones_cons (by first | rfl | assumption) ones_nil))) rfl rfl) ?_
                          rintro _ w15 H15
                          refine wl_val (r_assign rfl) (ltn rfl) ?_
                          refine wl_nil ?_
                          refine wq_seq ?_
                          refine wc_ret ?_
                          refine wq_end (.inl rfl) (resCT Try.results12 rfl rfl Try.underlying24 rfl (by rw [show (Try.prog.info? 24).map (·.size) = some 3 from by kernel_rfl]; rfl) (H15).get.2) ?_
                          rw [jK_0 (by omega) (by omega)]
                          exact ⟨_, _, rfl, ((H15.right.right.right).row_nil none).row_nil none⟩
                  · (try simp only [beq_iff_eq, bne_iff_ne, ne_eq, decide_eq_true_eq, decide_eq_false_iff_not, beq_eq_false_iff_ne, bne_eq_false_iff_eq, Bool.not_eq_true', Bool.not_eq_false', Bool.not_eq_eq_eq_not, Bool.not_true, Bool.not_false, gt_iff_lt, ge_iff_le, Int.not_lt, Int.not_le] at h5)
                    try (exfalso; first | contradiction | omega)
                    all_goals
                      refine wl_no rfl rfl rfl (ltn rfl) ?_
                      refine wl_no rfl rfl rfl (ltn rfl) ?_
                      refine wl_no rfl rfl rfl (ltn rfl) ?_
                      refine wl_no rfl rfl rfl (ltn rfl) ?_
                      refine wl_no rfl rfl rfl (ltn rfl) ?_
                      refine wl_val (r_pick_f rfl rfl) (ltn rfl) ?_
                      refine wl_val (r_move rfl) (ltn rfl) ?_
                      refine wl_no rfl rfl rfl (ltn rfl) ?_
                      refine wl_no rfl rfl rfl (ltn rfl) ?_
                      refine wl_no rfl rfl rfl (ltn rfl) ?_
                      refine wl_no rfl rfl rfl (ltn rfl) ?_
                      refine wl_no rfl rfl rfl (ltn rfl) ?_
                      refine wl_no rfl rfl rfl (ltn rfl) ?_
                      refine wl_no rfl rfl rfl (ltn rfl) ?_
                      refine wl_no rfl rfl rfl (ltn rfl) ?_
                      refine wl_no rfl rfl rfl (ltn rfl) ?_
                      refine wl_val (r_pick_f rfl rfl) (ltn rfl) ?_
                      refine wl_val (r_assign rfl) (ltn rfl) ?_
                      refine wl_nil ?_
                      refine wq_seq ?_
                      refine wc_cond_f rfl ?_
                      refine wc_skip ?_
                      refine wq_block_normal ?_
                      refine wq_seq ?_
                      refine wc_seq ?_
                      refine wc_region ?_
                      refine wl_val (r_build (pl := #[(0, 1), (1, 1), (2, 1)]) (_) Try.underlying24 Try.zeroValue24 (fun w => by kernel_rfl) rfl (rfl)) (ltn rfl) ?_
                      refine wl_eff0 (e_storePL 0 (l' := [_, _, _]) (us := [_, _, _]) H3 Try.sizeOf24 rfl rfl rfl (ones_cons (by first | rfl | assumption) (ones_cons (by first | rfl | assumption) (ones_cons (by first | rfl | assumption) ones_nil))) rfl rfl) ?_
                      rintro _ w16 H16
                      refine wl_val (r_assign rfl) (ltn rfl) ?_
                      refine wl_nil ?_
                      refine wq_seq ?_
                      refine wc_ret ?_
                      refine wq_end (.inl rfl) (resCT Try.results12 rfl rfl Try.underlying24 rfl (by rw [show (Try.prog.info? 24).map (·.size) = some 3 from by kernel_rfl]; rfl) (H16).get.2) ?_
                      rw [jK_0 (by omega) (by omega)]
                      exact ⟨_, _, rfl, ((H16.right.right.right).row_nil none).row_nil none⟩
              · (try simp only [beq_iff_eq, bne_iff_ne, ne_eq, decide_eq_true_eq, decide_eq_false_iff_not, beq_eq_false_iff_ne, bne_eq_false_iff_eq, Bool.not_eq_true', Bool.not_eq_false', Bool.not_eq_eq_eq_not, Bool.not_true, Bool.not_false, gt_iff_lt, ge_iff_le, Int.not_lt, Int.not_le] at h4)
                try (exfalso; first | contradiction | omega)
                all_goals
                  refine wl_no rfl rfl rfl (ltn rfl) ?_
                  refine wl_no rfl rfl rfl (ltn rfl) ?_
                  refine wl_no rfl rfl rfl (ltn rfl) ?_
                  refine wl_no rfl rfl rfl (ltn rfl) ?_
                  refine wl_val (r_pick_f rfl rfl) (ltn rfl) ?_
                  refine wl_val (r_move rfl) (ltn rfl) ?_
                  refine wl_no rfl rfl rfl (ltn rfl) ?_
                  refine wl_no rfl rfl rfl (ltn rfl) ?_
                  refine wl_no rfl rfl rfl (ltn rfl) ?_
                  refine wl_no rfl rfl rfl (ltn rfl) ?_
                  refine wl_no rfl rfl rfl (ltn rfl) ?_
                  refine wl_val (r_pick_f rfl rfl) (ltn rfl) ?_
                  refine wl_val (r_move rfl) (ltn rfl) ?_
                  refine wl_no rfl rfl rfl (ltn rfl) ?_
                  refine wl_no rfl rfl rfl (ltn rfl) ?_
                  refine wl_no rfl rfl rfl (ltn rfl) ?_
                  refine wl_no rfl rfl rfl (ltn rfl) ?_
                  refine wl_no rfl rfl rfl (ltn rfl) ?_
                  refine wl_no rfl rfl rfl (ltn rfl) ?_
                  refine wl_no rfl rfl rfl (ltn rfl) ?_
                  refine wl_no rfl rfl rfl (ltn rfl) ?_
                  refine wl_no rfl rfl rfl (ltn rfl) ?_
                  refine wl_val (r_pick_f rfl rfl) (ltn rfl) ?_
                  refine wl_val (r_assign rfl) (ltn rfl) ?_
                  refine wl_nil ?_
                  refine wq_seq ?_
                  refine wc_cond_f rfl ?_
                  refine wc_skip ?_
                  refine wq_block_normal ?_
                  refine wq_seq ?_
                  refine wc_seq ?_
                  refine wc_region ?_
                  refine wl_val (r_build (pl := #[(0, 1), (1, 1), (2, 1)]) (_) Try.underlying24 Try.zeroValue24 (fun w => by kernel_rfl) rfl (rfl)) (ltn rfl) ?_
                  refine wl_eff0 (e_storePL 0 (l' := [_, _, _]) (us := [_, _, _]) H3 Try.sizeOf24 rfl rfl rfl (ones_cons (by first | rfl | assumption) (ones_cons (by first | rfl | assumption) (ones_cons (by first | rfl | assumption) ones_nil))) rfl rfl) ?_
                  rintro _ w17 H17
                  refine wl_val (r_assign rfl) (ltn rfl) ?_
                  refine wl_nil ?_
                  refine wq_seq ?_
                  refine wc_ret ?_
                  refine wq_end (.inl rfl) (resCT Try.results12 rfl rfl Try.underlying24 rfl (by rw [show (Try.prog.info? 24).map (·.size) = some 3 from by kernel_rfl]; rfl) (H17).get.2) ?_
                  rw [jK_0 (by omega) (by omega)]
                  exact ⟨_, _, rfl, ((H17.right.right.right).row_nil none).row_nil none⟩
      · (try simp only [beq_iff_eq, bne_iff_ne, ne_eq, decide_eq_true_eq, decide_eq_false_iff_not, beq_eq_false_iff_ne, bne_eq_false_iff_eq, Bool.not_eq_true', Bool.not_eq_false', Bool.not_eq_eq_eq_not, Bool.not_true, Bool.not_false, gt_iff_lt, ge_iff_le, Int.not_lt, Int.not_le] at h2)
        try (exfalso; first | contradiction | omega)
        all_goals
          refine wl_no rfl rfl rfl (ltn rfl) ?_
          refine wl_no rfl rfl rfl (ltn rfl) ?_
          refine wl_no rfl rfl rfl (ltn rfl) ?_
          refine wl_no rfl rfl rfl (ltn rfl) ?_
          refine wl_no rfl rfl rfl (ltn rfl) ?_
          refine wl_no rfl rfl rfl (ltn rfl) ?_
          refine wl_no rfl rfl rfl (ltn rfl) ?_
          refine wl_no rfl rfl rfl (ltn rfl) ?_
          refine wl_no rfl rfl rfl (ltn rfl) ?_
          refine wl_val (r_pick_f rfl rfl) (ltn rfl) ?_
          refine wl_val (r_assign rfl) (ltn rfl) ?_
          refine wl_nil ?_
          refine wq_seq ?_
          refine wc_cond_f rfl ?_
          refine wc_seq ?_
          refine wc_region ?_
          refine wl_val ((by first | exact r_field0 2 Try.underlying24 rfl rfl Try.sizeOf22 (by decide) rfl | exact r_field 2 Try.underlying24 rfl rfl Try.sizeOf22 (by decide) rfl)) (ltn rfl) ?_
          refine wl_val (r_load (plain_of Try.underlying22 rfl) rfl (cell_of_blk (H3.f3).get.2 rfl)) (ltn rfl) ?_
          refine wl_val (r_lenR (hi _ (H3.right.right.right)) Try.underlying22 rfl) (ltn rfl) ?_
          refine wl_val (r_eql rfl rfl) (ltn rfl) ?_
          refine wl_split rfl (ltn rfl) (fun h8 => ?_) (fun h8 => ?_)
          · (try simp only [beq_iff_eq, bne_iff_ne, ne_eq, decide_eq_true_eq, decide_eq_false_iff_not, beq_eq_false_iff_ne, bne_eq_false_iff_eq, Bool.not_eq_true', Bool.not_eq_false', Bool.not_eq_eq_eq_not, Bool.not_true, Bool.not_false, gt_iff_lt, ge_iff_le, Int.not_lt, Int.not_le] at h8)
            try (exfalso; first | contradiction | omega)
            all_goals
              refine wl_yes rfl rfl ?_
              refine wl_val ((by first | exact r_field0 2 Try.underlying24 rfl rfl Try.sizeOf22 (by decide) rfl | exact r_field 2 Try.underlying24 rfl rfl Try.sizeOf22 (by decide) rfl)) (ltn rfl) ?_
              refine wl_yes rfl rfl ?_
              refine wl_val (r_load (plain_of Try.underlying22 rfl) rfl (cell_of_blk (H3.f2).get.2 rfl)) (ltn rfl) ?_
              refine wl_yes rfl rfl ?_
              refine wl_val (r_lenR (hi2 _ (H3.right.right.right)) Try.underlying22 rfl) (ltn rfl) ?_
              refine wl_yes rfl rfl ?_
              refine wl_val (r_eql rfl rfl) (ltn rfl) ?_
              refine wl_val (r_pick_t rfl rfl) (ltn rfl) ?_
              refine wl_split rfl (ltn rfl) (fun h9 => ?_) (fun h9 => ?_)
              · (try simp only [beq_iff_eq, bne_iff_ne, ne_eq, decide_eq_true_eq, decide_eq_false_iff_not, beq_eq_false_iff_ne, bne_eq_false_iff_eq, Bool.not_eq_true', Bool.not_eq_false', Bool.not_eq_eq_eq_not, Bool.not_true, Bool.not_false, gt_iff_lt, ge_iff_le, Int.not_lt, Int.not_le] at h9)
                try (exfalso; first | contradiction | omega)
                all_goals
                  refine wl_yes rfl rfl ?_
                  refine wl_val ((by first | exact r_field0 0 Try.underlying24 rfl rfl Try.sizeOf3 (by decide) rfl | exact r_field 0 Try.underlying24 rfl rfl Try.sizeOf3 (by decide) rfl)) (ltn rfl) ?_
                  refine wl_yes rfl rfl ?_
                  refine wl_val (r_load (plain_of Try.underlying3 rfl) rfl (cell_of_blk (H3.f2).get.2 rfl)) (ltn rfl) ?_
                  refine wl_yes rfl rfl ?_
                  refine wl_val ((by first | exact r_field0 0 Try.underlying24 rfl rfl Try.sizeOf3 (by decide) rfl | exact r_field 0 Try.underlying24 rfl rfl Try.sizeOf3 (by decide) rfl)) (ltn rfl) ?_
                  refine wl_yes rfl rfl ?_
                  refine wl_val (r_load (plain_of Try.underlying3 rfl) rfl (cell_of_blk (H3.f3).get.2 rfl)) (ltn rfl) ?_
                  refine wl_yes rfl rfl ?_
                  refine wl_val (r_leq rfl rfl) (ltn rfl) ?_
                  refine wl_val (r_pick_t rfl rfl) (ltn rfl) ?_
                  refine wl_split rfl (ltn rfl) (fun h10 => ?_) (fun h10 => ?_)
                  · (try simp only [beq_iff_eq, bne_iff_ne, ne_eq, decide_eq_true_eq, decide_eq_false_iff_not, beq_eq_false_iff_ne, bne_eq_false_iff_eq, Bool.not_eq_true', Bool.not_eq_false', Bool.not_eq_eq_eq_not, Bool.not_true, Bool.not_false, gt_iff_lt, ge_iff_le, Int.not_lt, Int.not_le] at h10)
                    try (exfalso; first | contradiction | omega)
                    all_goals
                      refine wl_yes rfl rfl ?_
                      refine wl_val ((by first | exact r_field0 0 Try.underlying24 rfl rfl Try.sizeOf3 (by decide) rfl | exact r_field 0 Try.underlying24 rfl rfl Try.sizeOf3 (by decide) rfl)) (ltn rfl) ?_
                      refine wl_yes rfl rfl ?_
                      refine wl_val (r_load (plain_of Try.underlying3 rfl) rfl (cell_of_blk (H3.f3).get.2 rfl)) (ltn rfl) ?_
                      refine wl_yes rfl rfl ?_
                      refine wl_val ((by first | exact r_field0 0 Try.underlying24 rfl rfl Try.sizeOf3 (by decide) rfl | exact r_field 0 Try.underlying24 rfl rfl Try.sizeOf3 (by decide) rfl)) (ltn rfl) ?_
                      refine wl_yes rfl rfl ?_
                      refine wl_val (r_load (plain_of Try.underlying3 rfl) rfl (cell_of_blk (H3.f2).get.2 rfl)) (ltn rfl) ?_
                      refine wl_yes rfl rfl ?_
                      refine wl_val (r_subK rfl rfl) (ltn rfl) ?_
                      refine wl_yes rfl rfl ?_
                      refine wl_val ((by first | exact r_field0 1 Try.underlying24 rfl rfl Try.sizeOf22 (by decide) rfl | exact r_field 1 Try.underlying24 rfl rfl Try.sizeOf22 (by decide) rfl)) (ltn rfl) ?_
                      refine wl_yes rfl rfl ?_
                      refine wl_val (r_load (plain_of Try.underlying22 rfl) rfl (cell_of_blk (H3.f2).get.2 rfl)) (ltn rfl) ?_
                      refine wl_yes rfl rfl ?_
                      refine wl_val (r_lenR (hd2 _ (H3.right.right.right)) Try.underlying22 rfl) (ltn rfl) ?_
                      refine wl_yes rfl rfl ?_
                      refine wl_val (r_eql rfl rfl) (ltn rfl) ?_
                      refine wl_val (r_pick_t rfl rfl) (ltn rfl) ?_
                      refine wl_val (r_assign rfl) (ltn rfl) ?_
                      refine wl_nil ?_
                      refine wq_seq ?_
                      refine wc_cond rfl (fun h11 => ?_) (fun h11 => ?_)
                      · (try simp only [beq_iff_eq, bne_iff_ne, ne_eq, decide_eq_true_eq, decide_eq_false_iff_not, beq_eq_false_iff_ne, bne_eq_false_iff_eq, Bool.not_eq_true', Bool.not_eq_false', Bool.not_eq_eq_eq_not, Bool.not_true, Bool.not_false, gt_iff_lt, ge_iff_le, Int.not_lt, Int.not_le] at h11)
                        try (exfalso; first | contradiction | omega)
                        all_goals
                          
                          refine wc_seq ?_
                          have H4d17 := H3.drew
                          have hS4d17 := Holds.kp (H4d17.f3.f3.f3)
                          refine wd_beginK [1, 3, 6] hS4d17 (by kernel_rfl) (by kernel_rfl) rfl ?_
                          refine wd_takeT 0 rfl (by kernel_rfl) (by kernel_rfl) hS4d17 (fun _ => (by first | exact r_field0 0 Try.underlying24 rfl rfl Try.sizeOf3 (by decide) rfl | exact r_field 0 Try.underlying24 rfl rfl Try.sizeOf3 (by decide) rfl)) (ltn rfl) ?_
                          refine wd_take 1 rfl (by kernel_rfl) (by kernel_rfl) hS4d17 (by decide) (fun W hW => r_load (plain_of Try.underlying3 rfl) rfl (cell_of_blk ((Kp.h hW).f2).get.2 rfl)) (ltn rfl) ?_
                          refine wd_takeT 2 rfl (by kernel_rfl) (by kernel_rfl) hS4d17 (fun _ => (by first | exact r_field0 1 Try.underlying24 rfl rfl Try.sizeOf22 (by decide) rfl | exact r_field 1 Try.underlying24 rfl rfl Try.sizeOf22 (by decide) rfl)) (ltn rfl) ?_
                          refine wd_take 3 rfl (by kernel_rfl) (by kernel_rfl) hS4d17 (by decide) (fun W hW => r_load (plain_of Try.underlying22 rfl) rfl (cell_of_blk ((Kp.h hW).f2).get.2 rfl)) (ltn rfl) ?_
                          refine wd_takeT 5 rfl (by kernel_rfl) (by kernel_rfl) hS4d17 (fun _ => (by first | exact r_field0 1 Try.underlying24 rfl rfl Try.sizeOf22 (by decide) rfl | exact r_field 1 Try.underlying24 rfl rfl Try.sizeOf22 (by decide) rfl)) (ltn rfl) ?_
                          refine wd_take 6 rfl (by kernel_rfl) (by kernel_rfl) hS4d17 (by decide) (fun W hW => r_load (plain_of Try.underlying22 rfl) rfl (cell_of_blk ((Kp.h hW).f3).get.2 rfl)) (ltn rfl) ?_
                          refine wd_eff 4 rfl (by kernel_rfl) (e_call (r_call rfl Try.func47 rfl rfl) (rclone_ret H4d17 (fun W HW => hd2 _ (HW.right.right.right)) (by first|omega|(simp only [List.length_take]; omega)))) (ltn rfl) ?_
                          rintro u18 w18 H18
                          have hS18n := Holds.kp (H18.right.f3.f3.f3)
                          refine keepK hS18n (fun W hW => (Kp.h hW).f3.f3.f3) ?_
                          refine wd_eff 7 rfl (by kernel_rfl) (e_append_ints H18 (hd _ (H18.right.right.right.right)) Try.underlying22 (show (Try.prog.info? 21).map (fun i => (i.zero, i.size, i.bytes)) = some (some (.int .i32 0), 1, 4) by kernel_rfl) rfl rfl (by first | omega | (simp only [List.length_append, List.length_nil, List.length_cons]; omega) | (simp; omega)) (by first | omega | (simp only [List.length_append, List.length_nil, List.length_cons]; omega) | (simp; omega))) (ltn rfl) ?_
                          rintro l19 w19 H19
                          try simp only [List.nil_append] at H19
                          have hS19n := Holds.kp (H19.f4.f4.f4.f4)
                          refine keepK hS19n (fun W hW => (Kp.h hW).right.f3.f3.f3) ?_
                          obtain ⟨al19, cl19, el19, -⟩ := RdI.open ((H19).row_rd)
                          subst el19
                          refine wd_takeT 8 rfl (by kernel_rfl) (by kernel_rfl) hS19n (fun _ => r_build (pl := #[(0, 1), (1, 1), (2, 1)]) (_) Try.underlying24 Try.zeroValue24 (fun w => by kernel_rfl) rfl (rfl)) (ltn rfl) ?_
                          refine wd_eff0 9 rfl (by kernel_rfl) (e_storePL 0 (l' := [_, _, _]) (us := [_, _, _]) H19.f2 Try.sizeOf24 rfl rfl rfl (ones_cons (by first | rfl | assumption) (ones_cons (by first | rfl | exact Rd.one ((H19).row_rd)) (ones_cons (by first | rfl | assumption) ones_nil))) rfl rfl) ?_
                          rintro _ w21 H21
                          have hS21n := Holds.kp (H21.f4.f4.f4.f4)
                          refine keepX hS21n (by kernel_rfl) ?_
                          refine wd_takeT 10 rfl (by kernel_rfl) (by kernel_rfl) hS21n (fun _ => r_assign rfl) (ltn rfl) ?_
                          refine wd_done (by kernel_rfl) ?_
                          refine wq_seq ?_
                          refine wc_ret ?_
                          refine wq_block_ret ?_
                          refine wq_then_ret ?_
                          refine wq_end (.inl rfl) (resCT Try.results12 rfl rfl Try.underlying24 rfl (by rw [show (Try.prog.info? 24).map (·.size) = some 3 from by kernel_rfl]; rfl) (H21).get.2) ?_
                          rw [jK_2 (by omega) (by omega) (by omega) (by omega)]
                          exact ⟨_, _, rfl, ((H21.right.f2.right.f2.right).row_nil none).swap⟩
                      · (try simp only [beq_iff_eq, bne_iff_ne, ne_eq, decide_eq_true_eq, decide_eq_false_iff_not, beq_eq_false_iff_ne, bne_eq_false_iff_eq, Bool.not_eq_true', Bool.not_eq_false', Bool.not_eq_eq_eq_not, Bool.not_true, Bool.not_false, gt_iff_lt, ge_iff_le, Int.not_lt, Int.not_le] at h11)
                        try (exfalso; first | contradiction | omega)
                        all_goals
                          
                          refine wc_skip ?_
                          refine wq_block_normal ?_
                          refine wq_seq ?_
                          refine wc_seq ?_
                          refine wc_region ?_
                          refine wl_val (r_build (pl := #[(0, 1), (1, 1), (2, 1)]) (_) Try.underlying24 Try.zeroValue24 (fun w => by kernel_rfl) rfl (rfl)) (ltn rfl) ?_
                          refine wl_eff0 (e_storePL 0 (l' := [_, _, _]) (us := [_, _, _]) H3 Try.sizeOf24 rfl rfl rfl (ones_cons (by first | rfl | assumption) (ones_cons (by first | rfl | assumption) (ones_cons (by first | rfl | assumption) ones_nil))) rfl rfl) ?_
                          rintro _ w22 H22
                          refine wl_val (r_assign rfl) (ltn rfl) ?_
                          refine wl_nil ?_
                          refine wq_seq ?_
                          refine wc_ret ?_
                          refine wq_end (.inl rfl) (resCT Try.results12 rfl rfl Try.underlying24 rfl (by rw [show (Try.prog.info? 24).map (·.size) = some 3 from by kernel_rfl]; rfl) (H22).get.2) ?_
                          rw [jK_0 (by omega) (by omega)]
                          exact ⟨_, _, rfl, ((H22.right.right.right).row_nil none).row_nil none⟩
                  · (try simp only [beq_iff_eq, bne_iff_ne, ne_eq, decide_eq_true_eq, decide_eq_false_iff_not, beq_eq_false_iff_ne, bne_eq_false_iff_eq, Bool.not_eq_true', Bool.not_eq_false', Bool.not_eq_eq_eq_not, Bool.not_true, Bool.not_false, gt_iff_lt, ge_iff_le, Int.not_lt, Int.not_le] at h10)
                    try (exfalso; first | contradiction | omega)
                    all_goals
                      refine wl_no rfl rfl rfl (ltn rfl) ?_
                      refine wl_no rfl rfl rfl (ltn rfl) ?_
                      refine wl_no rfl rfl rfl (ltn rfl) ?_
                      refine wl_no rfl rfl rfl (ltn rfl) ?_
                      refine wl_no rfl rfl rfl (ltn rfl) ?_
                      refine wl_no rfl rfl rfl (ltn rfl) ?_
                      refine wl_no rfl rfl rfl (ltn rfl) ?_
                      refine wl_no rfl rfl rfl (ltn rfl) ?_
                      refine wl_no rfl rfl rfl (ltn rfl) ?_
                      refine wl_val (r_pick_f rfl rfl) (ltn rfl) ?_
                      refine wl_val (r_assign rfl) (ltn rfl) ?_
                      refine wl_nil ?_
                      refine wq_seq ?_
                      refine wc_cond_f rfl ?_
                      refine wc_skip ?_
                      refine wq_block_normal ?_
                      refine wq_seq ?_
                      refine wc_seq ?_
                      refine wc_region ?_
                      refine wl_val (r_build (pl := #[(0, 1), (1, 1), (2, 1)]) (_) Try.underlying24 Try.zeroValue24 (fun w => by kernel_rfl) rfl (rfl)) (ltn rfl) ?_
                      refine wl_eff0 (e_storePL 0 (l' := [_, _, _]) (us := [_, _, _]) H3 Try.sizeOf24 rfl rfl rfl (ones_cons (by first | rfl | assumption) (ones_cons (by first | rfl | assumption) (ones_cons (by first | rfl | assumption) ones_nil))) rfl rfl) ?_
                      rintro _ w23 H23
                      refine wl_val (r_assign rfl) (ltn rfl) ?_
                      refine wl_nil ?_
                      refine wq_seq ?_
                      refine wc_ret ?_
                      refine wq_end (.inl rfl) (resCT Try.results12 rfl rfl Try.underlying24 rfl (by rw [show (Try.prog.info? 24).map (·.size) = some 3 from by kernel_rfl]; rfl) (H23).get.2) ?_
                      rw [jK_0 (by omega) (by omega)]
                      exact ⟨_, _, rfl, ((H23.right.right.right).row_nil none).row_nil none⟩
              · (try simp only [beq_iff_eq, bne_iff_ne, ne_eq, decide_eq_true_eq, decide_eq_false_iff_not, beq_eq_false_iff_ne, bne_eq_false_iff_eq, Bool.not_eq_true', Bool.not_eq_false', Bool.not_eq_eq_eq_not, Bool.not_true, Bool.not_false, gt_iff_lt, ge_iff_le, Int.not_lt, Int.not_le] at h9)
                try (exfalso; first | contradiction | omega)
                all_goals
                  refine wl_no rfl rfl rfl (ltn rfl) ?_
                  refine wl_no rfl rfl rfl (ltn rfl) ?_
                  refine wl_no rfl rfl rfl (ltn rfl) ?_
                  refine wl_no rfl rfl rfl (ltn rfl) ?_
                  refine wl_no rfl rfl rfl (ltn rfl) ?_
                  refine wl_val (r_pick_f rfl rfl) (ltn rfl) ?_
                  refine wl_val (r_move rfl) (ltn rfl) ?_
                  refine wl_no rfl rfl rfl (ltn rfl) ?_
                  refine wl_no rfl rfl rfl (ltn rfl) ?_
                  refine wl_no rfl rfl rfl (ltn rfl) ?_
                  refine wl_no rfl rfl rfl (ltn rfl) ?_
                  refine wl_no rfl rfl rfl (ltn rfl) ?_
                  refine wl_no rfl rfl rfl (ltn rfl) ?_
                  refine wl_no rfl rfl rfl (ltn rfl) ?_
                  refine wl_no rfl rfl rfl (ltn rfl) ?_
                  refine wl_no rfl rfl rfl (ltn rfl) ?_
                  refine wl_val (r_pick_f rfl rfl) (ltn rfl) ?_
                  refine wl_val (r_assign rfl) (ltn rfl) ?_
                  refine wl_nil ?_
                  refine wq_seq ?_
                  refine wc_cond_f rfl ?_
                  refine wc_skip ?_
                  refine wq_block_normal ?_
                  refine wq_seq ?_
                  refine wc_seq ?_
                  refine wc_region ?_
                  refine wl_val (r_build (pl := #[(0, 1), (1, 1), (2, 1)]) (_) Try.underlying24 Try.zeroValue24 (fun w => by kernel_rfl) rfl (rfl)) (ltn rfl) ?_
                  refine wl_eff0 (e_storePL 0 (l' := [_, _, _]) (us := [_, _, _]) H3 Try.sizeOf24 rfl rfl rfl (ones_cons (by first | rfl | assumption) (ones_cons (by first | rfl | assumption) (ones_cons (by first | rfl | assumption) ones_nil))) rfl rfl) ?_
                  rintro _ w24 H24
                  refine wl_val (r_assign rfl) (ltn rfl) ?_
                  refine wl_nil ?_
                  refine wq_seq ?_
                  refine wc_ret ?_
                  refine wq_end (.inl rfl) (resCT Try.results12 rfl rfl Try.underlying24 rfl (by rw [show (Try.prog.info? 24).map (·.size) = some 3 from by kernel_rfl]; rfl) (H24).get.2) ?_
                  rw [jK_0 (by omega) (by omega)]
                  exact ⟨_, _, rfl, ((H24.right.right.right).row_nil none).row_nil none⟩
          · (try simp only [beq_iff_eq, bne_iff_ne, ne_eq, decide_eq_true_eq, decide_eq_false_iff_not, beq_eq_false_iff_ne, bne_eq_false_iff_eq, Bool.not_eq_true', Bool.not_eq_false', Bool.not_eq_eq_eq_not, Bool.not_true, Bool.not_false, gt_iff_lt, ge_iff_le, Int.not_lt, Int.not_le] at h8)
            try (exfalso; first | contradiction | omega)
            all_goals
              refine wl_no rfl rfl rfl (ltn rfl) ?_
              refine wl_no rfl rfl rfl (ltn rfl) ?_
              refine wl_no rfl rfl rfl (ltn rfl) ?_
              refine wl_no rfl rfl rfl (ltn rfl) ?_
              refine wl_val (r_pick_f rfl rfl) (ltn rfl) ?_
              refine wl_val (r_move rfl) (ltn rfl) ?_
              refine wl_no rfl rfl rfl (ltn rfl) ?_
              refine wl_no rfl rfl rfl (ltn rfl) ?_
              refine wl_no rfl rfl rfl (ltn rfl) ?_
              refine wl_no rfl rfl rfl (ltn rfl) ?_
              refine wl_no rfl rfl rfl (ltn rfl) ?_
              refine wl_val (r_pick_f rfl rfl) (ltn rfl) ?_
              refine wl_val (r_move rfl) (ltn rfl) ?_
              refine wl_no rfl rfl rfl (ltn rfl) ?_
              refine wl_no rfl rfl rfl (ltn rfl) ?_
              refine wl_no rfl rfl rfl (ltn rfl) ?_
              refine wl_no rfl rfl rfl (ltn rfl) ?_
              refine wl_no rfl rfl rfl (ltn rfl) ?_
              refine wl_no rfl rfl rfl (ltn rfl) ?_
              refine wl_no rfl rfl rfl (ltn rfl) ?_
              refine wl_no rfl rfl rfl (ltn rfl) ?_
              refine wl_no rfl rfl rfl (ltn rfl) ?_
              refine wl_val (r_pick_f rfl rfl) (ltn rfl) ?_
              refine wl_val (r_assign rfl) (ltn rfl) ?_
              refine wl_nil ?_
              refine wq_seq ?_
              refine wc_cond_f rfl ?_
              refine wc_skip ?_
              refine wq_block_normal ?_
              refine wq_seq ?_
              refine wc_seq ?_
              refine wc_region ?_
              refine wl_val (r_build (pl := #[(0, 1), (1, 1), (2, 1)]) (_) Try.underlying24 Try.zeroValue24 (fun w => by kernel_rfl) rfl (rfl)) (ltn rfl) ?_
              refine wl_eff0 (e_storePL 0 (l' := [_, _, _]) (us := [_, _, _]) H3 Try.sizeOf24 rfl rfl rfl (ones_cons (by first | rfl | assumption) (ones_cons (by first | rfl | assumption) (ones_cons (by first | rfl | assumption) ones_nil))) rfl rfl) ?_
              rintro _ w25 H25
              refine wl_val (r_assign rfl) (ltn rfl) ?_
              refine wl_nil ?_
              refine wq_seq ?_
              refine wc_ret ?_
              refine wq_end (.inl rfl) (resCT Try.results12 rfl rfl Try.underlying24 rfl (by rw [show (Try.prog.info? 24).map (·.size) = some 3 from by kernel_rfl]; rfl) (H25).get.2) ?_
              rw [jK_0 (by omega) (by omega)]
              exact ⟨_, _, rfl, ((H25.right.right.right).row_nil none).row_nil none⟩
  · (try simp only [beq_iff_eq, bne_iff_ne, ne_eq, decide_eq_true_eq, decide_eq_false_iff_not, beq_eq_false_iff_ne, bne_eq_false_iff_eq, Bool.not_eq_true', Bool.not_eq_false', Bool.not_eq_eq_eq_not, Bool.not_true, Bool.not_false, gt_iff_lt, ge_iff_le, Int.not_lt, Int.not_le] at h1)
    try (exfalso; first | contradiction | omega)
    all_goals
      refine wl_no rfl rfl rfl (ltn rfl) ?_
      refine wl_no rfl rfl rfl (ltn rfl) ?_
      refine wl_no rfl rfl rfl (ltn rfl) ?_
      refine wl_no rfl rfl rfl (ltn rfl) ?_
      refine wl_no rfl rfl rfl (ltn rfl) ?_
      refine wl_val (r_pick_f rfl rfl) (ltn rfl) ?_
      refine wl_val (r_move rfl) (ltn rfl) ?_
      refine wl_no rfl rfl rfl (ltn rfl) ?_
      refine wl_no rfl rfl rfl (ltn rfl) ?_
      refine wl_no rfl rfl rfl (ltn rfl) ?_
      refine wl_no rfl rfl rfl (ltn rfl) ?_
      refine wl_no rfl rfl rfl (ltn rfl) ?_
      refine wl_no rfl rfl rfl (ltn rfl) ?_
      refine wl_no rfl rfl rfl (ltn rfl) ?_
      refine wl_no rfl rfl rfl (ltn rfl) ?_
      refine wl_no rfl rfl rfl (ltn rfl) ?_
      refine wl_val (r_pick_f rfl rfl) (ltn rfl) ?_
      refine wl_val (r_assign rfl) (ltn rfl) ?_
      refine wl_nil ?_
      refine wq_seq ?_
      refine wc_cond_f rfl ?_
      refine wc_seq ?_
      refine wc_region ?_
      refine wl_val ((by first | exact r_field0 2 Try.underlying24 rfl rfl Try.sizeOf22 (by decide) rfl | exact r_field 2 Try.underlying24 rfl rfl Try.sizeOf22 (by decide) rfl)) (ltn rfl) ?_
      refine wl_val (r_load (plain_of Try.underlying22 rfl) rfl (cell_of_blk (H3.f3).get.2 rfl)) (ltn rfl) ?_
      refine wl_val (r_lenR (hi _ (H3.right.right.right)) Try.underlying22 rfl) (ltn rfl) ?_
      refine wl_val (r_eql rfl rfl) (ltn rfl) ?_
      refine wl_split rfl (ltn rfl) (fun h12 => ?_) (fun h12 => ?_)
      · (try simp only [beq_iff_eq, bne_iff_ne, ne_eq, decide_eq_true_eq, decide_eq_false_iff_not, beq_eq_false_iff_ne, bne_eq_false_iff_eq, Bool.not_eq_true', Bool.not_eq_false', Bool.not_eq_eq_eq_not, Bool.not_true, Bool.not_false, gt_iff_lt, ge_iff_le, Int.not_lt, Int.not_le] at h12)
        try (exfalso; first | contradiction | omega)
        all_goals
          refine wl_yes rfl rfl ?_
          refine wl_val ((by first | exact r_field0 2 Try.underlying24 rfl rfl Try.sizeOf22 (by decide) rfl | exact r_field 2 Try.underlying24 rfl rfl Try.sizeOf22 (by decide) rfl)) (ltn rfl) ?_
          refine wl_yes rfl rfl ?_
          refine wl_val (r_load (plain_of Try.underlying22 rfl) rfl (cell_of_blk (H3.f2).get.2 rfl)) (ltn rfl) ?_
          refine wl_yes rfl rfl ?_
          refine wl_val (r_lenR (hi2 _ (H3.right.right.right)) Try.underlying22 rfl) (ltn rfl) ?_
          refine wl_yes rfl rfl ?_
          refine wl_val (r_eql rfl rfl) (ltn rfl) ?_
          refine wl_val (r_pick_t rfl rfl) (ltn rfl) ?_
          refine wl_split rfl (ltn rfl) (fun h13 => ?_) (fun h13 => ?_)
          · (try simp only [beq_iff_eq, bne_iff_ne, ne_eq, decide_eq_true_eq, decide_eq_false_iff_not, beq_eq_false_iff_ne, bne_eq_false_iff_eq, Bool.not_eq_true', Bool.not_eq_false', Bool.not_eq_eq_eq_not, Bool.not_true, Bool.not_false, gt_iff_lt, ge_iff_le, Int.not_lt, Int.not_le] at h13)
            try (exfalso; first | contradiction | omega)
            all_goals
              refine wl_yes rfl rfl ?_
              refine wl_val ((by first | exact r_field0 0 Try.underlying24 rfl rfl Try.sizeOf3 (by decide) rfl | exact r_field 0 Try.underlying24 rfl rfl Try.sizeOf3 (by decide) rfl)) (ltn rfl) ?_
              refine wl_yes rfl rfl ?_
              refine wl_val (r_load (plain_of Try.underlying3 rfl) rfl (cell_of_blk (H3.f2).get.2 rfl)) (ltn rfl) ?_
              refine wl_yes rfl rfl ?_
              refine wl_val ((by first | exact r_field0 0 Try.underlying24 rfl rfl Try.sizeOf3 (by decide) rfl | exact r_field 0 Try.underlying24 rfl rfl Try.sizeOf3 (by decide) rfl)) (ltn rfl) ?_
              refine wl_yes rfl rfl ?_
              refine wl_val (r_load (plain_of Try.underlying3 rfl) rfl (cell_of_blk (H3.f3).get.2 rfl)) (ltn rfl) ?_
              refine wl_yes rfl rfl ?_
              refine wl_val (r_leq rfl rfl) (ltn rfl) ?_
              refine wl_val (r_pick_t rfl rfl) (ltn rfl) ?_
              refine wl_split rfl (ltn rfl) (fun h14 => ?_) (fun h14 => ?_)
              · (try simp only [beq_iff_eq, bne_iff_ne, ne_eq, decide_eq_true_eq, decide_eq_false_iff_not, beq_eq_false_iff_ne, bne_eq_false_iff_eq, Bool.not_eq_true', Bool.not_eq_false', Bool.not_eq_eq_eq_not, Bool.not_true, Bool.not_false, gt_iff_lt, ge_iff_le, Int.not_lt, Int.not_le] at h14)
                try (exfalso; first | contradiction | omega)
                all_goals
                  refine wl_yes rfl rfl ?_
                  refine wl_val ((by first | exact r_field0 0 Try.underlying24 rfl rfl Try.sizeOf3 (by decide) rfl | exact r_field 0 Try.underlying24 rfl rfl Try.sizeOf3 (by decide) rfl)) (ltn rfl) ?_
                  refine wl_yes rfl rfl ?_
                  refine wl_val (r_load (plain_of Try.underlying3 rfl) rfl (cell_of_blk (H3.f3).get.2 rfl)) (ltn rfl) ?_
                  refine wl_yes rfl rfl ?_
                  refine wl_val ((by first | exact r_field0 0 Try.underlying24 rfl rfl Try.sizeOf3 (by decide) rfl | exact r_field 0 Try.underlying24 rfl rfl Try.sizeOf3 (by decide) rfl)) (ltn rfl) ?_
                  refine wl_yes rfl rfl ?_
                  refine wl_val (r_load (plain_of Try.underlying3 rfl) rfl (cell_of_blk (H3.f2).get.2 rfl)) (ltn rfl) ?_
                  refine wl_yes rfl rfl ?_
                  refine wl_val (r_subK rfl rfl) (ltn rfl) ?_
                  refine wl_yes rfl rfl ?_
                  refine wl_val ((by first | exact r_field0 1 Try.underlying24 rfl rfl Try.sizeOf22 (by decide) rfl | exact r_field 1 Try.underlying24 rfl rfl Try.sizeOf22 (by decide) rfl)) (ltn rfl) ?_
                  refine wl_yes rfl rfl ?_
                  refine wl_val (r_load (plain_of Try.underlying22 rfl) rfl (cell_of_blk (H3.f2).get.2 rfl)) (ltn rfl) ?_
                  refine wl_yes rfl rfl ?_
                  refine wl_val (r_lenR (hd2 _ (H3.right.right.right)) Try.underlying22 rfl) (ltn rfl) ?_
                  refine wl_yes rfl rfl ?_
                  refine wl_val (r_eql rfl rfl) (ltn rfl) ?_
                  refine wl_val (r_pick_t rfl rfl) (ltn rfl) ?_
                  refine wl_val (r_assign rfl) (ltn rfl) ?_
                  refine wl_nil ?_
                  refine wq_seq ?_
                  refine wc_cond rfl (fun h15 => ?_) (fun h15 => ?_)
                  · (try simp only [beq_iff_eq, bne_iff_ne, ne_eq, decide_eq_true_eq, decide_eq_false_iff_not, beq_eq_false_iff_ne, bne_eq_false_iff_eq, Bool.not_eq_true', Bool.not_eq_false', Bool.not_eq_eq_eq_not, Bool.not_true, Bool.not_false, gt_iff_lt, ge_iff_le, Int.not_lt, Int.not_le] at h15)
                    try (exfalso; first | contradiction | omega)
                    all_goals
                      
                      refine wc_seq ?_
                      have H4d25 := H3.drew
                      have hS4d25 := Holds.kp (H4d25.f3.f3.f3)
                      refine wd_beginK [1, 3, 6] hS4d25 (by kernel_rfl) (by kernel_rfl) rfl ?_
                      refine wd_takeT 0 rfl (by kernel_rfl) (by kernel_rfl) hS4d25 (fun _ => (by first | exact r_field0 0 Try.underlying24 rfl rfl Try.sizeOf3 (by decide) rfl | exact r_field 0 Try.underlying24 rfl rfl Try.sizeOf3 (by decide) rfl)) (ltn rfl) ?_
                      refine wd_take 1 rfl (by kernel_rfl) (by kernel_rfl) hS4d25 (by decide) (fun W hW => r_load (plain_of Try.underlying3 rfl) rfl (cell_of_blk ((Kp.h hW).f2).get.2 rfl)) (ltn rfl) ?_
                      refine wd_takeT 2 rfl (by kernel_rfl) (by kernel_rfl) hS4d25 (fun _ => (by first | exact r_field0 1 Try.underlying24 rfl rfl Try.sizeOf22 (by decide) rfl | exact r_field 1 Try.underlying24 rfl rfl Try.sizeOf22 (by decide) rfl)) (ltn rfl) ?_
                      refine wd_take 3 rfl (by kernel_rfl) (by kernel_rfl) hS4d25 (by decide) (fun W hW => r_load (plain_of Try.underlying22 rfl) rfl (cell_of_blk ((Kp.h hW).f2).get.2 rfl)) (ltn rfl) ?_
                      refine wd_takeT 5 rfl (by kernel_rfl) (by kernel_rfl) hS4d25 (fun _ => (by first | exact r_field0 1 Try.underlying24 rfl rfl Try.sizeOf22 (by decide) rfl | exact r_field 1 Try.underlying24 rfl rfl Try.sizeOf22 (by decide) rfl)) (ltn rfl) ?_
                      refine wd_take 6 rfl (by kernel_rfl) (by kernel_rfl) hS4d25 (by decide) (fun W hW => r_load (plain_of Try.underlying22 rfl) rfl (cell_of_blk ((Kp.h hW).f3).get.2 rfl)) (ltn rfl) ?_
                      refine wd_eff 4 rfl (by kernel_rfl) (e_call (r_call rfl Try.func47 rfl rfl) (rclone_ret H4d25 (fun W HW => hd2 _ (HW.right.right.right)) (by first|omega|(simp only [List.length_take]; omega)))) (ltn rfl) ?_
                      rintro u26 w26 H26
                      have hS26n := Holds.kp (H26.right.f3.f3.f3)
                      refine keepK hS26n (fun W hW => (Kp.h hW).f3.f3.f3) ?_
                      refine wd_eff 7 rfl (by kernel_rfl) (e_append_ints H26 (hd _ (H26.right.right.right.right)) Try.underlying22 (show (Try.prog.info? 21).map (fun i => (i.zero, i.size, i.bytes)) = some (some (.int .i32 0), 1, 4) by kernel_rfl) rfl rfl (by first | omega | (simp only [List.length_append, List.length_nil, List.length_cons]; omega) | (simp; omega)) (by first | omega | (simp only [List.length_append, List.length_nil, List.length_cons]; omega) | (simp; omega))) (ltn rfl) ?_
                      rintro l27 w27 H27
                      try simp only [List.nil_append] at H27
                      have hS27n := Holds.kp (H27.f4.f4.f4.f4)
                      refine keepK hS27n (fun W hW => (Kp.h hW).right.f3.f3.f3) ?_
                      obtain ⟨al27, cl27, el27, -⟩ := RdI.open ((H27).row_rd)
                      subst el27
                      refine wd_takeT 8 rfl (by kernel_rfl) (by kernel_rfl) hS27n (fun _ => r_build (pl := #[(0, 1), (1, 1), (2, 1)]) (_) Try.underlying24 Try.zeroValue24 (fun w => by kernel_rfl) rfl (rfl)) (ltn rfl) ?_
                      refine wd_eff0 9 rfl (by kernel_rfl) (e_storePL 0 (l' := [_, _, _]) (us := [_, _, _]) H27.f2 Try.sizeOf24 rfl rfl rfl (ones_cons (by first | rfl | assumption) (ones_cons (by first | rfl | exact Rd.one ((H27).row_rd)) (ones_cons (by first | rfl | assumption) ones_nil))) rfl rfl) ?_
                      rintro _ w29 H29
                      have hS29n := Holds.kp (H29.f4.f4.f4.f4)
                      refine keepX hS29n (by kernel_rfl) ?_
                      refine wd_takeT 10 rfl (by kernel_rfl) (by kernel_rfl) hS29n (fun _ => r_assign rfl) (ltn rfl) ?_
                      refine wd_done (by kernel_rfl) ?_
                      refine wq_seq ?_
                      refine wc_ret ?_
                      refine wq_block_ret ?_
                      refine wq_then_ret ?_
                      refine wq_end (.inl rfl) (resCT Try.results12 rfl rfl Try.underlying24 rfl (by rw [show (Try.prog.info? 24).map (·.size) = some 3 from by kernel_rfl]; rfl) (H29).get.2) ?_
                      rw [jK_2 (by omega) (by omega) (by omega) (by omega)]
                      exact ⟨_, _, rfl, ((H29.right.f2.right.f2.right).row_nil none).swap⟩
                  · (try simp only [beq_iff_eq, bne_iff_ne, ne_eq, decide_eq_true_eq, decide_eq_false_iff_not, beq_eq_false_iff_ne, bne_eq_false_iff_eq, Bool.not_eq_true', Bool.not_eq_false', Bool.not_eq_eq_eq_not, Bool.not_true, Bool.not_false, gt_iff_lt, ge_iff_le, Int.not_lt, Int.not_le] at h15)
                    try (exfalso; first | contradiction | omega)
                    all_goals
                      
                      refine wc_skip ?_
                      refine wq_block_normal ?_
                      refine wq_seq ?_
                      refine wc_seq ?_
                      refine wc_region ?_
                      refine wl_val (r_build (pl := #[(0, 1), (1, 1), (2, 1)]) (_) Try.underlying24 Try.zeroValue24 (fun w => by kernel_rfl) rfl (rfl)) (ltn rfl) ?_
                      refine wl_eff0 (e_storePL 0 (l' := [_, _, _]) (us := [_, _, _]) H3 Try.sizeOf24 rfl rfl rfl (ones_cons (by first | rfl | assumption) (ones_cons (by first | rfl | assumption) (ones_cons (by first | rfl | assumption) ones_nil))) rfl rfl) ?_
                      rintro _ w30 H30
                      refine wl_val (r_assign rfl) (ltn rfl) ?_
                      refine wl_nil ?_
                      refine wq_seq ?_
                      refine wc_ret ?_
                      refine wq_end (.inl rfl) (resCT Try.results12 rfl rfl Try.underlying24 rfl (by rw [show (Try.prog.info? 24).map (·.size) = some 3 from by kernel_rfl]; rfl) (H30).get.2) ?_
                      rw [jK_0 (by omega) (by omega)]
                      exact ⟨_, _, rfl, ((H30.right.right.right).row_nil none).row_nil none⟩
              · (try simp only [beq_iff_eq, bne_iff_ne, ne_eq, decide_eq_true_eq, decide_eq_false_iff_not, beq_eq_false_iff_ne, bne_eq_false_iff_eq, Bool.not_eq_true', Bool.not_eq_false', Bool.not_eq_eq_eq_not, Bool.not_true, Bool.not_false, gt_iff_lt, ge_iff_le, Int.not_lt, Int.not_le] at h14)
                try (exfalso; first | contradiction | omega)
                all_goals
                  refine wl_no rfl rfl rfl (ltn rfl) ?_
                  refine wl_no rfl rfl rfl (ltn rfl) ?_
                  refine wl_no rfl rfl rfl (ltn rfl) ?_
                  refine wl_no rfl rfl rfl (ltn rfl) ?_
                  refine wl_no rfl rfl rfl (ltn rfl) ?_
                  refine wl_no rfl rfl rfl (ltn rfl) ?_
                  refine wl_no rfl rfl rfl (ltn rfl) ?_
                  refine wl_no rfl rfl rfl (ltn rfl) ?_
                  refine wl_no rfl rfl rfl (ltn rfl) ?_
                  refine wl_val (r_pick_f rfl rfl) (ltn rfl) ?_
                  refine wl_val (r_assign rfl) (ltn rfl) ?_
                  refine wl_nil ?_
                  refine wq_seq ?_
                  refine wc_cond_f rfl ?_
                  refine wc_skip ?_
                  refine wq_block_normal ?_
                  refine wq_seq ?_
                  refine wc_seq ?_
                  refine wc_region ?_
                  refine wl_val (r_build (pl := #[(0, 1), (1, 1), (2, 1)]) (_) Try.underlying24 Try.zeroValue24 (fun w => by kernel_rfl) rfl (rfl)) (ltn rfl) ?_
                  refine wl_eff0 (e_storePL 0 (l' := [_, _, _]) (us := [_, _, _]) H3 Try.sizeOf24 rfl rfl rfl (ones_cons (by first | rfl | assumption) (ones_cons (by first | rfl | assumption) (ones_cons (by first | rfl | assumption) ones_nil))) rfl rfl) ?_
                  rintro _ w31 H31
                  refine wl_val (r_assign rfl) (ltn rfl) ?_
                  refine wl_nil ?_
                  refine wq_seq ?_
                  refine wc_ret ?_
                  refine wq_end (.inl rfl) (resCT Try.results12 rfl rfl Try.underlying24 rfl (by rw [show (Try.prog.info? 24).map (·.size) = some 3 from by kernel_rfl]; rfl) (H31).get.2) ?_
                  rw [jK_0 (by omega) (by omega)]
                  exact ⟨_, _, rfl, ((H31.right.right.right).row_nil none).row_nil none⟩
          · (try simp only [beq_iff_eq, bne_iff_ne, ne_eq, decide_eq_true_eq, decide_eq_false_iff_not, beq_eq_false_iff_ne, bne_eq_false_iff_eq, Bool.not_eq_true', Bool.not_eq_false', Bool.not_eq_eq_eq_not, Bool.not_true, Bool.not_false, gt_iff_lt, ge_iff_le, Int.not_lt, Int.not_le] at h13)
            try (exfalso; first | contradiction | omega)
            all_goals
              refine wl_no rfl rfl rfl (ltn rfl) ?_
              refine wl_no rfl rfl rfl (ltn rfl) ?_
              refine wl_no rfl rfl rfl (ltn rfl) ?_
              refine wl_no rfl rfl rfl (ltn rfl) ?_
              refine wl_no rfl rfl rfl (ltn rfl) ?_
              refine wl_val (r_pick_f rfl rfl) (ltn rfl) ?_
              refine wl_val (r_move rfl) (ltn rfl) ?_
              refine wl_no rfl rfl rfl (ltn rfl) ?_
              refine wl_no rfl rfl rfl (ltn rfl) ?_
              refine wl_no rfl rfl rfl (ltn rfl) ?_
              refine wl_no rfl rfl rfl (ltn rfl) ?_
              refine wl_no rfl rfl rfl (ltn rfl) ?_
              refine wl_no rfl rfl rfl (ltn rfl) ?_
              refine wl_no rfl rfl rfl (ltn rfl) ?_
              refine wl_no rfl rfl rfl (ltn rfl) ?_
              refine wl_no rfl rfl rfl (ltn rfl) ?_
              refine wl_val (r_pick_f rfl rfl) (ltn rfl) ?_
              refine wl_val (r_assign rfl) (ltn rfl) ?_
              refine wl_nil ?_
              refine wq_seq ?_
              refine wc_cond_f rfl ?_
              refine wc_skip ?_
              refine wq_block_normal ?_
              refine wq_seq ?_
              refine wc_seq ?_
              refine wc_region ?_
              refine wl_val (r_build (pl := #[(0, 1), (1, 1), (2, 1)]) (_) Try.underlying24 Try.zeroValue24 (fun w => by kernel_rfl) rfl (rfl)) (ltn rfl) ?_
              refine wl_eff0 (e_storePL 0 (l' := [_, _, _]) (us := [_, _, _]) H3 Try.sizeOf24 rfl rfl rfl (ones_cons (by first | rfl | assumption) (ones_cons (by first | rfl | assumption) (ones_cons (by first | rfl | assumption) ones_nil))) rfl rfl) ?_
              rintro _ w32 H32
              refine wl_val (r_assign rfl) (ltn rfl) ?_
              refine wl_nil ?_
              refine wq_seq ?_
              refine wc_ret ?_
              refine wq_end (.inl rfl) (resCT Try.results12 rfl rfl Try.underlying24 rfl (by rw [show (Try.prog.info? 24).map (·.size) = some 3 from by kernel_rfl]; rfl) (H32).get.2) ?_
              rw [jK_0 (by omega) (by omega)]
              exact ⟨_, _, rfl, ((H32.right.right.right).row_nil none).row_nil none⟩
      · (try simp only [beq_iff_eq, bne_iff_ne, ne_eq, decide_eq_true_eq, decide_eq_false_iff_not, beq_eq_false_iff_ne, bne_eq_false_iff_eq, Bool.not_eq_true', Bool.not_eq_false', Bool.not_eq_eq_eq_not, Bool.not_true, Bool.not_false, gt_iff_lt, ge_iff_le, Int.not_lt, Int.not_le] at h12)
        try (exfalso; first | contradiction | omega)
        all_goals
          refine wl_no rfl rfl rfl (ltn rfl) ?_
          refine wl_no rfl rfl rfl (ltn rfl) ?_
          refine wl_no rfl rfl rfl (ltn rfl) ?_
          refine wl_no rfl rfl rfl (ltn rfl) ?_
          refine wl_val (r_pick_f rfl rfl) (ltn rfl) ?_
          refine wl_val (r_move rfl) (ltn rfl) ?_
          refine wl_no rfl rfl rfl (ltn rfl) ?_
          refine wl_no rfl rfl rfl (ltn rfl) ?_
          refine wl_no rfl rfl rfl (ltn rfl) ?_
          refine wl_no rfl rfl rfl (ltn rfl) ?_
          refine wl_no rfl rfl rfl (ltn rfl) ?_
          refine wl_val (r_pick_f rfl rfl) (ltn rfl) ?_
          refine wl_val (r_move rfl) (ltn rfl) ?_
          refine wl_no rfl rfl rfl (ltn rfl) ?_
          refine wl_no rfl rfl rfl (ltn rfl) ?_
          refine wl_no rfl rfl rfl (ltn rfl) ?_
          refine wl_no rfl rfl rfl (ltn rfl) ?_
          refine wl_no rfl rfl rfl (ltn rfl) ?_
          refine wl_no rfl rfl rfl (ltn rfl) ?_
          refine wl_no rfl rfl rfl (ltn rfl) ?_
          refine wl_no rfl rfl rfl (ltn rfl) ?_
          refine wl_no rfl rfl rfl (ltn rfl) ?_
          refine wl_val (r_pick_f rfl rfl) (ltn rfl) ?_
          refine wl_val (r_assign rfl) (ltn rfl) ?_
          refine wl_nil ?_
          refine wq_seq ?_
          refine wc_cond_f rfl ?_
          refine wc_skip ?_
          refine wq_block_normal ?_
          refine wq_seq ?_
          refine wc_seq ?_
          refine wc_region ?_
          refine wl_val (r_build (pl := #[(0, 1), (1, 1), (2, 1)]) (_) Try.underlying24 Try.zeroValue24 (fun w => by kernel_rfl) rfl (rfl)) (ltn rfl) ?_
          refine wl_eff0 (e_storePL 0 (l' := [_, _, _]) (us := [_, _, _]) H3 Try.sizeOf24 rfl rfl rfl (ones_cons (by first | rfl | assumption) (ones_cons (by first | rfl | assumption) (ones_cons (by first | rfl | assumption) ones_nil))) rfl rfl) ?_
          rintro _ w33 H33
          refine wl_val (r_assign rfl) (ltn rfl) ?_
          refine wl_nil ?_
          refine wq_seq ?_
          refine wc_ret ?_
          refine wq_end (.inl rfl) (resCT Try.results12 rfl rfl Try.underlying24 rfl (by rw [show (Try.prog.info? 24).map (·.size) = some 3 from by kernel_rfl]; rfl) (H33).get.2) ?_
          rw [jK_0 (by omega) (by omega)]
          exact ⟨_, _, rfl, ((H33.right.right.right).row_nil none).row_nil none⟩
end
end Go.Proofs.Ytaabgcfeghcmnaa
