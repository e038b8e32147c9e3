/- UndoApplies, walked. -/
import Derived.Test.YtaabgcfeghcmnaaBegun
set_option linter.unusedSimpArgs false
set_option linter.unusedVariables false
namespace Go.Proofs.Ytaabgcfeghcmnaa
open Go.RowKit
theorem undo_applies {w : World} {v d z d2 z2 : Value} {L dl il dl2 il2 : List Int} {a a2 : Int} (g : RdI w .i32 v L) (gd : RdI w .i32 d dl) (gi : RdI w .i32 z il) (gd2 : RdI w .i32 d2 dl2) (gi2 : RdI w .i32 z2 il2)
    (b1 : L.length ≤ 1073741824) (b2 : dl.length ≤ 1073741824) (b3 : il.length ≤ 1073741824) (b4 : dl2.length ≤ 1073741824) (b5 : il2.length ≤ 1073741824) (ba : -9223372036854775808 ≤ a ∧ a ≤ 9223372036854775807) (ba2 : -9223372036854775808 ≤ a2 ∧ a2 ≤ 9223372036854775807) :
    Ret Try.prog 3 #[v, edV a d z, edV a2 d2 z2] w fun v w' => v = .bool true ∧ Below w.heap.size w w' := by
  obtain ⟨F, H⟩ : ∃ F, Holds w w F := ⟨_, Holds.start w⟩
  have hl : FRdI w F .i32 v L := FRdI.of_start g F
  have hd : FRdI w F .i32 d dl := FRdI.of_start gd F
  have hi : FRdI w F .i32 z il := FRdI.of_start gi F
  have hd2 : FRdI w F .i32 d2 dl2 := FRdI.of_start gd2 F
  have hi2 : FRdI w F .i32 z2 il2 := FRdI.of_start gi2 F
  refine ret_enter Try.func3 rfl Try.ntmps3 (Nat.le_of_ble_eq_true rfl) ?_
  dsimp only [slots0, Nat.reduceAdd]
  refine wc_seq ?_
  refine wc_region ?_
  refine wl_eff (e_boxL (l := [_, _, _]) H rfl rfl) (ltn rfl) ?_
  rintro _ w1 ⟨b1, rfl, H1⟩
  refine wl_eff (e_boxL (l := [_, _, _]) H1 rfl rfl) (ltn rfl) ?_
  rintro _ w2 ⟨b2, rfl, H2⟩
  refine wl_val (r_assign rfl) (ltn rfl) ?_
  refine wl_nil ?_
  refine wq_seq ?_
  refine wc_seq ?_
  refine wc_region ?_
  refine wl_val (r_move rfl) (ltn rfl) ?_
  refine wl_val (r_load_whole Try.underlying24 rfl Try.sizeOf24 rfl rfl (H2.f2).get.2) (ltn rfl) ?_
  refine wl_eff (e_call (r_call rfl Try.func9 rfl rfl) (undo_apply_ret H2 (fun W HW => hl _ (HW.right.right)) (fun W HW => hd _ (HW.right.right)) (fun W HW => hi _ (HW.right.right)) (by omega) (by omega) (by omega))) (ltn rfl) ?_
  rintro _ w3 ⟨u3, rfl, H3⟩
  refine wl_val (r_move rfl) (ltn rfl) ?_
  refine wl_val (r_extract rfl rfl) (ltn rfl) ?_
  refine wl_val (r_extract rfl rfl) (ltn rfl) ?_
  refine wl_val (r_assign rfl) (ltn rfl) ?_
  refine wl_val (r_assign rfl) (ltn rfl) ?_
  refine wl_nil ?_
  refine wq_seq ?_
  refine wc_seq ?_
  refine wc_region ?_
  refine wl_val (r_move rfl) (ltn rfl) ?_
  refine wl_val (r_load_whole Try.underlying24 rfl Try.sizeOf24 rfl rfl (H3.f3).get.2) (ltn rfl) ?_
  refine wl_eff (e_call (r_call rfl Try.func10 rfl rfl) (ref_apply_ret H3 (fun W HW => hl _ (HW.right.right.right)) (fun W HW => hd _ (HW.right.right.right)) (fun W HW => hi _ (HW.right.right.right)) (by omega) (by omega) (by omega))) (ltn rfl) ?_
  rintro _ w4 ⟨u4, rfl, H4⟩
  refine wl_val (r_move rfl) (ltn rfl) ?_
  refine wl_val (r_extract rfl rfl) (ltn rfl) ?_
  refine wl_val (r_extract rfl rfl) (ltn rfl) ?_
  refine wl_val (r_assign rfl) (ltn rfl) ?_
  refine wl_val (r_assign rfl) (ltn rfl) ?_
  refine wl_nil ?_
  refine wq_seq ?_
  refine wc_seq ?_
  refine wc_region ?_
  refine wl_val (r_load_whole Try.underlying24 rfl Try.sizeOf24 rfl rfl (H4.f4).get.2) (ltn rfl) ?_
  refine wl_val (r_load_whole Try.underlying24 rfl Try.sizeOf24 rfl rfl (H4.f3).get.2) (ltn rfl) ?_
  refine wl_eff (e_call (r_call rfl Try.func11 rfl rfl) (undo_join_ret H4 (fun W HW => hd _ (HW.right.right.right.right)) (fun W HW => hi _ (HW.right.right.right.right)) (fun W HW => hd2 _ (HW.right.right.right.right)) (fun W HW => hi2 _ (HW.right.right.right.right)) ba ba2 (by omega) (by omega))) (ltn rfl) ?_
  rintro _ w5 ⟨d5, s5, rfl, H5⟩
  refine wl_val (r_move rfl) (ltn rfl) ?_
  refine wl_val (r_extract rfl rfl) (ltn rfl) ?_
  refine wl_val (r_extract rfl rfl) (ltn rfl) ?_
  refine wl_eff (e_allocL (l := [_, _, _]) H5 Try.zeroValue24 rfl) (ltn rfl) ?_
  rintro _ w6 ⟨b6, rfl, H6⟩
  refine wl_eff0 (e_storePL 0 (l' := [_, _, _]) (us := [_, _, _]) H6 Try.sizeOf24 rfl rfl rfl (ones_cons (by first | rfl | assumption) (ones_cons (by first | rfl | exact Rd.one ((H6.f2).row_rd)) (ones_cons (by first | rfl | exact Rd.one ((H6.f3).row_rd)) ones_nil))) rfl rfl) ?_
  rintro _ w7 H7
  refine wl_val (r_assign rfl) (ltn rfl) ?_
  refine wl_nil ?_
  refine wq_seq ?_
  refine wc_seq ?_
  refine wc_region ?_
  refine wl_val (r_load_whole Try.underlying24 rfl Try.sizeOf24 rfl rfl (H7.f7).get.2) (ltn rfl) ?_
  refine wl_val (r_load_whole Try.underlying24 rfl Try.sizeOf24 rfl rfl (H7.f6).get.2) (ltn rfl) ?_
  refine wl_eff (e_call (r_call rfl Try.func12 rfl rfl) (ref_join_ret H7 (fun W HW => hd _ (HW.right.right.right.right.right.right.right)) (fun W HW => hi _ (HW.right.right.right.right.right.right.right)) (fun W HW => hd2 _ (HW.right.right.right.right.right.right.right)) (fun W HW => hi2 _ (HW.right.right.right.right.right.right.right)) ba ba2 (by omega) (by omega))) (ltn rfl) ?_
  rintro _ w8 ⟨d8, s8, rfl, H8⟩
  refine wl_val (r_move rfl) (ltn rfl) ?_
  refine wl_val (r_extract rfl rfl) (ltn rfl) ?_
  refine wl_val (r_extract rfl rfl) (ltn rfl) ?_
  refine wl_eff (e_allocL (l := [_, _, _]) H8 Try.zeroValue24 rfl) (ltn rfl) ?_
  rintro _ w9 ⟨b9, rfl, H9⟩
  refine wl_eff0 (e_storePL 0 (l' := [_, _, _]) (us := [_, _, _]) H9 Try.sizeOf24 rfl rfl rfl (ones_cons (by first | rfl | assumption) (ones_cons (by first | rfl | exact Rd.one ((H9.f2).row_rd)) (ones_cons (by first | rfl | exact Rd.one ((H9.f3).row_rd)) ones_nil))) rfl rfl) ?_
  rintro _ w10 H10
  refine wl_val (r_assign rfl) (ltn rfl) ?_
  refine wl_nil ?_
  refine wq_seq ?_
  refine wc_seq ?_
  have H5d10 := H10.drew
  have hS5d10 := Holds.kp (H5d10.f10.f10.f10.f10.f10.f10.f10.f10.f10.f10)
  refine wd_beginK [12, 14, 24, 25] hS5d10 (by kernel_rfl) (by kernel_rfl) rfl ?_
  refine wd_eff 0 rfl (by kernel_rfl) (e_call (r_call rfl Try.func13 rfl rfl) (begun_ret H5d10)) (ltn rfl) ?_
  rintro _ w11 ⟨rfl, H11⟩
  have hS11n := Holds.kp (H11.f10.f10.f10.f10.f10.f10.f10.f10.f10.f10)
  refine keepX hS11n (by kernel_rfl) ?_
  refine wd_takeT 1 rfl (by kernel_rfl) (by kernel_rfl) hS11n (fun _ => r_move rfl) (ltn rfl) ?_
  refine wd_takeT_yes 2 rfl rfl rfl (by kernel_rfl) (by kernel_rfl) hS11n (fun _ => r_move rfl) (ltn rfl) ?_
  refine wd_takeT_yes 3 rfl rfl rfl (by kernel_rfl) (by kernel_rfl) hS11n (fun _ => r_move rfl) (ltn rfl) ?_
  refine wd_eff_yes 4 rfl rfl rfl (by kernel_rfl) (e_call (r_call rfl Try.func14 rfl rfl) (same_runes_eq _ _ _ _ ((H11.f8).row_rd) ((H11.f7).row_rd))) (ltn rfl) ?_
  rintro _ w12 ⟨rfl, hD12⟩
  have HD12 := H11.drewn hD12
  have hS12n := Holds.kp (HD12.f10.f10.f10.f10.f10.f10.f10.f10.f10.f10)
  refine keepX hS12n (by kernel_rfl) ?_
  refine wd_takeT 5 rfl (by kernel_rfl) (by kernel_rfl) hS12n (fun _ => r_pick_t rfl rfl) (ltn rfl) ?_
  refine wd_takeT 6 rfl (by kernel_rfl) (by kernel_rfl) hS12n (fun _ => r_move rfl) (ltn rfl) ?_
  refine wd_takeT_yes 7 rfl rfl rfl (by kernel_rfl) (by kernel_rfl) hS12n (fun _ => r_move rfl) (ltn rfl) ?_
  refine wd_takeT_yes 8 rfl rfl rfl (by kernel_rfl) (by kernel_rfl) hS12n (fun _ => r_move rfl) (ltn rfl) ?_
  refine wd_takeT_yes 9 rfl rfl rfl (by kernel_rfl) (by kernel_rfl) hS12n (fun _ => r_eql rfl rfl) (ltn rfl) ?_
  refine wd_takeT 10 rfl (by kernel_rfl) (by kernel_rfl) hS12n (fun _ => r_pick_t rfl rfl) (ltn rfl) ?_
  refine wd_split 11 rfl rfl (by kernel_rfl) (by kernel_rfl) hS12n (ltn rfl) (fun h1 => ?_) (fun h => by exfalso; (try simp only [beq_iff_eq, bne_iff_ne, ne_eq, decide_eq_true_eq, decide_eq_false_iff_not, beq_eq_false_iff_ne, bne_eq_false_iff_eq, Bool.not_eq_true', Bool.not_eq_false', Bool.not_eq_eq_eq_not, Bool.not_true, Bool.not_false, gt_iff_lt, ge_iff_le, Int.not_lt, Int.not_le] at h); simp at h)
  (try simp only [beq_iff_eq, bne_iff_ne, ne_eq, decide_eq_true_eq, decide_eq_false_iff_not, beq_eq_false_iff_ne, bne_eq_false_iff_eq, Bool.not_eq_true', Bool.not_eq_false', Bool.not_eq_eq_eq_not, Bool.not_true, Bool.not_false, gt_iff_lt, ge_iff_le, Int.not_lt, Int.not_le] at h1)
  refine wd_take_yes 12 rfl rfl rfl (by kernel_rfl) (by kernel_rfl) hS12n (by decide) (fun W hW => r_load_whole Try.underlying24 rfl Try.sizeOf24 rfl rfl ((Kp.h hW).f10).get.2) (ltn rfl) ?_
  refine wd_take_yes 14 rfl rfl rfl (by kernel_rfl) (by kernel_rfl) hS12n (by decide) (fun W hW => r_load_whole Try.underlying24 rfl Try.sizeOf24 rfl rfl ((Kp.h hW).f10).get.2) (ltn rfl) ?_
  refine wd_eff_yes 13 rfl rfl rfl (by kernel_rfl) (e_call (r_call rfl Try.func16 rfl rfl) (undo_inverse_ret HD12 (fun W HW => hd _ (HW.right.right.right.right.right.right.right.right.right.right)) (fun W HW => hi _ (HW.right.right.right.right.right.right.right.right.right.right)) (by omega) (by omega))) (ltn rfl) ?_
  rintro _ w13 ⟨d13, s13, rfl, H13⟩
  have hS13n := Holds.kp (H13.f12.f12.f12.f12.f12.f12.f12.f12.f12.f12.f12.f12)
  refine keepK hS13n (fun W hW => (Kp.h hW).right.right.f10.f10.f10.f10.f10.f10.f10.f10.f10.f10) ?_
  refine wd_eff_yes 15 rfl rfl rfl (by kernel_rfl) (e_call (r_call rfl Try.func17 rfl rfl) (ref_inverse_ret H13 (fun W HW => hd _ (HW.right.right.right.right.right.right.right.right.right.right.right.right)) (fun W HW => hi _ (HW.right.right.right.right.right.right.right.right.right.right.right.right)) (by omega) (by omega))) (ltn rfl) ?_
  rintro _ w14 ⟨d14, s14, rfl, H14⟩
  have hS14n := Holds.kp (H14.f14.f14.f14.f14.f14.f14.f14.f14.f14.f14.f14.f14.f14.f14)
  refine keepX hS14n (by kernel_rfl) ?_
  refine wd_eff_yes 16 rfl rfl rfl (by kernel_rfl) (e_call (r_call rfl Try.func15 rfl rfl) (same_ed_ret H14 (fun W HW => (HW.f3).row_rd) (fun W HW => (HW.f4).row_rd) (fun W HW => (HW).row_rd) (fun W HW => (HW.f2).row_rd))) (ltn rfl) ?_
  rintro _ w15 ⟨rfl, H15⟩
  have hS15n := Holds.kp (H15.f14.f14.f14.f14.f14.f14.f14.f14.f14.f14.f14.f14.f14.f14)
  refine keepX hS15n (by kernel_rfl) ?_
  refine wd_takeT 17 rfl (by kernel_rfl) (by kernel_rfl) hS15n (fun _ => r_pick_t rfl rfl) (ltn rfl) ?_
  refine wd_split 18 rfl rfl (by kernel_rfl) (by kernel_rfl) hS15n (ltn rfl) (fun h2 => ?_) (fun h => by exfalso; (try simp only [beq_iff_eq, bne_iff_ne, ne_eq, decide_eq_true_eq, decide_eq_false_iff_not, beq_eq_false_iff_ne, bne_eq_false_iff_eq, Bool.not_eq_true', Bool.not_eq_false', Bool.not_eq_eq_eq_not, Bool.not_true, Bool.not_false, gt_iff_lt, ge_iff_le, Int.not_lt, Int.not_le] at h); simp at h)
  (try simp only [beq_iff_eq, bne_iff_ne, ne_eq, decide_eq_true_eq, decide_eq_false_iff_not, beq_eq_false_iff_ne, bne_eq_false_iff_eq, Bool.not_eq_true', Bool.not_eq_false', Bool.not_eq_eq_eq_not, Bool.not_true, Bool.not_false, gt_iff_lt, ge_iff_le, Int.not_lt, Int.not_le] at h2)
  refine wd_takeT_yes 19 rfl rfl rfl (by kernel_rfl) (by kernel_rfl) hS15n (fun _ => r_move rfl) (ltn rfl) ?_
  refine wd_takeT_yes 20 rfl rfl rfl (by kernel_rfl) (by kernel_rfl) hS15n (fun _ => r_move rfl) (ltn rfl) ?_
  refine wd_takeT_yes 21 rfl rfl rfl (by kernel_rfl) (by kernel_rfl) hS15n (fun _ => r_eql_bool Try.underlying4 rfl rfl) (ltn rfl) ?_
  refine wd_takeT 22 rfl (by kernel_rfl) (by kernel_rfl) hS15n (fun _ => r_pick_t rfl rfl) (ltn rfl) ?_
  refine wd_split 23 rfl rfl (by kernel_rfl) (by kernel_rfl) hS15n (ltn rfl) (fun h3 => ?_) (fun h => by exfalso; (try simp only [beq_iff_eq, bne_iff_ne, ne_eq, decide_eq_true_eq, decide_eq_false_iff_not, beq_eq_false_iff_ne, bne_eq_false_iff_eq, Bool.not_eq_true', Bool.not_eq_false', Bool.not_eq_eq_eq_not, Bool.not_true, Bool.not_false, gt_iff_lt, ge_iff_le, Int.not_lt, Int.not_le] at h); simp at h)
  (try simp only [beq_iff_eq, bne_iff_ne, ne_eq, decide_eq_true_eq, decide_eq_false_iff_not, beq_eq_false_iff_ne, bne_eq_false_iff_eq, Bool.not_eq_true', Bool.not_eq_false', Bool.not_eq_eq_eq_not, Bool.not_true, Bool.not_false, gt_iff_lt, ge_iff_le, Int.not_lt, Int.not_le] at h3)
  refine wd_take_yes 24 rfl rfl rfl (by kernel_rfl) (by kernel_rfl) hS15n (by decide) (fun W hW => r_load_whole Try.underlying24 rfl Try.sizeOf24 rfl rfl ((Kp.h hW).f8).get.2) (ltn rfl) ?_
  refine wd_take_yes 25 rfl rfl rfl (by kernel_rfl) (by kernel_rfl) hS15n (by decide) (fun W hW => r_load_whole Try.underlying24 rfl Try.sizeOf24 rfl rfl ((Kp.h hW).f5).get.2) (ltn rfl) ?_
  refine wd_eff_yes 26 rfl rfl rfl (by kernel_rfl) (e_call (r_call rfl Try.func15 rfl rfl) (same_ed_ret H15 (fun W HW => (HW.f9).row_rd) (fun W HW => (HW.f10).row_rd) (fun W HW => (HW.f6).row_rd) (fun W HW => (HW.f7).row_rd))) (ltn rfl) ?_
  rintro _ w16 ⟨rfl, H16⟩
  have hS16n := Holds.kp (H16.f14.f14.f14.f14.f14.f14.f14.f14.f14.f14.f14.f14.f14.f14)
  refine keepX hS16n (by kernel_rfl) ?_
  refine wd_takeT 27 rfl (by kernel_rfl) (by kernel_rfl) hS16n (fun _ => r_pick_t rfl rfl) (ltn rfl) ?_
  refine wd_takeT 28 rfl (by kernel_rfl) (by kernel_rfl) hS16n (fun _ => r_assign rfl) (ltn rfl) ?_
  refine wd_done (by kernel_rfl) ?_
  refine wq_seq ?_
  refine wc_ret ?_
  refine wq_end1 (.inl rfl) Try.results3 rfl ?_
  exact ⟨by simp, H16.base⟩
end Go.Proofs.Ytaabgcfeghcmnaa
