/- One operation with both buffers. -/
import Derived.Test.YtlldaaamdchkdaaDoorRefAny
import Derived.Test.YtlldaaamdchkdaaDoorOpIn
import Derived.Test.YtlldaaamdchkdaaDoorFlat
set_option linter.unusedSimpArgs false
set_option linter.unusedVariables false
namespace Go.Proofs.YtlldaaamdchkdaaDoor
open Go.RowKit
section
variable {w0 w : World} {F : HP} {p q : Nat} {L : List Int} {pt mk : Int} {v d s tx : Value} {l dl il text : List Int} {i j a x kd fr to : Int}
theorem ref_line_ret (H : Holds w0 w (RefRep p L pt mk • F)) : Ret Tryd.prog 56 #[.pointer (some ⟨p, 0, none⟩)] w fun v' w' => ∃ u, v' = .agg #[u, .int .i64 pt, .int .i64 mk] ∧ Holds w0 w' (RowI 21 .i32 u L • RefRep p L pt mk • F) := by
  refine ret_enter Tryd.func56 rfl Tryd.ntmps56 (Nat.le_of_ble_eq_true rfl) ?_
  dsimp only [slots0, Nat.reduceAdd]
  obtain ⟨ay_p, cy_p, r1_p, r2_p, r3_p, r4_p, r5_p, HR_p⟩ := (H).ref
  refine wc_seq ?_
  refine wc_region ?_
  refine wl_eff (e_allocL (l := [_, _, _]) HR_p Tryd.zeroValue46 rfl) (ltn rfl) ?_
  rintro _ w2 ⟨b2, rfl, H2⟩
  refine wl_nil ?_
  refine wq_seq ?_
  refine wc_seq ?_
  refine wc_region ?_
  refine wl_val (r_assign rfl) (ltn rfl) ?_
  refine wl_nil ?_
  refine wq_seq ?_
  refine wc_seq ?_
  have H2d2 := H2.drew
  have hS2d2 := Holds.kp (H2d2.f3.f3.f3)
  refine wd_beginK [4, 9, 13] hS2d2 (by kernel_rfl) (by kernel_rfl) rfl ?_
  refine wd_takeT 0 rfl (by kernel_rfl) (by kernel_rfl) hS2d2 (fun _ => r_move rfl) (ltn rfl) ?_
  refine wd_takeT 1 rfl (by kernel_rfl) (by kernel_rfl) hS2d2 (fun _ => r_move rfl) (ltn rfl) ?_
  refine wd_takeT 2 rfl (by kernel_rfl) (by kernel_rfl) hS2d2 (fun _ => r_nil rfl) (ltn rfl) ?_
  refine wd_takeT 3 rfl (by kernel_rfl) (by kernel_rfl) hS2d2 (fun _ => (by first | exact r_field0 0 Tryd.underlying44 rfl rfl Tryd.sizeOf22 (by decide) rfl | exact r_field 0 Tryd.underlying44 rfl rfl Tryd.sizeOf22 (by decide) rfl)) (ltn rfl) ?_
  refine wd_take 4 rfl (by kernel_rfl) (by kernel_rfl) hS2d2 (by decide) (fun W hW => r_load (plain_of Tryd.underlying22 rfl) rfl (cell_of_blk ((Kp.h hW).f2).get.2 rfl)) (ltn rfl) ?_
  refine wd_takeT 6 rfl (by kernel_rfl) (by kernel_rfl) hS2d2 (fun _ => r_move rfl) (ltn rfl) ?_
  refine wd_takeT 7 rfl (by kernel_rfl) (by kernel_rfl) hS2d2 (fun _ => r_nil rfl) (ltn rfl) ?_
  refine wd_takeT 8 rfl (by kernel_rfl) (by kernel_rfl) hS2d2 (fun _ => (by first | exact r_field0 1 Tryd.underlying44 rfl rfl Tryd.sizeOf3 (by decide) rfl | exact r_field 1 Tryd.underlying44 rfl rfl Tryd.sizeOf3 (by decide) rfl)) (ltn rfl) ?_
  refine wd_take 9 rfl (by kernel_rfl) (by kernel_rfl) hS2d2 (by decide) (fun W hW => r_load (plain_of Tryd.underlying3 rfl) rfl (cell_of_blk ((Kp.h hW).f2).get.2 rfl)) (ltn rfl) ?_
  refine wd_takeT 10 rfl (by kernel_rfl) (by kernel_rfl) hS2d2 (fun _ => r_move rfl) (ltn rfl) ?_
  refine wd_takeT 11 rfl (by kernel_rfl) (by kernel_rfl) hS2d2 (fun _ => r_nil rfl) (ltn rfl) ?_
  refine wd_takeT 12 rfl (by kernel_rfl) (by kernel_rfl) hS2d2 (fun _ => (by first | exact r_field0 2 Tryd.underlying44 rfl rfl Tryd.sizeOf3 (by decide) rfl | exact r_field 2 Tryd.underlying44 rfl rfl Tryd.sizeOf3 (by decide) rfl)) (ltn rfl) ?_
  refine wd_take 13 rfl (by kernel_rfl) (by kernel_rfl) hS2d2 (by decide) (fun W hW => r_load (plain_of Tryd.underlying3 rfl) rfl (cell_of_blk ((Kp.h hW).f2).get.2 rfl)) (ltn rfl) ?_
  refine wd_eff 5 rfl (by kernel_rfl) (e_append_ints (l := []) (H2d2.row_nil none) ((H2d2.f3).row_rd) Tryd.underlying22 (show (Tryd.prog.info? 21).map (fun i => (i.zero, i.size, i.bytes)) = some (some (.int .i32 0), 1, 4) by kernel_rfl) rfl rfl (by first | omega | (simp only [List.length_append, List.length_nil, List.length_cons]; omega) | (simp; omega)) (by first | omega | (simp only [List.length_append, List.length_nil, List.length_cons]; omega) | (simp; omega))) (ltn rfl) ?_
  rintro l3 w3 H3
  try simp only [List.nil_append] at H3
  have hS3n := Holds.kp (H3.f4.f4.f4.f4)
  refine keepK hS3n (fun W hW => (Kp.h hW).right.f3.f3.f3) ?_
  obtain ⟨al3, cl3, el3, -⟩ := RdI.open ((H3).row_rd)
  subst el3
  refine wd_takeT 14 rfl (by kernel_rfl) (by kernel_rfl) hS3n (fun _ => r_build (pl := #[(0, 1), (1, 1), (2, 1)]) (_) Tryd.underlying46 Tryd.zeroValue46 (fun w => by kernel_rfl) rfl (rfl)) (ltn rfl) ?_
  refine wd_eff0 15 rfl (by kernel_rfl) (e_storePL 0 (l' := [_, _, _]) (us := [_, _, _]) H3.f2 Tryd.sizeOf46 rfl rfl rfl (ones_cons (by first | rfl | exact Rd.one ((H3).row_rd)) (ones_cons (by first | rfl | assumption) (ones_cons (by first | rfl | assumption) ones_nil))) rfl rfl) ?_
  rintro _ w5 H5
  have hS5n := Holds.kp (H5.f4.f4.f4.f4)
  refine keepX hS5n (by kernel_rfl) ?_
  refine wd_done (by kernel_rfl) ?_
  refine wq_seq ?_
  refine wc_ret ?_
  refine wq_end (.inl rfl) (resC Tryd.results56 rfl Tryd.underlying46 rfl (by rw [show (Tryd.prog.info? 46).map (·.size) = some 3 from by kernel_rfl]; rfl) (H5).get.2) ?_
  exact ⟨_, rfl, (Holds.mk_ref r1_p r2_p r3_p H5.right.f3.f3).f2⟩
theorem is_keep_ret (H : Holds w0 w (BufRep p L pt mk • RefRep q L pt mk • F)) : Ret Tryd.prog 22 #[.pointer (some ⟨p, 0, none⟩), .pointer (some ⟨q, 0, none⟩)] w fun v w' => v = .bool true ∧ Holds w0 w' (BufRep p L pt mk • RefRep q L pt mk • F) := by
  refine ret_enter Tryd.func22 rfl Tryd.ntmps22 (Nat.le_of_ble_eq_true rfl) ?_
  dsimp only [slots0, Nat.reduceAdd]
  refine wc_seq ?_
  refine wc_region ?_
  refine wl_val (r_assign rfl) (ltn rfl) ?_
  refine wl_nil ?_
  refine wq_seq ?_
  refine wc_seq ?_
  have H1d0 := H.drew
  have hS1d0 := Holds.kp (H1d0.f2.f2)
  refine wd_beginK [11, 20, 30, 39] hS1d0 (by kernel_rfl) (by kernel_rfl) rfl ?_
  refine wd_takeT 0 rfl (by kernel_rfl) (by kernel_rfl) hS1d0 (fun _ => r_move rfl) (ltn rfl) ?_
  refine wd_takeT 2 rfl (by kernel_rfl) (by kernel_rfl) hS1d0 (fun _ => r_move rfl) (ltn rfl) ?_
  refine wd_eff 1 rfl (by kernel_rfl) (e_call (r_call rfl Tryd.func21 rfl rfl) (buf_line_ret H1d0)) (ltn rfl) ?_
  rintro _ w1 ⟨u1, rfl, H1⟩
  have hS1n := Holds.kp (H1.f3.f3.f3)
  refine keepX hS1n (by kernel_rfl) ?_
  refine wd_eff 3 rfl (by kernel_rfl) (e_call (r_call rfl Tryd.func56 rfl rfl) (ref_line_ret H1.f3)) (ltn rfl) ?_
  rintro _ w2 ⟨u2, rfl, H2⟩
  obtain ⟨ay_q, cy_q, r1_q, r2_q, r3_q, r4_q, r5_q, HR_q⟩ := (H2.f2).ref
  have hS3n := Holds.kp (HR_q.f5.f5.f5.f5.f5)
  refine keepX hS3n (by kernel_rfl) ?_
  refine wd_eff 4 rfl (by kernel_rfl) (e_call (r_call rfl Tryd.func44 rfl rfl) (same_line_ret HR_q (fun W HW => (HW.f4).row_rd) (fun W HW => (HW.f3).row_rd))) (ltn rfl) ?_
  rintro _ w4 ⟨rfl, H4⟩
  have hS4n := Holds.kp (H4.f5.f5.f5.f5.f5)
  refine keepX hS4n (by kernel_rfl) ?_
  refine wd_takeT 5 rfl (by kernel_rfl) (by kernel_rfl) hS4n (fun _ => r_move rfl) (ltn rfl) ?_
  refine wd_takeT_yes 6 rfl rfl rfl (by kernel_rfl) (by kernel_rfl) hS4n (fun _ => r_move rfl) (ltn rfl) ?_
  refine wd_takeT_yes 8 rfl rfl rfl (by kernel_rfl) (by kernel_rfl) hS4n (fun _ => r_move rfl) (ltn rfl) ?_
  refine wd_takeT_yes 9 rfl rfl rfl (by kernel_rfl) (by kernel_rfl) hS4n (fun _ => r_nil rfl) (ltn rfl) ?_
  refine wd_takeT_yes 10 rfl rfl rfl (by kernel_rfl) (by kernel_rfl) hS4n (fun _ => (by first | exact r_field0 0 Tryd.underlying44 rfl rfl Tryd.sizeOf22 (by decide) rfl | exact r_field 0 Tryd.underlying44 rfl rfl Tryd.sizeOf22 (by decide) rfl)) (ltn rfl) ?_
  refine wd_take_yes 11 rfl rfl rfl (by kernel_rfl) (by kernel_rfl) hS4n (by decide) (fun W hW => r_load (plain_of Tryd.underlying22 rfl) rfl (cell_of_blk ((Kp.h hW)).get.2 rfl)) (ltn rfl) ?_
  refine wd_eff_yes 7 rfl rfl rfl (by kernel_rfl) (e_call (r_call rfl Tryd.func15 rfl rfl) (buf_text_ret H4.f5)) (ltn rfl) ?_
  rintro u5 w5 H5
  have hS5n := Holds.kp (H5.f6.f6.f6.f6.f6.f6)
  refine keepK hS5n (fun W hW => (Kp.h hW).right.f5.f5.f5.f5) ?_
  refine wd_eff_yes 12 rfl rfl rfl (by kernel_rfl) (e_call (r_call rfl Tryd.func14 rfl rfl) (same_eq_ret _ _ _ _ ((H5).row_rd) ((H5.f4).row_rd))) (ltn rfl) ?_
  rintro _ w6 ⟨rfl, hD6⟩
  have HD6 := H5.drewn hD6
  have hS6n := Holds.kp (HD6.f6.f6.f6.f6.f6.f6)
  refine keepX hS6n (by kernel_rfl) ?_
  refine wd_takeT 13 rfl (by kernel_rfl) (by kernel_rfl) hS6n (fun _ => r_pick_t rfl rfl) (ltn rfl) ?_
  refine wd_takeT 14 rfl (by kernel_rfl) (by kernel_rfl) hS6n (fun _ => r_move rfl) (ltn rfl) ?_
  refine wd_takeT_yes 15 rfl rfl rfl (by kernel_rfl) (by kernel_rfl) hS6n (fun _ => r_move rfl) (ltn rfl) ?_
  refine wd_takeT_yes 17 rfl rfl rfl (by kernel_rfl) (by kernel_rfl) hS6n (fun _ => r_move rfl) (ltn rfl) ?_
  refine wd_takeT_yes 18 rfl rfl rfl (by kernel_rfl) (by kernel_rfl) hS6n (fun _ => r_nil rfl) (ltn rfl) ?_
  refine wd_takeT_yes 19 rfl rfl rfl (by kernel_rfl) (by kernel_rfl) hS6n (fun _ => (by first | exact r_field0 0 Tryd.underlying44 rfl rfl Tryd.sizeOf22 (by decide) rfl | exact r_field 0 Tryd.underlying44 rfl rfl Tryd.sizeOf22 (by decide) rfl)) (ltn rfl) ?_
  refine wd_take_yes 20 rfl rfl rfl (by kernel_rfl) (by kernel_rfl) hS6n (by decide) (fun W hW => r_load (plain_of Tryd.underlying22 rfl) rfl (cell_of_blk ((Kp.h hW).f3).get.2 rfl)) (ltn rfl) ?_
  refine wd_takeT_yes 21 rfl rfl rfl (by kernel_rfl) (by kernel_rfl) hS6n (fun _ => r_lenR ((HD6.f4).row_rd) Tryd.underlying22 rfl) (ltn rfl) ?_
  refine wd_eff_yes 16 rfl rfl rfl (by kernel_rfl) (e_call (r_call rfl Tryd.func45 rfl rfl) (buf_len_ret HD6.f2)) (ltn rfl) ?_
  rintro _ w7 ⟨rfl, hD7⟩
  have HD7 := HD6.drewn hD7
  have hS7n := Holds.kp (HD7.f6.f6.f6.f6.f6.f6)
  refine keepK hS7n (fun W hW => (Kp.h hW).f6.f6.f6.f6.f6.f6) ?_
  refine wd_takeT_yes 22 rfl rfl rfl (by kernel_rfl) (by kernel_rfl) hS7n (fun _ => r_known_t (r_eql rfl rfl) (by first | (rw [decide_eq_true_eq]; omega) | (rw [decide_eq_false_iff_not]; omega) | (rw [beq_iff_eq]; omega) | (rw [beq_eq_false_iff_ne]; omega) | (rw [bne_iff_ne]; omega) | (rw [bne_eq_false_iff_eq]; omega) | (simp; done) | (simp; omega))) (ltn rfl) ?_
  refine wd_takeT 23 rfl (by kernel_rfl) (by kernel_rfl) hS7n (fun _ => r_pick_t rfl rfl) (ltn rfl) ?_
  refine wd_takeT 24 rfl (by kernel_rfl) (by kernel_rfl) hS7n (fun _ => r_move rfl) (ltn rfl) ?_
  refine wd_takeT_yes 25 rfl rfl rfl (by kernel_rfl) (by kernel_rfl) hS7n (fun _ => r_move rfl) (ltn rfl) ?_
  refine wd_takeT_yes 27 rfl rfl rfl (by kernel_rfl) (by kernel_rfl) hS7n (fun _ => r_move rfl) (ltn rfl) ?_
  refine wd_takeT_yes 28 rfl rfl rfl (by kernel_rfl) (by kernel_rfl) hS7n (fun _ => r_nil rfl) (ltn rfl) ?_
  refine wd_takeT_yes 29 rfl rfl rfl (by kernel_rfl) (by kernel_rfl) hS7n (fun _ => (by first | exact r_field0 1 Tryd.underlying44 rfl rfl Tryd.sizeOf3 (by decide) rfl | exact r_field 1 Tryd.underlying44 rfl rfl Tryd.sizeOf3 (by decide) rfl)) (ltn rfl) ?_
  refine wd_take_yes 30 rfl rfl rfl (by kernel_rfl) (by kernel_rfl) hS7n (by decide) (fun W hW => r_load (plain_of Tryd.underlying3 rfl) rfl (cell_of_blk ((Kp.h hW).f3).get.2 rfl)) (ltn rfl) ?_
  refine wd_eff_yes 26 rfl rfl rfl (by kernel_rfl) (e_call (r_call rfl Tryd.func23 rfl rfl) (buf_point_ret HD7.f2)) (ltn rfl) ?_
  rintro _ _ ⟨rfl, rfl⟩
  have hS8n := Holds.kp (HD7.f6.f6.f6.f6.f6.f6)
  refine keepK hS8n (fun W hW => (Kp.h hW).f6.f6.f6.f6.f6.f6) ?_
  refine wd_takeT_yes 31 rfl rfl rfl (by kernel_rfl) (by kernel_rfl) hS8n (fun _ => r_known_t (r_eql rfl rfl) (by first | (rw [decide_eq_true_eq]; omega) | (rw [decide_eq_false_iff_not]; omega) | (rw [beq_iff_eq]; omega) | (rw [beq_eq_false_iff_ne]; omega) | (rw [bne_iff_ne]; omega) | (rw [bne_eq_false_iff_eq]; omega) | (simp; done) | (simp; omega))) (ltn rfl) ?_
  refine wd_takeT 32 rfl (by kernel_rfl) (by kernel_rfl) hS8n (fun _ => r_pick_t rfl rfl) (ltn rfl) ?_
  refine wd_takeT 33 rfl (by kernel_rfl) (by kernel_rfl) hS8n (fun _ => r_move rfl) (ltn rfl) ?_
  refine wd_takeT_yes 34 rfl rfl rfl (by kernel_rfl) (by kernel_rfl) hS8n (fun _ => r_move rfl) (ltn rfl) ?_
  refine wd_takeT_yes 36 rfl rfl rfl (by kernel_rfl) (by kernel_rfl) hS8n (fun _ => r_move rfl) (ltn rfl) ?_
  refine wd_takeT_yes 37 rfl rfl rfl (by kernel_rfl) (by kernel_rfl) hS8n (fun _ => r_nil rfl) (ltn rfl) ?_
  refine wd_takeT_yes 38 rfl rfl rfl (by kernel_rfl) (by kernel_rfl) hS8n (fun _ => (by first | exact r_field0 2 Tryd.underlying44 rfl rfl Tryd.sizeOf3 (by decide) rfl | exact r_field 2 Tryd.underlying44 rfl rfl Tryd.sizeOf3 (by decide) rfl)) (ltn rfl) ?_
  refine wd_take_yes 39 rfl rfl rfl (by kernel_rfl) (by kernel_rfl) hS8n (by decide) (fun W hW => r_load (plain_of Tryd.underlying3 rfl) rfl (cell_of_blk ((Kp.h hW).f3).get.2 rfl)) (ltn rfl) ?_
  refine wd_eff_yes 35 rfl rfl rfl (by kernel_rfl) (e_call (r_call rfl Tryd.func46 rfl rfl) (buf_mark_ret HD7.f2)) (ltn rfl) ?_
  rintro _ _ ⟨rfl, rfl⟩
  have hS9n := Holds.kp (HD7.f6.f6.f6.f6.f6.f6)
  refine keepK hS9n (fun W hW => (Kp.h hW).f6.f6.f6.f6.f6.f6) ?_
  refine wd_takeT_yes 40 rfl rfl rfl (by kernel_rfl) (by kernel_rfl) hS9n (fun _ => r_known_t (r_eql rfl rfl) (by first | (rw [decide_eq_true_eq]; omega) | (rw [decide_eq_false_iff_not]; omega) | (rw [beq_iff_eq]; omega) | (rw [beq_eq_false_iff_ne]; omega) | (rw [bne_iff_ne]; omega) | (rw [bne_eq_false_iff_eq]; omega) | (simp; done) | (simp; omega))) (ltn rfl) ?_
  refine wd_takeT 41 rfl (by kernel_rfl) (by kernel_rfl) hS9n (fun _ => r_pick_t rfl rfl) (ltn rfl) ?_
  refine wd_takeT 42 rfl (by kernel_rfl) (by kernel_rfl) hS9n (fun _ => r_assign rfl) (ltn rfl) ?_
  refine wd_done (by kernel_rfl) ?_
  refine wq_seq ?_
  refine wc_ret ?_
  refine wq_end1 (.inl rfl) Tryd.results22 rfl ?_
  exact ⟨rfl, (Holds.mk_ref r1_q r2_q r3_q HD7.right.f4.right.f4.right.f3.f3).f2⟩
theorem does_ret (H : Holds w0 w (BufRep p L pt mk • RefRep q L pt mk • F)) (ht : FRdI w0 F .i32 tx text) (hd : FRdI w0 F .i32 d dl) (hi : FRdI w0 F .i32 s il) (hb1 : text.length ≤ 140737488355328) (hb2 : il.length ≤ 140737488355328) :
    Ret Tryd.prog 48 #[.pointer (some ⟨p, 0, none⟩), .pointer (some ⟨q, 0, none⟩), .agg #[.int .i64 kd, .int .i64 fr, .int .i64 to, tx, .int .i64 a, d, s]] w fun v w' => ∃ L' pt' mk', v = .bool true ∧ Holds w0 w' (BufRep p L' pt' mk' • RefRep q L' pt' mk' • F) := by
  refine ret_enter Tryd.func48 rfl Tryd.ntmps48 (Nat.le_of_ble_eq_true rfl) ?_
  dsimp only [slots0, Nat.reduceAdd]
  refine wc_seq ?_
  refine wc_region ?_
  refine wl_eff (e_boxL (l := [_, _, _, _, _, _, _]) H rfl rfl) (ltn rfl) ?_
  rintro _ w1 ⟨b1, rfl, H1⟩
  refine wl_val (r_assign rfl) (ltn rfl) ?_
  refine wl_nil ?_
  refine wq_seq ?_
  refine wc_seq ?_
  refine wc_region ?_
  refine wl_eff (e_allocL (l := [_, _, _]) H1 Tryd.zeroValue24 rfl) (ltn rfl) ?_
  rintro _ w2 ⟨b2, rfl, H2⟩
  refine wl_eff (e_allocL (l := [_, _, _]) H2 Tryd.zeroValue24 rfl) (ltn rfl) ?_
  rintro _ w3 ⟨b3, rfl, H3⟩
  refine wl_nil ?_
  refine wq_seq ?_
  refine wc_seq ?_
  refine wc_region ?_
  refine wl_val (r_assign rfl) (ltn rfl) ?_
  refine wl_val (r_assign rfl) (ltn rfl) ?_
  refine wl_nil ?_
  refine wq_seq ?_
  refine wc_join [(7, _), (8, _)] (fun (e : Int) => [(9, .int .i64 e), (10, .int .i64 e)]) (fun (e : Int) W => ∃ n1 n2 n3 n4 x dl il L pt mk, Holds w0 W (RowI 21 .i32 n1 dl • RowI 21 .i32 n2 il • RowI 21 .i32 n3 dl • RowI 21 .i32 n4 il • blk b2 (.cells #[.int .i64 x, n1, n2] 24 (0, 0)) • blk b3 (.cells #[.int .i64 x, n3, n4] 24 (0, 0)) • BufRep p L pt mk • RefRep q L pt mk • F)) (Sub.cons rfl (Sub.cons rfl (Sub.nil _))) ?_ ?_
  · rintro e w4 ⟨n1, n2, n3, n4, x, dl, il, L, pt, mk, HJ⟩
    dsimp only [List.cons_append, List.nil_append]
    refine wc_seq ?_
    refine wc_region ?_
    refine wl_val (r_move rfl) (ltn rfl) ?_
    refine wl_val (r_move rfl) (ltn rfl) ?_
    refine wl_val (r_eql rfl rfl) (ltn rfl) ?_
    refine wl_split rfl (ltn rfl) (fun h1 => ?_) (fun h1 => ?_)
    · (try simp only [beq_iff_eq, bne_iff_ne, ne_eq, decide_eq_true_eq, decide_eq_false_iff_not, beq_eq_false_iff_ne, bne_eq_false_iff_eq, Bool.not_eq_true', Bool.not_eq_false', Bool.not_eq_eq_eq_not, Bool.not_true, Bool.not_false, gt_iff_lt, ge_iff_le, Int.not_lt, Int.not_le] at h1)
      try (exfalso; first | contradiction | omega)
      all_goals
        refine wl_yes rfl rfl ?_
        refine wl_val (r_load_whole Tryd.underlying24 rfl Tryd.sizeOf24 rfl rfl (HJ.f5).get.2) (ltn rfl) ?_
        refine wl_yes rfl rfl ?_
        refine wl_val (r_load_whole Tryd.underlying24 rfl Tryd.sizeOf24 rfl rfl (HJ.f6).get.2) (ltn rfl) ?_
        refine wl_yes rfl rfl ?_
        refine wl_eff (e_call (r_call rfl Tryd.func26 rfl rfl) (same_edit_ret HJ (fun W HW => (HW).row_rd) (fun W HW => (HW.f2).row_rd) (fun W HW => (HW.f3).row_rd) (fun W HW => (HW.f4).row_rd))) (ltn rfl) ?_
        rintro _ w5 ⟨rfl, H5⟩
        refine wl_val (r_pick_t rfl rfl) (ltn rfl) ?_
        refine wl_val (r_assign rfl) (ltn rfl) ?_
        refine wl_nil ?_
        refine wq_seq ?_
        refine wc_ret ?_
        refine wq_end1 (.inl rfl) Tryd.results48 rfl ?_
        exact ⟨_, _, _, rfl, H5.right.right.right.right.right.right.f2.f2⟩
    · (try simp only [beq_iff_eq, bne_iff_ne, ne_eq, decide_eq_true_eq, decide_eq_false_iff_not, beq_eq_false_iff_ne, bne_eq_false_iff_eq, Bool.not_eq_true', Bool.not_eq_false', Bool.not_eq_eq_eq_not, Bool.not_true, Bool.not_false, gt_iff_lt, ge_iff_le, Int.not_lt, Int.not_le] at h1)
      try (exfalso; first | contradiction | omega)
      all_goals
        refine wl_no rfl rfl rfl (ltn rfl) ?_
        refine wl_no rfl rfl rfl (ltn rfl) ?_
        refine wl_no rfl rfl rfl (ltn rfl) ?_
        refine wl_val (r_pick_f rfl rfl) (ltn rfl) ?_
        refine wl_val (r_assign rfl) (ltn rfl) ?_
        refine wl_nil ?_
        refine wq_seq ?_
        refine wc_ret ?_
        refine wq_end1 (.inl rfl) Tryd.results48 rfl ?_
        exact ⟨_, _, _, rfl, HJ.right.right.right.right.right.right.f2.f2⟩
  · skip
    refine wc_seq ?_
    refine wc_region ?_
    refine wl_val ((by first | exact r_field0 0 Tryd.underlying26 rfl rfl Tryd.sizeOf3 (by decide) rfl | exact r_field 0 Tryd.underlying26 rfl rfl Tryd.sizeOf3 (by decide) rfl)) (ltn rfl) ?_
    refine wl_val (r_load (plain_of Tryd.underlying3 rfl) rfl (cell_of_blk (H3.f3).get.2 rfl)) (ltn rfl) ?_
    refine wl_nil ?_
    refine wq_seq ?_
    refine wc_block ?_
    refine wc_seq ?_
    refine wc_region ?_
    refine wl_val (r_eql rfl rfl) (ltn rfl) ?_
    refine wl_val (r_assign rfl) (ltn rfl) ?_
    refine wl_nil ?_
    refine wq_seq ?_
    refine wc_cond rfl (fun h2 => ?_) (fun h2 => ?_)
    · (try simp only [beq_iff_eq, bne_iff_ne, ne_eq, decide_eq_true_eq, decide_eq_false_iff_not, beq_eq_false_iff_ne, bne_eq_false_iff_eq, Bool.not_eq_true', Bool.not_eq_false', Bool.not_eq_eq_eq_not, Bool.not_true, Bool.not_false, gt_iff_lt, ge_iff_le, Int.not_lt, Int.not_le] at h2)
      try (exfalso; first | contradiction | omega)
      all_goals
        
        refine wc_seq ?_
        refine wc_region ?_
        refine wl_val (r_move rfl) (ltn rfl) ?_
        refine wl_val ((by first | exact r_field0 3 Tryd.underlying26 rfl rfl Tryd.sizeOf22 (by decide) rfl | exact r_field 3 Tryd.underlying26 rfl rfl Tryd.sizeOf22 (by decide) rfl)) (ltn rfl) ?_
        refine wl_val (r_load (plain_of Tryd.underlying22 rfl) rfl (cell_of_blk (H3.f3).get.2 rfl)) (ltn rfl) ?_
        refine wl_eff (e_call (r_call rfl Tryd.func19 rfl rfl) (buf_insert_any H3.f4 (fun W HW => ht _ (HW.right.right.right.right)))) (ltn rfl) ?_
        rintro _ w6 ⟨d6, s6, rfl, H6⟩
        refine wl_val (r_move rfl) (ltn rfl) ?_
        refine wl_val (r_extract rfl rfl) (ltn rfl) ?_
        refine wl_val (r_extract rfl rfl) (ltn rfl) ?_
        refine wl_eff0 (e_storePL 0 (l' := [_, _, _]) (us := [_, _, _]) H6.f5 Tryd.sizeOf24 rfl rfl rfl (ones_cons (by first | rfl | assumption) (ones_cons (by first | rfl | exact Rd.one ((H6).row_rd)) (ones_cons (by first | rfl | exact Rd.one ((H6.f2).row_rd)) ones_nil))) rfl rfl) ?_
        rintro _ w7 H7
        refine wl_val (r_assign rfl) (ltn rfl) ?_
        refine wl_nil ?_
        refine wq_seq ?_
        obtain ⟨ay_q, cy_q, r1_q, r2_q, r3_q, r4_q, r5_q, HR_q⟩ := (H7.f7).ref
        have H6d8 := HR_q.drew
        have hS6d8 := Holds.kp (H6d8.f8.f8.f8.f8.f8.f8.f8.f8)
        refine wd_beginK [4, 8, 10] hS6d8 (by kernel_rfl) (by kernel_rfl) rfl ?_
        refine wd_takeT 0 rfl (by kernel_rfl) (by kernel_rfl) hS6d8 (fun _ => r_move rfl) (ltn rfl) ?_
        refine wd_takeT 1 rfl (by kernel_rfl) (by kernel_rfl) hS6d8 (fun _ => r_move rfl) (ltn rfl) ?_
        refine wd_takeT 2 rfl (by kernel_rfl) (by kernel_rfl) hS6d8 (fun _ => r_nil rfl) (ltn rfl) ?_
        refine wd_takeT 3 rfl (by kernel_rfl) (by kernel_rfl) hS6d8 (fun _ => (by first | exact r_field0 1 Tryd.underlying44 rfl rfl Tryd.sizeOf3 (by decide) rfl | exact r_field 1 Tryd.underlying44 rfl rfl Tryd.sizeOf3 (by decide) rfl)) (ltn rfl) ?_
        refine wd_take 4 rfl (by kernel_rfl) (by kernel_rfl) hS6d8 (by decide) (fun W hW => r_load (plain_of Tryd.underlying3 rfl) rfl (cell_of_blk ((Kp.h hW)).get.2 rfl)) (ltn rfl) ?_
        refine wd_takeT 5 rfl (by kernel_rfl) (by kernel_rfl) hS6d8 (fun _ => r_move rfl) (ltn rfl) ?_
        refine wd_takeT 6 rfl (by kernel_rfl) (by kernel_rfl) hS6d8 (fun _ => r_nil rfl) (ltn rfl) ?_
        refine wd_takeT 7 rfl (by kernel_rfl) (by kernel_rfl) hS6d8 (fun _ => (by first | exact r_field0 1 Tryd.underlying44 rfl rfl Tryd.sizeOf3 (by decide) rfl | exact r_field 1 Tryd.underlying44 rfl rfl Tryd.sizeOf3 (by decide) rfl)) (ltn rfl) ?_
        refine wd_take 8 rfl (by kernel_rfl) (by kernel_rfl) hS6d8 (by decide) (fun W hW => r_load (plain_of Tryd.underlying3 rfl) rfl (cell_of_blk ((Kp.h hW)).get.2 rfl)) (ltn rfl) ?_
        refine wd_takeT 9 rfl (by kernel_rfl) (by kernel_rfl) hS6d8 (fun _ => (by first | exact r_field0 3 Tryd.underlying26 rfl rfl Tryd.sizeOf22 (by decide) rfl | exact r_field 3 Tryd.underlying26 rfl rfl Tryd.sizeOf22 (by decide) rfl)) (ltn rfl) ?_
        refine wd_take 10 rfl (by kernel_rfl) (by kernel_rfl) hS6d8 (by decide) (fun W hW => r_load (plain_of Tryd.underlying22 rfl) rfl (cell_of_blk ((Kp.h hW).f8).get.2 rfl)) (ltn rfl) ?_
        have Ho10 := H6d8.f2.f2
        have Hc11 := Holds.mk_ref r1_q r2_q r3_q Ho10
        refine wd_eff 11 rfl (by kernel_rfl) (e_call (r_call rfl Tryd.func20 rfl rfl) (ref_replace_ret Hc11 (fun W HW => ht _ (HW.right.right.right.right.right.right)) (by (try simp only [List.length_nil]); omega))) (ltn rfl) ?_
        rintro _ w12 ⟨d12, s12, rfl, H12⟩
        have hS12n := Holds.kp (H12.f9.f9.f9.f9.f9.f9.f9.f9.f9)
        refine keepX hS12n (by kernel_rfl) ?_
        refine wd_takeT 12 rfl (by kernel_rfl) (by kernel_rfl) hS12n (fun _ => r_move rfl) (ltn rfl) ?_
        refine wd_takeT 13 rfl (by kernel_rfl) (by kernel_rfl) hS12n (fun _ => r_extract rfl rfl) (ltn rfl) ?_
        refine wd_takeT 14 rfl (by kernel_rfl) (by kernel_rfl) hS12n (fun _ => r_extract rfl rfl) (ltn rfl) ?_
        refine wd_eff0 15 rfl (by kernel_rfl) (e_storePL 0 (l' := [_, _, _]) (us := [_, _, _]) H12.f8 Tryd.sizeOf24 rfl rfl rfl (ones_cons (by first | rfl | assumption) (ones_cons (by first | rfl | exact Rd.one ((H12).row_rd)) (ones_cons (by first | rfl | exact Rd.one ((H12.f2).row_rd)) ones_nil))) rfl rfl) ?_
        rintro _ w13 H13
        have hS13n := Holds.kp (H13.f9.f9.f9.f9.f9.f9.f9.f9.f9)
        refine keepX hS13n (by kernel_rfl) ?_
        refine wd_takeT 16 rfl (by kernel_rfl) (by kernel_rfl) hS13n (fun _ => r_assign rfl) (ltn rfl) ?_
        refine wd_done (by kernel_rfl) ?_
        refine wq_block_normal ?_
        refine wq_join (_) (Sub.cons rfl (Sub.cons rfl (Sub.nil _))) (Sub.cons rfl (Sub.cons rfl (Sub.nil _))) (by (try dsimp only); exact ⟨_, _, _, _, _, _, _, _, _, _, H13.f9.right.f4.f8.f3.f6.f6.f6.f8.f8⟩)
    · (try simp only [beq_iff_eq, bne_iff_ne, ne_eq, decide_eq_true_eq, decide_eq_false_iff_not, beq_eq_false_iff_ne, bne_eq_false_iff_eq, Bool.not_eq_true', Bool.not_eq_false', Bool.not_eq_eq_eq_not, Bool.not_true, Bool.not_false, gt_iff_lt, ge_iff_le, Int.not_lt, Int.not_le] at h2)
      try (exfalso; first | contradiction | omega)
      all_goals
        
        refine wc_seq ?_
        refine wc_region ?_
        refine wl_val (r_eql rfl rfl) (ltn rfl) ?_
        refine wl_val (r_assign rfl) (ltn rfl) ?_
        refine wl_nil ?_
        refine wq_seq ?_
        refine wc_cond rfl (fun h3 => ?_) (fun h3 => ?_)
        · (try simp only [beq_iff_eq, bne_iff_ne, ne_eq, decide_eq_true_eq, decide_eq_false_iff_not, beq_eq_false_iff_ne, bne_eq_false_iff_eq, Bool.not_eq_true', Bool.not_eq_false', Bool.not_eq_eq_eq_not, Bool.not_true, Bool.not_false, gt_iff_lt, ge_iff_le, Int.not_lt, Int.not_le] at h3)
          try (exfalso; first | contradiction | omega)
          all_goals
            
            refine wc_seq ?_
            refine wc_region ?_
            refine wl_val (r_move rfl) (ltn rfl) ?_
            refine wl_val ((by first | exact r_field0 1 Tryd.underlying26 rfl rfl Tryd.sizeOf3 (by decide) rfl | exact r_field 1 Tryd.underlying26 rfl rfl Tryd.sizeOf3 (by decide) rfl)) (ltn rfl) ?_
            refine wl_val (r_load (plain_of Tryd.underlying3 rfl) rfl (cell_of_blk (H3.f3).get.2 rfl)) (ltn rfl) ?_
            refine wl_val ((by first | exact r_field0 2 Tryd.underlying26 rfl rfl Tryd.sizeOf3 (by decide) rfl | exact r_field 2 Tryd.underlying26 rfl rfl Tryd.sizeOf3 (by decide) rfl)) (ltn rfl) ?_
            refine wl_val (r_load (plain_of Tryd.underlying3 rfl) rfl (cell_of_blk (H3.f3).get.2 rfl)) (ltn rfl) ?_
            refine wl_eff (e_call (r_call rfl Tryd.func41 rfl rfl) (buf_delete_ret H3.f4)) (ltn rfl) ?_
            rintro _ w14 ⟨d14, s14, rfl, H14⟩
            refine wl_val (r_move rfl) (ltn rfl) ?_
            refine wl_val (r_extract rfl rfl) (ltn rfl) ?_
            refine wl_val (r_extract rfl rfl) (ltn rfl) ?_
            refine wl_eff0 (e_storePL 0 (l' := [_, _, _]) (us := [_, _, _]) H14.f5 Tryd.sizeOf24 rfl rfl rfl (ones_cons (by first | rfl | assumption) (ones_cons (by first | rfl | exact Rd.one ((H14).row_rd)) (ones_cons (by first | rfl | exact Rd.one ((H14.f2).row_rd)) ones_nil))) rfl rfl) ?_
            rintro _ w15 H15
            refine wl_val (r_assign rfl) (ltn rfl) ?_
            refine wl_nil ?_
            refine wq_seq ?_
            refine wc_region ?_
            refine wl_val (r_move rfl) (ltn rfl) ?_
            refine wl_val ((by first | exact r_field0 1 Tryd.underlying26 rfl rfl Tryd.sizeOf3 (by decide) rfl | exact r_field 1 Tryd.underlying26 rfl rfl Tryd.sizeOf3 (by decide) rfl)) (ltn rfl) ?_
            refine wl_val (r_load (plain_of Tryd.underlying3 rfl) rfl (cell_of_blk (H15.f6).get.2 rfl)) (ltn rfl) ?_
            refine wl_val ((by first | exact r_field0 2 Tryd.underlying26 rfl rfl Tryd.sizeOf3 (by decide) rfl | exact r_field 2 Tryd.underlying26 rfl rfl Tryd.sizeOf3 (by decide) rfl)) (ltn rfl) ?_
            refine wl_val (r_load (plain_of Tryd.underlying3 rfl) rfl (cell_of_blk (H15.f6).get.2 rfl)) (ltn rfl) ?_
            refine wl_eff (e_call (r_call rfl Tryd.func20 rfl rfl) (ref_replace_ret H15.f7 (fun W _ => RdI.nil W _ none 0 (by decide)) (by (try simp only [List.length_nil]); omega))) (ltn rfl) ?_
            rintro _ w16 ⟨d16, s16, rfl, H16⟩
            refine wl_val (r_move rfl) (ltn rfl) ?_
            refine wl_val (r_extract rfl rfl) (ltn rfl) ?_
            refine wl_val (r_extract rfl rfl) (ltn rfl) ?_
            refine wl_eff0 (e_storePL 0 (l' := [_, _, _]) (us := [_, _, _]) H16.f8 Tryd.sizeOf24 rfl rfl rfl (ones_cons (by first | rfl | assumption) (ones_cons (by first | rfl | exact Rd.one ((H16).row_rd)) (ones_cons (by first | rfl | exact Rd.one ((H16.f2).row_rd)) ones_nil))) rfl rfl) ?_
            rintro _ w17 H17
            refine wl_val (r_assign rfl) (ltn rfl) ?_
            refine wl_nil ?_
            refine wq_block_normal ?_
            refine wq_join (_) (Sub.cons rfl (Sub.cons rfl (Sub.nil _))) (Sub.cons rfl (Sub.cons rfl (Sub.nil _))) (by (try dsimp only); exact ⟨_, _, _, _, _, _, _, _, _, _, H17.f9.right.f4.f8.f3.f6.f6.f6.f8.f8⟩)
        · (try simp only [beq_iff_eq, bne_iff_ne, ne_eq, decide_eq_true_eq, decide_eq_false_iff_not, beq_eq_false_iff_ne, bne_eq_false_iff_eq, Bool.not_eq_true', Bool.not_eq_false', Bool.not_eq_eq_eq_not, Bool.not_true, Bool.not_false, gt_iff_lt, ge_iff_le, Int.not_lt, Int.not_le] at h3)
          try (exfalso; first | contradiction | omega)
          all_goals
            
            refine wc_seq ?_
            refine wc_region ?_
            refine wl_val (r_eql rfl rfl) (ltn rfl) ?_
            refine wl_val (r_assign rfl) (ltn rfl) ?_
            refine wl_nil ?_
            refine wq_seq ?_
            refine wc_cond rfl (fun h4 => ?_) (fun h4 => ?_)
            · (try simp only [beq_iff_eq, bne_iff_ne, ne_eq, decide_eq_true_eq, decide_eq_false_iff_not, beq_eq_false_iff_ne, bne_eq_false_iff_eq, Bool.not_eq_true', Bool.not_eq_false', Bool.not_eq_eq_eq_not, Bool.not_true, Bool.not_false, gt_iff_lt, ge_iff_le, Int.not_lt, Int.not_le] at h4)
              try (exfalso; first | contradiction | omega)
              all_goals
                
                refine wc_seq ?_
                refine wc_region ?_
                refine wl_val (r_move rfl) (ltn rfl) ?_
                refine wl_val ((by first | exact r_field0 1 Tryd.underlying26 rfl rfl Tryd.sizeOf3 (by decide) rfl | exact r_field 1 Tryd.underlying26 rfl rfl Tryd.sizeOf3 (by decide) rfl)) (ltn rfl) ?_
                refine wl_val (r_load (plain_of Tryd.underlying3 rfl) rfl (cell_of_blk (H3.f3).get.2 rfl)) (ltn rfl) ?_
                refine wl_val ((by first | exact r_field0 2 Tryd.underlying26 rfl rfl Tryd.sizeOf3 (by decide) rfl | exact r_field 2 Tryd.underlying26 rfl rfl Tryd.sizeOf3 (by decide) rfl)) (ltn rfl) ?_
                refine wl_val (r_load (plain_of Tryd.underlying3 rfl) rfl (cell_of_blk (H3.f3).get.2 rfl)) (ltn rfl) ?_
                refine wl_val ((by first | exact r_field0 3 Tryd.underlying26 rfl rfl Tryd.sizeOf22 (by decide) rfl | exact r_field 3 Tryd.underlying26 rfl rfl Tryd.sizeOf22 (by decide) rfl)) (ltn rfl) ?_
                refine wl_val (r_load (plain_of Tryd.underlying22 rfl) rfl (cell_of_blk (H3.f3).get.2 rfl)) (ltn rfl) ?_
                refine wl_eff (e_call (r_call rfl Tryd.func13 rfl rfl) (buf_replace_ret H3.f4 (fun W HW => ht _ (HW.right.right.right.right)))) (ltn rfl) ?_
                rintro _ w18 ⟨d18, s18, rfl, H18⟩
                refine wl_val (r_move rfl) (ltn rfl) ?_
                refine wl_val (r_extract rfl rfl) (ltn rfl) ?_
                refine wl_val (r_extract rfl rfl) (ltn rfl) ?_
                refine wl_eff0 (e_storePL 0 (l' := [_, _, _]) (us := [_, _, _]) H18.f5 Tryd.sizeOf24 rfl rfl rfl (ones_cons (by first | rfl | assumption) (ones_cons (by first | rfl | exact Rd.one ((H18).row_rd)) (ones_cons (by first | rfl | exact Rd.one ((H18.f2).row_rd)) ones_nil))) rfl rfl) ?_
                rintro _ w19 H19
                refine wl_val (r_assign rfl) (ltn rfl) ?_
                refine wl_nil ?_
                refine wq_seq ?_
                refine wc_region ?_
                refine wl_val (r_move rfl) (ltn rfl) ?_
                refine wl_val ((by first | exact r_field0 1 Tryd.underlying26 rfl rfl Tryd.sizeOf3 (by decide) rfl | exact r_field 1 Tryd.underlying26 rfl rfl Tryd.sizeOf3 (by decide) rfl)) (ltn rfl) ?_
                refine wl_val (r_load (plain_of Tryd.underlying3 rfl) rfl (cell_of_blk (H19.f6).get.2 rfl)) (ltn rfl) ?_
                refine wl_val ((by first | exact r_field0 2 Tryd.underlying26 rfl rfl Tryd.sizeOf3 (by decide) rfl | exact r_field 2 Tryd.underlying26 rfl rfl Tryd.sizeOf3 (by decide) rfl)) (ltn rfl) ?_
                refine wl_val (r_load (plain_of Tryd.underlying3 rfl) rfl (cell_of_blk (H19.f6).get.2 rfl)) (ltn rfl) ?_
                refine wl_val ((by first | exact r_field0 3 Tryd.underlying26 rfl rfl Tryd.sizeOf22 (by decide) rfl | exact r_field 3 Tryd.underlying26 rfl rfl Tryd.sizeOf22 (by decide) rfl)) (ltn rfl) ?_
                refine wl_val (r_load (plain_of Tryd.underlying22 rfl) rfl (cell_of_blk (H19.f6).get.2 rfl)) (ltn rfl) ?_
                refine wl_eff (e_call (r_call rfl Tryd.func20 rfl rfl) (ref_replace_ret H19.f7 (fun W HW => ht _ (HW.right.right.right.right.right.right)) (by (try simp only [List.length_nil]); omega))) (ltn rfl) ?_
                rintro _ w20 ⟨d20, s20, rfl, H20⟩
                refine wl_val (r_move rfl) (ltn rfl) ?_
                refine wl_val (r_extract rfl rfl) (ltn rfl) ?_
                refine wl_val (r_extract rfl rfl) (ltn rfl) ?_
                refine wl_eff0 (e_storePL 0 (l' := [_, _, _]) (us := [_, _, _]) H20.f8 Tryd.sizeOf24 rfl rfl rfl (ones_cons (by first | rfl | assumption) (ones_cons (by first | rfl | exact Rd.one ((H20).row_rd)) (ones_cons (by first | rfl | exact Rd.one ((H20.f2).row_rd)) ones_nil))) rfl rfl) ?_
                rintro _ w21 H21
                refine wl_val (r_assign rfl) (ltn rfl) ?_
                refine wl_nil ?_
                refine wq_block_normal ?_
                refine wq_join (_) (Sub.cons rfl (Sub.cons rfl (Sub.nil _))) (Sub.cons rfl (Sub.cons rfl (Sub.nil _))) (by (try dsimp only); exact ⟨_, _, _, _, _, _, _, _, _, _, H21.f9.right.f4.f8.f3.f6.f6.f6.f8.f8⟩)
            · (try simp only [beq_iff_eq, bne_iff_ne, ne_eq, decide_eq_true_eq, decide_eq_false_iff_not, beq_eq_false_iff_ne, bne_eq_false_iff_eq, Bool.not_eq_true', Bool.not_eq_false', Bool.not_eq_eq_eq_not, Bool.not_true, Bool.not_false, gt_iff_lt, ge_iff_le, Int.not_lt, Int.not_le] at h4)
              try (exfalso; first | contradiction | omega)
              all_goals
                
                refine wc_seq ?_
                refine wc_region ?_
                refine wl_val (r_eql rfl rfl) (ltn rfl) ?_
                refine wl_val (r_assign rfl) (ltn rfl) ?_
                refine wl_nil ?_
                refine wq_seq ?_
                refine wc_cond rfl (fun h5 => ?_) (fun h5 => ?_)
                · (try simp only [beq_iff_eq, bne_iff_ne, ne_eq, decide_eq_true_eq, decide_eq_false_iff_not, beq_eq_false_iff_ne, bne_eq_false_iff_eq, Bool.not_eq_true', Bool.not_eq_false', Bool.not_eq_eq_eq_not, Bool.not_true, Bool.not_false, gt_iff_lt, ge_iff_le, Int.not_lt, Int.not_le] at h5)
                  try (exfalso; first | contradiction | omega)
                  all_goals
                    
                    have H14d21 := H3.drew
                    have hS14d21 := Holds.kp (H14d21.f4.right.f4.f4.f4.f4)
                    refine wd_beginK [2, 6] hS14d21 (by kernel_rfl) (by kernel_rfl) rfl ?_
                    refine wd_takeT 0 rfl (by kernel_rfl) (by kernel_rfl) hS14d21 (fun _ => r_move rfl) (ltn rfl) ?_
                    refine wd_takeT 1 rfl (by kernel_rfl) (by kernel_rfl) hS14d21 (fun _ => (by first | exact r_field0 4 Tryd.underlying26 rfl rfl Tryd.sizeOf24 (by decide) rfl | exact r_field 4 Tryd.underlying26 rfl rfl Tryd.sizeOf24 (by decide) rfl)) (ltn rfl) ?_
                    refine wd_take 2 rfl (by kernel_rfl) (by kernel_rfl) hS14d21 (by decide) (fun W hW => r_load_part 4 (xs := [_, _, _]) Tryd.underlying24 rfl Tryd.sizeOf24 rfl rfl ((Kp.h hW).f3).get.2 rfl) (ltn rfl) ?_
                    refine wd_takeT 4 rfl (by kernel_rfl) (by kernel_rfl) hS14d21 (fun _ => r_move rfl) (ltn rfl) ?_
                    refine wd_takeT 5 rfl (by kernel_rfl) (by kernel_rfl) hS14d21 (fun _ => (by first | exact r_field0 4 Tryd.underlying26 rfl rfl Tryd.sizeOf24 (by decide) rfl | exact r_field 4 Tryd.underlying26 rfl rfl Tryd.sizeOf24 (by decide) rfl)) (ltn rfl) ?_
                    refine wd_take 6 rfl (by kernel_rfl) (by kernel_rfl) hS14d21 (by decide) (fun W hW => r_load_part 4 (xs := [_, _, _]) Tryd.underlying24 rfl Tryd.sizeOf24 rfl rfl ((Kp.h hW).f3).get.2 rfl) (ltn rfl) ?_
                    refine wd_eff 3 rfl (by kernel_rfl) (e_call (r_call rfl Tryd.func24 rfl rfl) (buf_apply_ret H14d21.f4 (fun W HW => hd _ (HW.right.right.right.right)) (fun W HW => hi _ (HW.right.right.right.right)))) (ltn rfl) ?_
                    rintro _ w22 ⟨rfl, H22⟩
                    have hS22n := Holds.kp (H22.f5.f5.f5.f5.f5)
                    refine keepK hS22n (fun W hW => (Kp.h hW).right.f4.f4.f4.f4) ?_
                    refine wd_eff 7 rfl (by kernel_rfl) (e_call (r_call rfl Tryd.func69 rfl rfl) (ref_apply_ret H22.f5 (fun W HW => hd _ (HW.right.right.right.right)) (fun W HW => hi _ (HW.right.right.right.right)) (by (try simp only [List.length_nil]); omega))) (ltn rfl) ?_
                    rintro _ w23 ⟨rfl, H23⟩
                    have hS23n := Holds.kp (H23.f5.f5.f5.f5.f5)
                    refine keepX hS23n (by kernel_rfl) ?_
                    refine wd_takeT 8 rfl (by kernel_rfl) (by kernel_rfl) hS23n (fun _ => r_assign rfl) (ltn rfl) ?_
                    refine wd_takeT 9 rfl (by kernel_rfl) (by kernel_rfl) hS23n (fun _ => r_assign rfl) (ltn rfl) ?_
                    have Hx24 := ((((H23.f5.right.f3.f4.f3.f4).rowi_nil (e := 21) (k := .i32) none).rowi_nil (e := 21) (k := .i32) none).rowi_nil (e := 21) (k := .i32) none).rowi_nil (e := 21) (k := .i32) none
                    refine wd_done (by kernel_rfl) ?_
                    refine wq_block_normal ?_
                    refine wq_join (_) (Sub.cons rfl (Sub.cons rfl (Sub.nil _))) (Sub.cons rfl (Sub.cons rfl (Sub.nil _))) (by (try dsimp only); exact ⟨_, _, _, _, _, _, _, _, _, _, Hx24.f6.f6.f8.f8.f8.f8.f8.f8⟩)
                · (try simp only [beq_iff_eq, bne_iff_ne, ne_eq, decide_eq_true_eq, decide_eq_false_iff_not, beq_eq_false_iff_ne, bne_eq_false_iff_eq, Bool.not_eq_true', Bool.not_eq_false', Bool.not_eq_eq_eq_not, Bool.not_true, Bool.not_false, gt_iff_lt, ge_iff_le, Int.not_lt, Int.not_le] at h5)
                  try (exfalso; first | contradiction | omega)
                  all_goals
                    
                    refine wc_seq ?_
                    refine wc_region ?_
                    refine wl_val (r_eql rfl rfl) (ltn rfl) ?_
                    refine wl_val (r_assign rfl) (ltn rfl) ?_
                    refine wl_nil ?_
                    refine wq_seq ?_
                    refine wc_cond rfl (fun h6 => ?_) (fun h6 => ?_)
                    · (try simp only [beq_iff_eq, bne_iff_ne, ne_eq, decide_eq_true_eq, decide_eq_false_iff_not, beq_eq_false_iff_ne, bne_eq_false_iff_eq, Bool.not_eq_true', Bool.not_eq_false', Bool.not_eq_eq_eq_not, Bool.not_true, Bool.not_false, gt_iff_lt, ge_iff_le, Int.not_lt, Int.not_le] at h6)
                      try (exfalso; first | contradiction | omega)
                      all_goals
                        
                        have H16d24 := H3.drew
                        have hS16d24 := Holds.kp (H16d24.f4.right.f4.f4.f4.f4)
                        refine wd_beginK [2, 6] hS16d24 (by kernel_rfl) (by kernel_rfl) rfl ?_
                        refine wd_takeT 0 rfl (by kernel_rfl) (by kernel_rfl) hS16d24 (fun _ => r_move rfl) (ltn rfl) ?_
                        refine wd_takeT 1 rfl (by kernel_rfl) (by kernel_rfl) hS16d24 (fun _ => (by first | exact r_field0 1 Tryd.underlying26 rfl rfl Tryd.sizeOf3 (by decide) rfl | exact r_field 1 Tryd.underlying26 rfl rfl Tryd.sizeOf3 (by decide) rfl)) (ltn rfl) ?_
                        refine wd_take 2 rfl (by kernel_rfl) (by kernel_rfl) hS16d24 (by decide) (fun W hW => r_load (plain_of Tryd.underlying3 rfl) rfl (cell_of_blk ((Kp.h hW).f3).get.2 rfl)) (ltn rfl) ?_
                        refine wd_takeT 4 rfl (by kernel_rfl) (by kernel_rfl) hS16d24 (fun _ => r_move rfl) (ltn rfl) ?_
                        refine wd_takeT 5 rfl (by kernel_rfl) (by kernel_rfl) hS16d24 (fun _ => (by first | exact r_field0 1 Tryd.underlying26 rfl rfl Tryd.sizeOf3 (by decide) rfl | exact r_field 1 Tryd.underlying26 rfl rfl Tryd.sizeOf3 (by decide) rfl)) (ltn rfl) ?_
                        refine wd_take 6 rfl (by kernel_rfl) (by kernel_rfl) hS16d24 (by decide) (fun W hW => r_load (plain_of Tryd.underlying3 rfl) rfl (cell_of_blk ((Kp.h hW).f3).get.2 rfl)) (ltn rfl) ?_
                        refine wd_eff 3 rfl (by kernel_rfl) (e_call (r_call rfl Tryd.func17 rfl rfl) (buf_move_ret H16d24.f4)) (ltn rfl) ?_
                        rintro _ w25 ⟨rfl, H25⟩
                        have hS25n := Holds.kp (H25.f5.f5.f5.f5.f5)
                        refine keepK hS25n (fun W hW => (Kp.h hW).right.f4.f4.f4.f4) ?_
                        refine wd_eff 7 rfl (by kernel_rfl) (e_call (r_call rfl Tryd.func18 rfl rfl) (ref_move_ret H25.f5)) (ltn rfl) ?_
                        rintro _ w26 ⟨rfl, H26⟩
                        have hS26n := Holds.kp (H26.f5.f5.f5.f5.f5)
                        refine keepX hS26n (by kernel_rfl) ?_
                        refine wd_takeT 8 rfl (by kernel_rfl) (by kernel_rfl) hS26n (fun _ => r_assign rfl) (ltn rfl) ?_
                        refine wd_takeT 9 rfl (by kernel_rfl) (by kernel_rfl) hS26n (fun _ => r_assign rfl) (ltn rfl) ?_
                        have Hx27 := ((((H26.f5.right.f3.f4.f3.f4).rowi_nil (e := 21) (k := .i32) none).rowi_nil (e := 21) (k := .i32) none).rowi_nil (e := 21) (k := .i32) none).rowi_nil (e := 21) (k := .i32) none
                        refine wd_done (by kernel_rfl) ?_
                        refine wq_block_normal ?_
                        refine wq_join (_) (Sub.cons rfl (Sub.cons rfl (Sub.nil _))) (Sub.cons rfl (Sub.cons rfl (Sub.nil _))) (by (try dsimp only); exact ⟨_, _, _, _, _, _, _, _, _, _, Hx27.f6.f6.f8.f8.f8.f8.f8.f8⟩)
                    · (try simp only [beq_iff_eq, bne_iff_ne, ne_eq, decide_eq_true_eq, decide_eq_false_iff_not, beq_eq_false_iff_ne, bne_eq_false_iff_eq, Bool.not_eq_true', Bool.not_eq_false', Bool.not_eq_eq_eq_not, Bool.not_true, Bool.not_false, gt_iff_lt, ge_iff_le, Int.not_lt, Int.not_le] at h6)
                      try (exfalso; first | contradiction | omega)
                      all_goals
                        
                        refine wc_seq ?_
                        refine wc_region ?_
                        refine wl_val (r_eql rfl rfl) (ltn rfl) ?_
                        refine wl_val (r_assign rfl) (ltn rfl) ?_
                        refine wl_nil ?_
                        refine wq_seq ?_
                        refine wc_cond rfl (fun h7 => ?_) (fun h7 => ?_)
                        · (try simp only [beq_iff_eq, bne_iff_ne, ne_eq, decide_eq_true_eq, decide_eq_false_iff_not, beq_eq_false_iff_ne, bne_eq_false_iff_eq, Bool.not_eq_true', Bool.not_eq_false', Bool.not_eq_eq_eq_not, Bool.not_true, Bool.not_false, gt_iff_lt, ge_iff_le, Int.not_lt, Int.not_le] at h7)
                          try (exfalso; first | contradiction | omega)
                          all_goals
                            
                            have H18d27 := H3.drew
                            have hS18d27 := Holds.kp (H18d27.f4.right.f4.f4.f4.f4)
                            refine wd_beginK [2, 6] hS18d27 (by kernel_rfl) (by kernel_rfl) rfl ?_
                            refine wd_takeT 0 rfl (by kernel_rfl) (by kernel_rfl) hS18d27 (fun _ => r_move rfl) (ltn rfl) ?_
                            refine wd_takeT 1 rfl (by kernel_rfl) (by kernel_rfl) hS18d27 (fun _ => (by first | exact r_field0 1 Tryd.underlying26 rfl rfl Tryd.sizeOf3 (by decide) rfl | exact r_field 1 Tryd.underlying26 rfl rfl Tryd.sizeOf3 (by decide) rfl)) (ltn rfl) ?_
                            refine wd_take 2 rfl (by kernel_rfl) (by kernel_rfl) hS18d27 (by decide) (fun W hW => r_load (plain_of Tryd.underlying3 rfl) rfl (cell_of_blk ((Kp.h hW).f3).get.2 rfl)) (ltn rfl) ?_
                            refine wd_takeT 4 rfl (by kernel_rfl) (by kernel_rfl) hS18d27 (fun _ => r_move rfl) (ltn rfl) ?_
                            refine wd_takeT 5 rfl (by kernel_rfl) (by kernel_rfl) hS18d27 (fun _ => (by first | exact r_field0 1 Tryd.underlying26 rfl rfl Tryd.sizeOf3 (by decide) rfl | exact r_field 1 Tryd.underlying26 rfl rfl Tryd.sizeOf3 (by decide) rfl)) (ltn rfl) ?_
                            refine wd_take 6 rfl (by kernel_rfl) (by kernel_rfl) hS18d27 (by decide) (fun W hW => r_load (plain_of Tryd.underlying3 rfl) rfl (cell_of_blk ((Kp.h hW).f3).get.2 rfl)) (ltn rfl) ?_
                            refine wd_eff 3 rfl (by kernel_rfl) (e_call (r_call rfl Tryd.func42 rfl rfl) (buf_setmark_ret H18d27.f4)) (ltn rfl) ?_
                            rintro _ w28 ⟨rfl, H28⟩
                            have hS28n := Holds.kp (H28.f5.f5.f5.f5.f5)
                            refine keepK hS28n (fun W hW => (Kp.h hW).right.f4.f4.f4.f4) ?_
                            refine wd_eff 7 rfl (by kernel_rfl) (e_call (r_call rfl Tryd.func70 rfl rfl) (ref_setmark_ret H28.f5)) (ltn rfl) ?_
                            rintro _ w29 ⟨rfl, H29⟩
                            have hS29n := Holds.kp (H29.f5.f5.f5.f5.f5)
                            refine keepX hS29n (by kernel_rfl) ?_
                            refine wd_takeT 8 rfl (by kernel_rfl) (by kernel_rfl) hS29n (fun _ => r_assign rfl) (ltn rfl) ?_
                            refine wd_takeT 9 rfl (by kernel_rfl) (by kernel_rfl) hS29n (fun _ => r_assign rfl) (ltn rfl) ?_
                            have Hx30 := ((((H29.f5.right.f3.f4.f3.f4).rowi_nil (e := 21) (k := .i32) none).rowi_nil (e := 21) (k := .i32) none).rowi_nil (e := 21) (k := .i32) none).rowi_nil (e := 21) (k := .i32) none
                            refine wd_done (by kernel_rfl) ?_
                            refine wq_block_normal ?_
                            refine wq_join (_) (Sub.cons rfl (Sub.cons rfl (Sub.nil _))) (Sub.cons rfl (Sub.cons rfl (Sub.nil _))) (by (try dsimp only); exact ⟨_, _, _, _, _, _, _, _, _, _, Hx30.f6.f6.f8.f8.f8.f8.f8.f8⟩)
                        · (try simp only [beq_iff_eq, bne_iff_ne, ne_eq, decide_eq_true_eq, decide_eq_false_iff_not, beq_eq_false_iff_ne, bne_eq_false_iff_eq, Bool.not_eq_true', Bool.not_eq_false', Bool.not_eq_eq_eq_not, Bool.not_true, Bool.not_false, gt_iff_lt, ge_iff_le, Int.not_lt, Int.not_le] at h7)
                          try (exfalso; first | contradiction | omega)
                          all_goals
                            
                            refine wc_seq ?_
                            refine wc_region ?_
                            refine wl_val (r_eql rfl rfl) (ltn rfl) ?_
                            refine wl_val (r_assign rfl) (ltn rfl) ?_
                            refine wl_nil ?_
                            refine wq_seq ?_
                            refine wc_cond rfl (fun h8 => ?_) (fun h8 => ?_)
                            · (try simp only [beq_iff_eq, bne_iff_ne, ne_eq, decide_eq_true_eq, decide_eq_false_iff_not, beq_eq_false_iff_ne, bne_eq_false_iff_eq, Bool.not_eq_true', Bool.not_eq_false', Bool.not_eq_eq_eq_not, Bool.not_true, Bool.not_false, gt_iff_lt, ge_iff_le, Int.not_lt, Int.not_le] at h8)
                              try (exfalso; first | contradiction | omega)
                              all_goals
                                
                                refine wc_region ?_
                                refine wl_val (r_move rfl) (ltn rfl) ?_
                                refine wl_eff (e_call (r_call rfl Tryd.func43 rfl rfl) (buf_swap_ret H3.f4)) (ltn rfl) ?_
                                rintro _ w31 ⟨rfl, H31⟩
                                refine wl_val (r_move rfl) (ltn rfl) ?_
                                refine wl_eff (e_call (r_call rfl Tryd.func71 rfl rfl) (ref_swap_ret H31.f5)) (ltn rfl) ?_
                                rintro _ w32 ⟨rfl, H32⟩
                                refine wl_val (r_assign rfl) (ltn rfl) ?_
                                refine wl_val (r_assign rfl) (ltn rfl) ?_
                                have Hx33 := ((((H32.f5.right.f3.f4.f3.f4).rowi_nil (e := 21) (k := .i32) none).rowi_nil (e := 21) (k := .i32) none).rowi_nil (e := 21) (k := .i32) none).rowi_nil (e := 21) (k := .i32) none
                                refine wl_nil ?_
                                refine wq_block_normal ?_
                                refine wq_join (_) (Sub.cons rfl (Sub.cons rfl (Sub.nil _))) (Sub.cons rfl (Sub.cons rfl (Sub.nil _))) (by (try dsimp only); exact ⟨_, _, _, _, _, _, _, _, _, _, Hx33.f6.f6.f8.f8.f8.f8.f8.f8⟩)
                            · (try simp only [beq_iff_eq, bne_iff_ne, ne_eq, decide_eq_true_eq, decide_eq_false_iff_not, beq_eq_false_iff_ne, bne_eq_false_iff_eq, Bool.not_eq_true', Bool.not_eq_false', Bool.not_eq_eq_eq_not, Bool.not_true, Bool.not_false, gt_iff_lt, ge_iff_le, Int.not_lt, Int.not_le] at h8)
                              try (exfalso; first | contradiction | omega)
                              all_goals
                                have Hx34 := ((((H3.f3.right.f2.f4.f4).rowi_nil (e := 21) (k := .i32) none).rowi_nil (e := 21) (k := .i32) none).rowi_nil (e := 21) (k := .i32) none).rowi_nil (e := 21) (k := .i32) none
                                refine wc_skip ?_
                                refine wq_block_normal ?_
                                refine wq_join (_) (Sub.cons rfl (Sub.cons rfl (Sub.nil _))) (Sub.cons rfl (Sub.cons rfl (Sub.nil _))) (by (try dsimp only); exact ⟨_, _, _, _, _, _, _, _, _, _, Hx34.f6.f6.f8.f8.f8.f8.f8.f8⟩)
end
end Go.Proofs.YtlldaaamdchkdaaDoor
