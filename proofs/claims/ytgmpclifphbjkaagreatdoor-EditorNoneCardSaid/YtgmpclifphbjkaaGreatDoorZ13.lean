import Derived.Test.YtgmpclifphbjkaaGreatDoorZ12
/- Texts of mine, joined: EdB. -/
section
/- Editors: a line begins; New, Start, Begin. -/
set_option linter.unusedSimpArgs false
set_option linter.unusedVariables false
namespace Go.Proofs.YtgmpclifphbjkaaGreatDoor
open Go.RowKit
section
variable {w0 w : World} {F : HP} {e p h pr : Nat} {s : EdS} {hl : List HLn} {base most m : Int} {v : Value} {l : List Int}
theorem Holds.umap_nil {b : Nat} (H : Holds w0 w (MapRep kI64 b (fun _ => none) • F)) : Holds w0 w (UMap b (fun _ => []) • F) :=
  Holds.mk_umap (D := []) (P := fun _ => 0) List.nodup_nil (fun _ _ => rfl) (by rw [upP_nil]; exact H.of_eq (by show _ = (_ • emp • _); rw [YtgmpclifphbjkaaGreatDoor.emp_sep]))
set_option maxHeartbeats 1000000 in
theorem ed_begins_ret {x0 x2 x3 x5 x6 x7 x8 x9 x10 x11 x12 x13 x14 x15 x16 x17 x18 x19 x20 x21 x22 x23 x24 x25 x26 x27 x28 x29 x30 x31 x32 x33 : Value} {E : List (List Int)} {a : Nat} (H : Holds w0 w (blk e (.cells (x0 :: .pointer (some ⟨pr, 0, none⟩) :: x2 :: x3 :: .int .i64 m :: x5 :: x6 :: x7 :: x8 :: x9 :: x10 :: x11 :: x12 :: x13 :: x14 :: x15 :: x16 :: x17 :: x18 :: x19 :: x20 :: x21 :: x22 :: x23 :: x24 :: x25 :: x26 :: x27 :: x28 :: x29 :: x30 :: x31 :: x32 :: x33 :: []).toArray 66 (0, 0)) • HistRep h hl base most • F)) (hr : FRdI w0 F .i32 v l) (hshort : l.length ≤ 1024) :
    Ret Tryz.prog 42 #[.pointer (some ⟨e, 0, none⟩), .pointer (some ⟨h, 0, none⟩), v] w fun _ w' => ∃ pb pw pt pm ph, Holds w0 w' (blk e (.cells (.pointer (some ⟨pb, 0, none⟩) :: .pointer (some ⟨pr, 0, none⟩) :: .pointer (some ⟨pw, 0, none⟩) :: .map (some pm) :: .int .i64 m :: .bool false :: .int .i64 0 :: .int .i64 0 :: .int .i64 0 :: .int .i64 0 :: .bool false :: .pointer (some ⟨ph, 0, none⟩) :: x12 :: .bool false :: .bool false :: .int .i64 (-1) :: x16 :: x17 :: x18 :: x19 :: x20 :: x21 :: x22 :: x23 :: x24 :: x25 :: x26 :: x27 :: x28 :: x29 :: x30 :: x31 :: x32 :: x33 :: []).toArray 66 (0, 0)) •
      BufRep pb l l.length (-1) • blk pw (.cells #[.int .i64 hl.length, .map (some pt)] 112 (0, 0)) • MapRep kI64 pt (fun _ => none) • UMap pm (fun _ => []) • HistRep ph hl base most • HistRep h hl base most • F) := by
  refine ret_enter Tryz.func42 rfl Tryz.ntmps42 (Nat.le_of_ble_eq_true rfl) ?_
  dsimp only [slots0, Nat.reduceAdd]
  refine wc_seq ?_
  refine wc_region ?_
  refine wl_val (r_move rfl) (ltn rfl) ?_
  refine wl_eff (e_call (r_call rfl Tryz.func79 rfl rfl) (buf_new_ret H (fun W HW => hr _ (HW.right.right)) hshort)) (ltn rfl) ?_
  rintro _ w1 ⟨p1, rfl, H1⟩
  refine wl_val (r_move rfl) (ltn rfl) ?_
  refine wl_val (r_extract rfl rfl) (ltn rfl) ?_
  refine wl_val (r_extract rfl rfl) (ltn rfl) ?_
  refine wl_val (r_assign rfl) (ltn rfl) ?_
  refine wl_val (r_assign rfl) (ltn rfl) ?_
  refine wl_nil ?_
  refine wq_seq ?_
  refine wc_seq ?_
  refine wc_region ?_
  refine wl_val (r_move rfl) (ltn rfl) ?_
  refine wl_val (r_move rfl) (ltn rfl) ?_
  refine wl_eff (e_call (r_call rfl Tryz.func40 rfl rfl) (hist_clone_ret H1.f3)) (ltn rfl) ?_
  rintro _ w2 ⟨q2, rfl, H2⟩
  refine wl_val (r_nil rfl) (ltn rfl) ?_
  refine wl_val (r_fieldA 11 Tryz.underlying66 rfl rfl Tryz.sizeOf24 (by decide) rfl (by first | exact Nat.zero_add _ | rfl)) (ltn rfl) ?_
  refine wl_eff0 (e_storeL 11 (l' := [_, _, _, _, _, _, _, _, _, _, _, _, _, _, _, _, _, _, _, _, _, _, _, _, _, _, _, _, _, _, _, _, _, _]) H2.f4 Tryz.sizeOf24 rfl rfl (by first | rfl | assumption) rfl rfl) ?_
  rintro _ w3 H3
  refine wl_nil ?_
  refine wq_seq ?_
  refine wc_seq ?_
  have H2d3 := H3.drew
  have hS2d3 := Holds.kp (H2d3.f3.right.f3.f3.f3)
  refine wd_beginK [6, 17] hS2d3 (by kernel_rfl) (by kernel_rfl) rfl ?_
  refine wd_takeT 0 rfl (by kernel_rfl) (by kernel_rfl) hS2d3 (fun _ => r_move rfl) (ltn rfl) ?_
  refine wd_takeT 1 rfl (by kernel_rfl) (by kernel_rfl) hS2d3 (fun _ => r_move rfl) (ltn rfl) ?_
  refine wd_takeT 2 rfl (by kernel_rfl) (by kernel_rfl) hS2d3 (fun _ => r_move rfl) (ltn rfl) ?_
  refine wd_takeT 3 rfl (by kernel_rfl) (by kernel_rfl) hS2d3 (fun _ => r_nil rfl) (ltn rfl) ?_
  refine wd_takeT 4 rfl (by kernel_rfl) (by kernel_rfl) hS2d3 (fun _ => r_fieldA 0 Tryz.underlying66 rfl rfl Tryz.sizeOf62 (by decide) rfl (by first | exact Nat.zero_add _ | rfl)) (ltn rfl) ?_
  refine wd_takeT 5 rfl (by kernel_rfl) (by kernel_rfl) hS2d3 (fun _ => r_fieldA 1 Tryz.underlying62 rfl rfl Tryz.sizeOf58 (by decide) rfl (by first | exact Nat.zero_add _ | rfl)) (ltn rfl) ?_
  refine wd_take 6 rfl (by kernel_rfl) (by kernel_rfl) hS2d3 (by decide) (fun W hW => r_load (plain_of Tryz.underlying58 rfl) rfl (cell_of_blk ((Kp.h hW)).get.2 rfl)) (ltn rfl) ?_
  refine wd_takeT 7 rfl (by kernel_rfl) (by kernel_rfl) hS2d3 (fun _ => r_move rfl) (ltn rfl) ?_
  refine wd_takeT 13 rfl (by kernel_rfl) (by kernel_rfl) hS2d3 (fun _ => r_move rfl) (ltn rfl) ?_
  refine wd_takeT 14 rfl (by kernel_rfl) (by kernel_rfl) hS2d3 (fun _ => r_nil rfl) (ltn rfl) ?_
  refine wd_takeT 15 rfl (by kernel_rfl) (by kernel_rfl) hS2d3 (fun _ => r_fieldA 0 Tryz.underlying66 rfl rfl Tryz.sizeOf62 (by decide) rfl (by first | exact Nat.zero_add _ | rfl)) (ltn rfl) ?_
  refine wd_takeT 16 rfl (by kernel_rfl) (by kernel_rfl) hS2d3 (fun _ => r_fieldA 4 Tryz.underlying62 rfl rfl Tryz.sizeOf3 (by decide) rfl (by first | exact Nat.zero_add _ | rfl)) (ltn rfl) ?_
  refine wd_take 17 rfl (by kernel_rfl) (by kernel_rfl) hS2d3 (by decide) (fun W hW => r_load (plain_of Tryz.underlying3 rfl) rfl (cell_of_blk ((Kp.h hW)).get.2 rfl)) (ltn rfl) ?_
  refine wd_three (i := 8) (j := 9) (k := 12) (by kernel_rfl) ?_ ?_ ?_
  · skip
    refine wdi_eff 8 rfl (by kernel_rfl) (e_call (r_call rfl Tryz.func75 rfl rfl) (hist_len_ret H2d3.f3)) (ltn rfl) ?_
    rintro _ w4 ⟨rfl, H4⟩
    have hS4n := Holds.kp (H4.f4.f4.f4.f4)
    refine keepK hS4n (fun W hW => (Kp.h hW).right.f3.f3.f3) ?_
    refine wd_two (i := 9) (j := 12) (by kernel_rfl) ?_ ?_
    · skip
      refine wdi_eff 9 rfl (by kernel_rfl) (e_makeMap (kInt .i64) H4) (ltn rfl) ?_
      rintro _ w5 ⟨b5, rfl, H5⟩
      have hS5n := Holds.kp (H5.f5.f5.f5.f5.f5)
      refine keepK hS5n (fun W hW => (Kp.h hW).right.f4.f4.f4.f4) ?_
      refine wd_takeT 10 rfl (by kernel_rfl) (by kernel_rfl) hS5n (fun _ => r_buildL (zl := [.int .i64 0, .map none]) (pl := [(0, 1), (1, 1)]) [_, _] Tryz.underlying112 Tryz.zeroValue112 rfl (fun w => by kernel_rfl) rfl (.one (by first | rfl | assumption) (.one (by first | rfl | assumption) .nil)) rfl) (ltn rfl) ?_
      refine wd_two (i := 11) (j := 12) (by kernel_rfl) ?_ ?_
      · skip
        refine wdi_eff 11 rfl (by kernel_rfl) (e_boxL (l := [_, _]) H5 rfl rfl) (ltn rfl) ?_
        rintro _ w6 ⟨b6, rfl, H6⟩
        have hS6n := Holds.kp (H6.f6.f6.f6.f6.f6.f6)
        refine keepK hS6n (fun W hW => (Kp.h hW).right.f5.f5.f5.f5.f5) ?_
        refine wd_eff 12 rfl (by kernel_rfl) (e_makeMap (kInt .i64) H6) (ltn rfl) ?_
        rintro _ w7 ⟨b7, rfl, H7⟩
        have hS7n := Holds.kp (H7.f7.f7.f7.f7.f7.f7.f7)
        refine keepK hS7n (fun W hW => (Kp.h hW).right.f6.f6.f6.f6.f6.f6) ?_
        refine wd_takeT 18 rfl (by kernel_rfl) (by kernel_rfl) hS7n (fun _ => r_buildL (zl := [.pointer none, .pointer none, .pointer none, .map none, .int .i64 0, .bool false, .int .i64 0, .int .i64 0, .int .i64 0, .int .i64 0, .bool false]) (pl := [(0, 1), (1, 1), (2, 1), (3, 1), (4, 1), (5, 1), (6, 1), (7, 1), (8, 1), (9, 1), (10, 1)]) [_, _, _, _, _, _, _, _, _, _, _] Tryz.underlying62 Tryz.zeroValue62 rfl (fun w => by kernel_rfl) rfl (.one (by first | rfl | assumption) (.one (by first | rfl | assumption) (.one (by first | rfl | assumption) (.one (by first | rfl | assumption) (.one (by first | rfl | assumption) (.zero (zs := [.bool false]) rfl (.zero (zs := [.int .i64 0]) rfl (.zero (zs := [.int .i64 0]) rfl (.zero (zs := [.int .i64 0]) rfl (.zero (zs := [.int .i64 0]) rfl (.zero (zs := [.bool false]) rfl .nil))))))))))) rfl) (ltn rfl) ?_
        refine wd_takeT 19 rfl (by kernel_rfl) (by kernel_rfl) hS7n (fun _ => r_nil rfl) (ltn rfl) ?_
        refine wd_takeT 20 rfl (by kernel_rfl) (by kernel_rfl) hS7n (fun _ => r_fieldA 0 Tryz.underlying66 rfl rfl Tryz.sizeOf62 (by decide) rfl (by first | exact Nat.zero_add _ | rfl)) (ltn rfl) ?_
        refine wd_eff0 21 rfl (by kernel_rfl) (e_storePL 0 (l' := [_, _, _, _, _, _, _, _, _, _, _, _, _, _, _, _, _, _, _, _, _, _, _, _, _, _, _, _, _, _, _, _, _, _]) (us := [_, _, _, _, _, _, _, _, _, _, _]) H7.f5 Tryz.sizeOf62 rfl rfl rfl (ones_cons (by first | rfl | assumption) (ones_cons (by first | rfl | assumption) (ones_cons (by first | rfl | assumption) (ones_cons (by first | rfl | assumption) (ones_cons (by first | rfl | assumption) (ones_cons (by first | rfl | assumption) (ones_cons (by first | rfl | assumption) (ones_cons (by first | rfl | assumption) (ones_cons (by first | rfl | assumption) (ones_cons (by first | rfl | assumption) (ones_cons (by first | rfl | assumption) ones_nil))))))))))) rfl rfl) ?_
        rintro _ w8 H8
        have hS8n := Holds.kp (H8.f7.f7.f7.f7.f7.f7.f7)
        refine keepX hS8n (by kernel_rfl) ?_
        refine wd_done (by kernel_rfl) ?_
        refine wq_seq ?_
        refine wc_region ?_
        refine wl_val (r_move rfl) (ltn rfl) ?_
        refine wl_val (r_move rfl) (ltn rfl) ?_
        refine wl_val (r_move rfl) (ltn rfl) ?_
        refine wl_val (r_nil rfl) (ltn rfl) ?_
        refine wl_val (r_fieldA 13 Tryz.underlying66 rfl rfl Tryz.sizeOf4 (by decide) rfl (by first | exact Nat.zero_add _ | rfl)) (ltn rfl) ?_
        refine wl_eff0 (e_storeL 13 (l' := [_, _, _, _, _, _, _, _, _, _, _, _, _, _, _, _, _, _, _, _, _, _, _, _, _, _, _, _, _, _, _, _, _, _]) H8 Tryz.sizeOf4 rfl rfl (by first | rfl | assumption) rfl rfl) ?_
        rintro _ w9 H9
        refine wl_val (r_nil rfl) (ltn rfl) ?_
        refine wl_val (r_fieldA 14 Tryz.underlying66 rfl rfl Tryz.sizeOf4 (by decide) rfl (by first | exact Nat.zero_add _ | rfl)) (ltn rfl) ?_
        refine wl_eff0 (e_storeL 14 (l' := [_, _, _, _, _, _, _, _, _, _, _, _, _, _, _, _, _, _, _, _, _, _, _, _, _, _, _, _, _, _, _, _, _, _]) H9 Tryz.sizeOf4 rfl rfl (by first | rfl | assumption) rfl rfl) ?_
        rintro _ w10 H10
        refine wl_val (r_nil rfl) (ltn rfl) ?_
        refine wl_val (r_fieldA 15 Tryz.underlying66 rfl rfl Tryz.sizeOf3 (by decide) rfl (by first | exact Nat.zero_add _ | rfl)) (ltn rfl) ?_
        refine wl_eff0 (e_storeL 15 (l' := [_, _, _, _, _, _, _, _, _, _, _, _, _, _, _, _, _, _, _, _, _, _, _, _, _, _, _, _, _, _, _, _, _, _]) H10 Tryz.sizeOf3 rfl rfl (by first | rfl | assumption) rfl rfl) ?_
        rintro _ w11 H11
        refine wl_nil ?_
        refine wq_end0 (.inr rfl) Tryz.results42 ?_
        have Ho12 := H11.f2
        have Hc13 := Ho12.umap_nil
        exact ⟨_, _, _, _, _, Hc13.f5.f6.f3.f6.f6.f7.f7⟩
      · skip
        refine wdi_eff 12 rfl (by kernel_rfl) (e_makeMap (kInt .i64) H5) (ltn rfl) ?_
        rintro _ w14 ⟨b14, rfl, H14⟩
        have hS14n := Holds.kp (H14.f6.f6.f6.f6.f6.f6)
        refine keepK hS14n (fun W hW => (Kp.h hW).right.f5.f5.f5.f5.f5) ?_
        refine wd_eff 11 rfl (by kernel_rfl) (e_boxL (l := [_, _]) H14 rfl rfl) (ltn rfl) ?_
        rintro _ w15 ⟨b15, rfl, H15⟩
        have hS15n := Holds.kp (H15.f7.f7.f7.f7.f7.f7.f7)
        refine keepK hS15n (fun W hW => (Kp.h hW).right.f6.f6.f6.f6.f6.f6) ?_
        refine wd_takeT 18 rfl (by kernel_rfl) (by kernel_rfl) hS15n (fun _ => r_buildL (zl := [.pointer none, .pointer none, .pointer none, .map none, .int .i64 0, .bool false, .int .i64 0, .int .i64 0, .int .i64 0, .int .i64 0, .bool false]) (pl := [(0, 1), (1, 1), (2, 1), (3, 1), (4, 1), (5, 1), (6, 1), (7, 1), (8, 1), (9, 1), (10, 1)]) [_, _, _, _, _, _, _, _, _, _, _] Tryz.underlying62 Tryz.zeroValue62 rfl (fun w => by kernel_rfl) rfl (.one (by first | rfl | assumption) (.one (by first | rfl | assumption) (.one (by first | rfl | assumption) (.one (by first | rfl | assumption) (.one (by first | rfl | assumption) (.zero (zs := [.bool false]) rfl (.zero (zs := [.int .i64 0]) rfl (.zero (zs := [.int .i64 0]) rfl (.zero (zs := [.int .i64 0]) rfl (.zero (zs := [.int .i64 0]) rfl (.zero (zs := [.bool false]) rfl .nil))))))))))) rfl) (ltn rfl) ?_
        refine wd_takeT 19 rfl (by kernel_rfl) (by kernel_rfl) hS15n (fun _ => r_nil rfl) (ltn rfl) ?_
        refine wd_takeT 20 rfl (by kernel_rfl) (by kernel_rfl) hS15n (fun _ => r_fieldA 0 Tryz.underlying66 rfl rfl Tryz.sizeOf62 (by decide) rfl (by first | exact Nat.zero_add _ | rfl)) (ltn rfl) ?_
        refine wd_eff0 21 rfl (by kernel_rfl) (e_storePL 0 (l' := [_, _, _, _, _, _, _, _, _, _, _, _, _, _, _, _, _, _, _, _, _, _, _, _, _, _, _, _, _, _, _, _, _, _]) (us := [_, _, _, _, _, _, _, _, _, _, _]) H15.f5 Tryz.sizeOf62 rfl rfl rfl (ones_cons (by first | rfl | assumption) (ones_cons (by first | rfl | assumption) (ones_cons (by first | rfl | assumption) (ones_cons (by first | rfl | assumption) (ones_cons (by first | rfl | assumption) (ones_cons (by first | rfl | assumption) (ones_cons (by first | rfl | assumption) (ones_cons (by first | rfl | assumption) (ones_cons (by first | rfl | assumption) (ones_cons (by first | rfl | assumption) (ones_cons (by first | rfl | assumption) ones_nil))))))))))) rfl rfl) ?_
        rintro _ w16 H16
        have hS16n := Holds.kp (H16.f7.f7.f7.f7.f7.f7.f7)
        refine keepX hS16n (by kernel_rfl) ?_
        refine wd_done (by kernel_rfl) ?_
        refine wq_seq ?_
        refine wc_region ?_
        refine wl_val (r_move rfl) (ltn rfl) ?_
        refine wl_val (r_move rfl) (ltn rfl) ?_
        refine wl_val (r_move rfl) (ltn rfl) ?_
        refine wl_val (r_nil rfl) (ltn rfl) ?_
        refine wl_val (r_fieldA 13 Tryz.underlying66 rfl rfl Tryz.sizeOf4 (by decide) rfl (by first | exact Nat.zero_add _ | rfl)) (ltn rfl) ?_
        refine wl_eff0 (e_storeL 13 (l' := [_, _, _, _, _, _, _, _, _, _, _, _, _, _, _, _, _, _, _, _, _, _, _, _, _, _, _, _, _, _, _, _, _, _]) H16 Tryz.sizeOf4 rfl rfl (by first | rfl | assumption) rfl rfl) ?_
        rintro _ w17 H17
        refine wl_val (r_nil rfl) (ltn rfl) ?_
        refine wl_val (r_fieldA 14 Tryz.underlying66 rfl rfl Tryz.sizeOf4 (by decide) rfl (by first | exact Nat.zero_add _ | rfl)) (ltn rfl) ?_
        refine wl_eff0 (e_storeL 14 (l' := [_, _, _, _, _, _, _, _, _, _, _, _, _, _, _, _, _, _, _, _, _, _, _, _, _, _, _, _, _, _, _, _, _, _]) H17 Tryz.sizeOf4 rfl rfl (by first | rfl | assumption) rfl rfl) ?_
        rintro _ w18 H18
        refine wl_val (r_nil rfl) (ltn rfl) ?_
        refine wl_val (r_fieldA 15 Tryz.underlying66 rfl rfl Tryz.sizeOf3 (by decide) rfl (by first | exact Nat.zero_add _ | rfl)) (ltn rfl) ?_
        refine wl_eff0 (e_storeL 15 (l' := [_, _, _, _, _, _, _, _, _, _, _, _, _, _, _, _, _, _, _, _, _, _, _, _, _, _, _, _, _, _, _, _, _, _]) H18 Tryz.sizeOf3 rfl rfl (by first | rfl | assumption) rfl rfl) ?_
        rintro _ w19 H19
        refine wl_nil ?_
        refine wq_end0 (.inr rfl) Tryz.results42 ?_
        have Ho20 := H19.f3
        have Hc21 := Ho20.umap_nil
        exact ⟨_, _, _, _, _, Hc21.f5.f6.f3.f6.f6.f7.f7⟩
    · skip
      refine wdi_eff 12 rfl (by kernel_rfl) (e_makeMap (kInt .i64) H4) (ltn rfl) ?_
      rintro _ w22 ⟨b22, rfl, H22⟩
      have hS22n := Holds.kp (H22.f5.f5.f5.f5.f5)
      refine keepK hS22n (fun W hW => (Kp.h hW).right.f4.f4.f4.f4) ?_
      refine wd_eff 9 rfl (by kernel_rfl) (e_makeMap (kInt .i64) H22) (ltn rfl) ?_
      rintro _ w23 ⟨b23, rfl, H23⟩
      have hS23n := Holds.kp (H23.f6.f6.f6.f6.f6.f6)
      refine keepK hS23n (fun W hW => (Kp.h hW).right.f5.f5.f5.f5.f5) ?_
      refine wd_takeT 10 rfl (by kernel_rfl) (by kernel_rfl) hS23n (fun _ => r_buildL (zl := [.int .i64 0, .map none]) (pl := [(0, 1), (1, 1)]) [_, _] Tryz.underlying112 Tryz.zeroValue112 rfl (fun w => by kernel_rfl) rfl (.one (by first | rfl | assumption) (.one (by first | rfl | assumption) .nil)) rfl) (ltn rfl) ?_
      refine wd_eff 11 rfl (by kernel_rfl) (e_boxL (l := [_, _]) H23 rfl rfl) (ltn rfl) ?_
      rintro _ w24 ⟨b24, rfl, H24⟩
      have hS24n := Holds.kp (H24.f7.f7.f7.f7.f7.f7.f7)
      refine keepK hS24n (fun W hW => (Kp.h hW).right.f6.f6.f6.f6.f6.f6) ?_
      refine wd_takeT 18 rfl (by kernel_rfl) (by kernel_rfl) hS24n (fun _ => r_buildL (zl := [.pointer none, .pointer none, .pointer none, .map none, .int .i64 0, .bool false, .int .i64 0, .int .i64 0, .int .i64 0, .int .i64 0, .bool false]) (pl := [(0, 1), (1, 1), (2, 1), (3, 1), (4, 1), (5, 1), (6, 1), (7, 1), (8, 1), (9, 1), (10, 1)]) [_, _, _, _, _, _, _, _, _, _, _] Tryz.underlying62 Tryz.zeroValue62 rfl (fun w => by kernel_rfl) rfl (.one (by first | rfl | assumption) (.one (by first | rfl | assumption) (.one (by first | rfl | assumption) (.one (by first | rfl | assumption) (.one (by first | rfl | assumption) (.zero (zs := [.bool false]) rfl (.zero (zs := [.int .i64 0]) rfl (.zero (zs := [.int .i64 0]) rfl (.zero (zs := [.int .i64 0]) rfl (.zero (zs := [.int .i64 0]) rfl (.zero (zs := [.bool false]) rfl .nil))))))))))) rfl) (ltn rfl) ?_
      refine wd_takeT 19 rfl (by kernel_rfl) (by kernel_rfl) hS24n (fun _ => r_nil rfl) (ltn rfl) ?_
      refine wd_takeT 20 rfl (by kernel_rfl) (by kernel_rfl) hS24n (fun _ => r_fieldA 0 Tryz.underlying66 rfl rfl Tryz.sizeOf62 (by decide) rfl (by first | exact Nat.zero_add _ | rfl)) (ltn rfl) ?_
      refine wd_eff0 21 rfl (by kernel_rfl) (e_storePL 0 (l' := [_, _, _, _, _, _, _, _, _, _, _, _, _, _, _, _, _, _, _, _, _, _, _, _, _, _, _, _, _, _, _, _, _, _]) (us := [_, _, _, _, _, _, _, _, _, _, _]) H24.f5 Tryz.sizeOf62 rfl rfl rfl (ones_cons (by first | rfl | assumption) (ones_cons (by first | rfl | assumption) (ones_cons (by first | rfl | assumption) (ones_cons (by first | rfl | assumption) (ones_cons (by first | rfl | assumption) (ones_cons (by first | rfl | assumption) (ones_cons (by first | rfl | assumption) (ones_cons (by first | rfl | assumption) (ones_cons (by first | rfl | assumption) (ones_cons (by first | rfl | assumption) (ones_cons (by first | rfl | assumption) ones_nil))))))))))) rfl rfl) ?_
      rintro _ w25 H25
      have hS25n := Holds.kp (H25.f7.f7.f7.f7.f7.f7.f7)
      refine keepX hS25n (by kernel_rfl) ?_
      refine wd_done (by kernel_rfl) ?_
      refine wq_seq ?_
      refine wc_region ?_
      refine wl_val (r_move rfl) (ltn rfl) ?_
      refine wl_val (r_move rfl) (ltn rfl) ?_
      refine wl_val (r_move rfl) (ltn rfl) ?_
      refine wl_val (r_nil rfl) (ltn rfl) ?_
      refine wl_val (r_fieldA 13 Tryz.underlying66 rfl rfl Tryz.sizeOf4 (by decide) rfl (by first | exact Nat.zero_add _ | rfl)) (ltn rfl) ?_
      refine wl_eff0 (e_storeL 13 (l' := [_, _, _, _, _, _, _, _, _, _, _, _, _, _, _, _, _, _, _, _, _, _, _, _, _, _, _, _, _, _, _, _, _, _]) H25 Tryz.sizeOf4 rfl rfl (by first | rfl | assumption) rfl rfl) ?_
      rintro _ w26 H26
      refine wl_val (r_nil rfl) (ltn rfl) ?_
      refine wl_val (r_fieldA 14 Tryz.underlying66 rfl rfl Tryz.sizeOf4 (by decide) rfl (by first | exact Nat.zero_add _ | rfl)) (ltn rfl) ?_
      refine wl_eff0 (e_storeL 14 (l' := [_, _, _, _, _, _, _, _, _, _, _, _, _, _, _, _, _, _, _, _, _, _, _, _, _, _, _, _, _, _, _, _, _, _]) H26 Tryz.sizeOf4 rfl rfl (by first | rfl | assumption) rfl rfl) ?_
      rintro _ w27 H27
      refine wl_val (r_nil rfl) (ltn rfl) ?_
      refine wl_val (r_fieldA 15 Tryz.underlying66 rfl rfl Tryz.sizeOf3 (by decide) rfl (by first | exact Nat.zero_add _ | rfl)) (ltn rfl) ?_
      refine wl_eff0 (e_storeL 15 (l' := [_, _, _, _, _, _, _, _, _, _, _, _, _, _, _, _, _, _, _, _, _, _, _, _, _, _, _, _, _, _, _, _, _, _]) H27 Tryz.sizeOf3 rfl rfl (by first | rfl | assumption) rfl rfl) ?_
      rintro _ w28 H28
      refine wl_nil ?_
      refine wq_end0 (.inr rfl) Tryz.results42 ?_
      have Ho29 := H28.f4
      have Hc30 := Ho29.umap_nil
      exact ⟨_, _, _, _, _, Hc30.f5.f6.f3.f6.f6.f7.f7⟩
  · skip
    refine wdi_eff 9 rfl (by kernel_rfl) (e_makeMap (kInt .i64) H2d3) (ltn rfl) ?_
    rintro _ w31 ⟨b31, rfl, H31⟩
    have hS31n := Holds.kp (H31.f4.right.f4.f4.f4.f4)
    refine keepK hS31n (fun W hW => (Kp.h hW).right.f3.f3.f3) ?_
    refine wd_two (i := 8) (j := 12) (by kernel_rfl) ?_ ?_
    · skip
      refine wdi_eff 8 rfl (by kernel_rfl) (e_call (r_call rfl Tryz.func75 rfl rfl) (hist_len_ret H31.f4)) (ltn rfl) ?_
      rintro _ w32 ⟨rfl, H32⟩
      have hS32n := Holds.kp (H32.f5.f5.f5.f5.f5)
      refine keepK hS32n (fun W hW => (Kp.h hW).right.f4.f4.f4.f4) ?_
      refine wd_takeT 10 rfl (by kernel_rfl) (by kernel_rfl) hS32n (fun _ => r_buildL (zl := [.int .i64 0, .map none]) (pl := [(0, 1), (1, 1)]) [_, _] Tryz.underlying112 Tryz.zeroValue112 rfl (fun w => by kernel_rfl) rfl (.one (by first | rfl | assumption) (.one (by first | rfl | assumption) .nil)) rfl) (ltn rfl) ?_
      refine wd_two (i := 11) (j := 12) (by kernel_rfl) ?_ ?_
      · skip
        refine wdi_eff 11 rfl (by kernel_rfl) (e_boxL (l := [_, _]) H32 rfl rfl) (ltn rfl) ?_
        rintro _ w33 ⟨b33, rfl, H33⟩
        have hS33n := Holds.kp (H33.f6.f6.f6.f6.f6.f6)
        refine keepK hS33n (fun W hW => (Kp.h hW).right.f5.f5.f5.f5.f5) ?_
        refine wd_eff 12 rfl (by kernel_rfl) (e_makeMap (kInt .i64) H33) (ltn rfl) ?_
        rintro _ w34 ⟨b34, rfl, H34⟩
        have hS34n := Holds.kp (H34.f7.f7.f7.f7.f7.f7.f7)
        refine keepK hS34n (fun W hW => (Kp.h hW).right.f6.f6.f6.f6.f6.f6) ?_
        refine wd_takeT 18 rfl (by kernel_rfl) (by kernel_rfl) hS34n (fun _ => r_buildL (zl := [.pointer none, .pointer none, .pointer none, .map none, .int .i64 0, .bool false, .int .i64 0, .int .i64 0, .int .i64 0, .int .i64 0, .bool false]) (pl := [(0, 1), (1, 1), (2, 1), (3, 1), (4, 1), (5, 1), (6, 1), (7, 1), (8, 1), (9, 1), (10, 1)]) [_, _, _, _, _, _, _, _, _, _, _] Tryz.underlying62 Tryz.zeroValue62 rfl (fun w => by kernel_rfl) rfl (.one (by first | rfl | assumption) (.one (by first | rfl | assumption) (.one (by first | rfl | assumption) (.one (by first | rfl | assumption) (.one (by first | rfl | assumption) (.zero (zs := [.bool false]) rfl (.zero (zs := [.int .i64 0]) rfl (.zero (zs := [.int .i64 0]) rfl (.zero (zs := [.int .i64 0]) rfl (.zero (zs := [.int .i64 0]) rfl (.zero (zs := [.bool false]) rfl .nil))))))))))) rfl) (ltn rfl) ?_
        refine wd_takeT 19 rfl (by kernel_rfl) (by kernel_rfl) hS34n (fun _ => r_nil rfl) (ltn rfl) ?_
        refine wd_takeT 20 rfl (by kernel_rfl) (by kernel_rfl) hS34n (fun _ => r_fieldA 0 Tryz.underlying66 rfl rfl Tryz.sizeOf62 (by decide) rfl (by first | exact Nat.zero_add _ | rfl)) (ltn rfl) ?_
        refine wd_eff0 21 rfl (by kernel_rfl) (e_storePL 0 (l' := [_, _, _, _, _, _, _, _, _, _, _, _, _, _, _, _, _, _, _, _, _, _, _, _, _, _, _, _, _, _, _, _, _, _]) (us := [_, _, _, _, _, _, _, _, _, _, _]) H34.f5 Tryz.sizeOf62 rfl rfl rfl (ones_cons (by first | rfl | assumption) (ones_cons (by first | rfl | assumption) (ones_cons (by first | rfl | assumption) (ones_cons (by first | rfl | assumption) (ones_cons (by first | rfl | assumption) (ones_cons (by first | rfl | assumption) (ones_cons (by first | rfl | assumption) (ones_cons (by first | rfl | assumption) (ones_cons (by first | rfl | assumption) (ones_cons (by first | rfl | assumption) (ones_cons (by first | rfl | assumption) ones_nil))))))))))) rfl rfl) ?_
        rintro _ w35 H35
        have hS35n := Holds.kp (H35.f7.f7.f7.f7.f7.f7.f7)
        refine keepX hS35n (by kernel_rfl) ?_
        refine wd_done (by kernel_rfl) ?_
        refine wq_seq ?_
        refine wc_region ?_
        refine wl_val (r_move rfl) (ltn rfl) ?_
        refine wl_val (r_move rfl) (ltn rfl) ?_
        refine wl_val (r_move rfl) (ltn rfl) ?_
        refine wl_val (r_nil rfl) (ltn rfl) ?_
        refine wl_val (r_fieldA 13 Tryz.underlying66 rfl rfl Tryz.sizeOf4 (by decide) rfl (by first | exact Nat.zero_add _ | rfl)) (ltn rfl) ?_
        refine wl_eff0 (e_storeL 13 (l' := [_, _, _, _, _, _, _, _, _, _, _, _, _, _, _, _, _, _, _, _, _, _, _, _, _, _, _, _, _, _, _, _, _, _]) H35 Tryz.sizeOf4 rfl rfl (by first | rfl | assumption) rfl rfl) ?_
        rintro _ w36 H36
        refine wl_val (r_nil rfl) (ltn rfl) ?_
        refine wl_val (r_fieldA 14 Tryz.underlying66 rfl rfl Tryz.sizeOf4 (by decide) rfl (by first | exact Nat.zero_add _ | rfl)) (ltn rfl) ?_
        refine wl_eff0 (e_storeL 14 (l' := [_, _, _, _, _, _, _, _, _, _, _, _, _, _, _, _, _, _, _, _, _, _, _, _, _, _, _, _, _, _, _, _, _, _]) H36 Tryz.sizeOf4 rfl rfl (by first | rfl | assumption) rfl rfl) ?_
        rintro _ w37 H37
        refine wl_val (r_nil rfl) (ltn rfl) ?_
        refine wl_val (r_fieldA 15 Tryz.underlying66 rfl rfl Tryz.sizeOf3 (by decide) rfl (by first | exact Nat.zero_add _ | rfl)) (ltn rfl) ?_
        refine wl_eff0 (e_storeL 15 (l' := [_, _, _, _, _, _, _, _, _, _, _, _, _, _, _, _, _, _, _, _, _, _, _, _, _, _, _, _, _, _, _, _, _, _]) H37 Tryz.sizeOf3 rfl rfl (by first | rfl | assumption) rfl rfl) ?_
        rintro _ w38 H38
        refine wl_nil ?_
        refine wq_end0 (.inr rfl) Tryz.results42 ?_
        have Ho39 := H38.f2
        have Hc40 := Ho39.umap_nil
        exact ⟨_, _, _, _, _, Hc40.f4.f6.f3.f6.f6.f7.f7⟩
      · skip
        refine wdi_eff 12 rfl (by kernel_rfl) (e_makeMap (kInt .i64) H32) (ltn rfl) ?_
        rintro _ w41 ⟨b41, rfl, H41⟩
        have hS41n := Holds.kp (H41.f6.f6.f6.f6.f6.f6)
        refine keepK hS41n (fun W hW => (Kp.h hW).right.f5.f5.f5.f5.f5) ?_
        refine wd_eff 11 rfl (by kernel_rfl) (e_boxL (l := [_, _]) H41 rfl rfl) (ltn rfl) ?_
        rintro _ w42 ⟨b42, rfl, H42⟩
        have hS42n := Holds.kp (H42.f7.f7.f7.f7.f7.f7.f7)
        refine keepK hS42n (fun W hW => (Kp.h hW).right.f6.f6.f6.f6.f6.f6) ?_
        refine wd_takeT 18 rfl (by kernel_rfl) (by kernel_rfl) hS42n (fun _ => r_buildL (zl := [.pointer none, .pointer none, .pointer none, .map none, .int .i64 0, .bool false, .int .i64 0, .int .i64 0, .int .i64 0, .int .i64 0, .bool false]) (pl := [(0, 1), (1, 1), (2, 1), (3, 1), (4, 1), (5, 1), (6, 1), (7, 1), (8, 1), (9, 1), (10, 1)]) [_, _, _, _, _, _, _, _, _, _, _] Tryz.underlying62 Tryz.zeroValue62 rfl (fun w => by kernel_rfl) rfl (.one (by first | rfl | assumption) (.one (by first | rfl | assumption) (.one (by first | rfl | assumption) (.one (by first | rfl | assumption) (.one (by first | rfl | assumption) (.zero (zs := [.bool false]) rfl (.zero (zs := [.int .i64 0]) rfl (.zero (zs := [.int .i64 0]) rfl (.zero (zs := [.int .i64 0]) rfl (.zero (zs := [.int .i64 0]) rfl (.zero (zs := [.bool false]) rfl .nil))))))))))) rfl) (ltn rfl) ?_
        refine wd_takeT 19 rfl (by kernel_rfl) (by kernel_rfl) hS42n (fun _ => r_nil rfl) (ltn rfl) ?_
        refine wd_takeT 20 rfl (by kernel_rfl) (by kernel_rfl) hS42n (fun _ => r_fieldA 0 Tryz.underlying66 rfl rfl Tryz.sizeOf62 (by decide) rfl (by first | exact Nat.zero_add _ | rfl)) (ltn rfl) ?_
        refine wd_eff0 21 rfl (by kernel_rfl) (e_storePL 0 (l' := [_, _, _, _, _, _, _, _, _, _, _, _, _, _, _, _, _, _, _, _, _, _, _, _, _, _, _, _, _, _, _, _, _, _]) (us := [_, _, _, _, _, _, _, _, _, _, _]) H42.f5 Tryz.sizeOf62 rfl rfl rfl (ones_cons (by first | rfl | assumption) (ones_cons (by first | rfl | assumption) (ones_cons (by first | rfl | assumption) (ones_cons (by first | rfl | assumption) (ones_cons (by first | rfl | assumption) (ones_cons (by first | rfl | assumption) (ones_cons (by first | rfl | assumption) (ones_cons (by first | rfl | assumption) (ones_cons (by first | rfl | assumption) (ones_cons (by first | rfl | assumption) (ones_cons (by first | rfl | assumption) ones_nil))))))))))) rfl rfl) ?_
        rintro _ w43 H43
        have hS43n := Holds.kp (H43.f7.f7.f7.f7.f7.f7.f7)
        refine keepX hS43n (by kernel_rfl) ?_
        refine wd_done (by kernel_rfl) ?_
        refine wq_seq ?_
        refine wc_region ?_
        refine wl_val (r_move rfl) (ltn rfl) ?_
        refine wl_val (r_move rfl) (ltn rfl) ?_
        refine wl_val (r_move rfl) (ltn rfl) ?_
        refine wl_val (r_nil rfl) (ltn rfl) ?_
        refine wl_val (r_fieldA 13 Tryz.underlying66 rfl rfl Tryz.sizeOf4 (by decide) rfl (by first | exact Nat.zero_add _ | rfl)) (ltn rfl) ?_
        refine wl_eff0 (e_storeL 13 (l' := [_, _, _, _, _, _, _, _, _, _, _, _, _, _, _, _, _, _, _, _, _, _, _, _, _, _, _, _, _, _, _, _, _, _]) H43 Tryz.sizeOf4 rfl rfl (by first | rfl | assumption) rfl rfl) ?_
        rintro _ w44 H44
        refine wl_val (r_nil rfl) (ltn rfl) ?_
        refine wl_val (r_fieldA 14 Tryz.underlying66 rfl rfl Tryz.sizeOf4 (by decide) rfl (by first | exact Nat.zero_add _ | rfl)) (ltn rfl) ?_
        refine wl_eff0 (e_storeL 14 (l' := [_, _, _, _, _, _, _, _, _, _, _, _, _, _, _, _, _, _, _, _, _, _, _, _, _, _, _, _, _, _, _, _, _, _]) H44 Tryz.sizeOf4 rfl rfl (by first | rfl | assumption) rfl rfl) ?_
        rintro _ w45 H45
        refine wl_val (r_nil rfl) (ltn rfl) ?_
        refine wl_val (r_fieldA 15 Tryz.underlying66 rfl rfl Tryz.sizeOf3 (by decide) rfl (by first | exact Nat.zero_add _ | rfl)) (ltn rfl) ?_
        refine wl_eff0 (e_storeL 15 (l' := [_, _, _, _, _, _, _, _, _, _, _, _, _, _, _, _, _, _, _, _, _, _, _, _, _, _, _, _, _, _, _, _, _, _]) H45 Tryz.sizeOf3 rfl rfl (by first | rfl | assumption) rfl rfl) ?_
        rintro _ w46 H46
        refine wl_nil ?_
        refine wq_end0 (.inr rfl) Tryz.results42 ?_
        have Ho47 := H46.f3
        have Hc48 := Ho47.umap_nil
        exact ⟨_, _, _, _, _, Hc48.f4.f6.f3.f6.f6.f7.f7⟩
    · skip
      refine wdi_eff 12 rfl (by kernel_rfl) (e_makeMap (kInt .i64) H31) (ltn rfl) ?_
      rintro _ w49 ⟨b49, rfl, H49⟩
      have hS49n := Holds.kp (H49.f5.right.f5.f5.f5.f5.f5)
      refine keepK hS49n (fun W hW => (Kp.h hW).right.f4.f4.f4.f4) ?_
      refine wd_eff 8 rfl (by kernel_rfl) (e_call (r_call rfl Tryz.func75 rfl rfl) (hist_len_ret H49.f5)) (ltn rfl) ?_
      rintro _ w50 ⟨rfl, H50⟩
      have hS50n := Holds.kp (H50.f6.f6.f6.f6.f6.f6)
      refine keepK hS50n (fun W hW => (Kp.h hW).right.f5.f5.f5.f5.f5) ?_
      refine wd_takeT 10 rfl (by kernel_rfl) (by kernel_rfl) hS50n (fun _ => r_buildL (zl := [.int .i64 0, .map none]) (pl := [(0, 1), (1, 1)]) [_, _] Tryz.underlying112 Tryz.zeroValue112 rfl (fun w => by kernel_rfl) rfl (.one (by first | rfl | assumption) (.one (by first | rfl | assumption) .nil)) rfl) (ltn rfl) ?_
      refine wd_eff 11 rfl (by kernel_rfl) (e_boxL (l := [_, _]) H50 rfl rfl) (ltn rfl) ?_
      rintro _ w51 ⟨b51, rfl, H51⟩
      have hS51n := Holds.kp (H51.f7.f7.f7.f7.f7.f7.f7)
      refine keepK hS51n (fun W hW => (Kp.h hW).right.f6.f6.f6.f6.f6.f6) ?_
      refine wd_takeT 18 rfl (by kernel_rfl) (by kernel_rfl) hS51n (fun _ => r_buildL (zl := [.pointer none, .pointer none, .pointer none, .map none, .int .i64 0, .bool false, .int .i64 0, .int .i64 0, .int .i64 0, .int .i64 0, .bool false]) (pl := [(0, 1), (1, 1), (2, 1), (3, 1), (4, 1), (5, 1), (6, 1), (7, 1), (8, 1), (9, 1), (10, 1)]) [_, _, _, _, _, _, _, _, _, _, _] Tryz.underlying62 Tryz.zeroValue62 rfl (fun w => by kernel_rfl) rfl (.one (by first | rfl | assumption) (.one (by first | rfl | assumption) (.one (by first | rfl | assumption) (.one (by first | rfl | assumption) (.one (by first | rfl | assumption) (.zero (zs := [.bool false]) rfl (.zero (zs := [.int .i64 0]) rfl (.zero (zs := [.int .i64 0]) rfl (.zero (zs := [.int .i64 0]) rfl (.zero (zs := [.int .i64 0]) rfl (.zero (zs := [.bool false]) rfl .nil))))))))))) rfl) (ltn rfl) ?_
      refine wd_takeT 19 rfl (by kernel_rfl) (by kernel_rfl) hS51n (fun _ => r_nil rfl) (ltn rfl) ?_
      refine wd_takeT 20 rfl (by kernel_rfl) (by kernel_rfl) hS51n (fun _ => r_fieldA 0 Tryz.underlying66 rfl rfl Tryz.sizeOf62 (by decide) rfl (by first | exact Nat.zero_add _ | rfl)) (ltn rfl) ?_
      refine wd_eff0 21 rfl (by kernel_rfl) (e_storePL 0 (l' := [_, _, _, _, _, _, _, _, _, _, _, _, _, _, _, _, _, _, _, _, _, _, _, _, _, _, _, _, _, _, _, _, _, _]) (us := [_, _, _, _, _, _, _, _, _, _, _]) H51.f5 Tryz.sizeOf62 rfl rfl rfl (ones_cons (by first | rfl | assumption) (ones_cons (by first | rfl | assumption) (ones_cons (by first | rfl | assumption) (ones_cons (by first | rfl | assumption) (ones_cons (by first | rfl | assumption) (ones_cons (by first | rfl | assumption) (ones_cons (by first | rfl | assumption) (ones_cons (by first | rfl | assumption) (ones_cons (by first | rfl | assumption) (ones_cons (by first | rfl | assumption) (ones_cons (by first | rfl | assumption) ones_nil))))))))))) rfl rfl) ?_
      rintro _ w52 H52
      have hS52n := Holds.kp (H52.f7.f7.f7.f7.f7.f7.f7)
      refine keepX hS52n (by kernel_rfl) ?_
      refine wd_done (by kernel_rfl) ?_
      refine wq_seq ?_
      refine wc_region ?_
      refine wl_val (r_move rfl) (ltn rfl) ?_
      refine wl_val (r_move rfl) (ltn rfl) ?_
      refine wl_val (r_move rfl) (ltn rfl) ?_
      refine wl_val (r_nil rfl) (ltn rfl) ?_
      refine wl_val (r_fieldA 13 Tryz.underlying66 rfl rfl Tryz.sizeOf4 (by decide) rfl (by first | exact Nat.zero_add _ | rfl)) (ltn rfl) ?_
      refine wl_eff0 (e_storeL 13 (l' := [_, _, _, _, _, _, _, _, _, _, _, _, _, _, _, _, _, _, _, _, _, _, _, _, _, _, _, _, _, _, _, _, _, _]) H52 Tryz.sizeOf4 rfl rfl (by first | rfl | assumption) rfl rfl) ?_
      rintro _ w53 H53
      refine wl_val (r_nil rfl) (ltn rfl) ?_
      refine wl_val (r_fieldA 14 Tryz.underlying66 rfl rfl Tryz.sizeOf4 (by decide) rfl (by first | exact Nat.zero_add _ | rfl)) (ltn rfl) ?_
      refine wl_eff0 (e_storeL 14 (l' := [_, _, _, _, _, _, _, _, _, _, _, _, _, _, _, _, _, _, _, _, _, _, _, _, _, _, _, _, _, _, _, _, _, _]) H53 Tryz.sizeOf4 rfl rfl (by first | rfl | assumption) rfl rfl) ?_
      rintro _ w54 H54
      refine wl_val (r_nil rfl) (ltn rfl) ?_
      refine wl_val (r_fieldA 15 Tryz.underlying66 rfl rfl Tryz.sizeOf3 (by decide) rfl (by first | exact Nat.zero_add _ | rfl)) (ltn rfl) ?_
      refine wl_eff0 (e_storeL 15 (l' := [_, _, _, _, _, _, _, _, _, _, _, _, _, _, _, _, _, _, _, _, _, _, _, _, _, _, _, _, _, _, _, _, _, _]) H54 Tryz.sizeOf3 rfl rfl (by first | rfl | assumption) rfl rfl) ?_
      rintro _ w55 H55
      refine wl_nil ?_
      refine wq_end0 (.inr rfl) Tryz.results42 ?_
      have Ho56 := H55.f4
      have Hc57 := Ho56.umap_nil
      exact ⟨_, _, _, _, _, Hc57.f4.f6.f3.f6.f6.f7.f7⟩
  · skip
    refine wdi_eff 12 rfl (by kernel_rfl) (e_makeMap (kInt .i64) H2d3) (ltn rfl) ?_
    rintro _ w58 ⟨b58, rfl, H58⟩
    have hS58n := Holds.kp (H58.f4.right.f4.f4.f4.f4)
    refine keepK hS58n (fun W hW => (Kp.h hW).right.f3.f3.f3) ?_
    refine wd_two (i := 8) (j := 9) (by kernel_rfl) ?_ ?_
    · skip
      refine wdi_eff 8 rfl (by kernel_rfl) (e_call (r_call rfl Tryz.func75 rfl rfl) (hist_len_ret H58.f4)) (ltn rfl) ?_
      rintro _ w59 ⟨rfl, H59⟩
      have hS59n := Holds.kp (H59.f5.f5.f5.f5.f5)
      refine keepK hS59n (fun W hW => (Kp.h hW).right.f4.f4.f4.f4) ?_
      refine wd_eff 9 rfl (by kernel_rfl) (e_makeMap (kInt .i64) H59) (ltn rfl) ?_
      rintro _ w60 ⟨b60, rfl, H60⟩
      have hS60n := Holds.kp (H60.f6.f6.f6.f6.f6.f6)
      refine keepK hS60n (fun W hW => (Kp.h hW).right.f5.f5.f5.f5.f5) ?_
      refine wd_takeT 10 rfl (by kernel_rfl) (by kernel_rfl) hS60n (fun _ => r_buildL (zl := [.int .i64 0, .map none]) (pl := [(0, 1), (1, 1)]) [_, _] Tryz.underlying112 Tryz.zeroValue112 rfl (fun w => by kernel_rfl) rfl (.one (by first | rfl | assumption) (.one (by first | rfl | assumption) .nil)) rfl) (ltn rfl) ?_
      refine wd_eff 11 rfl (by kernel_rfl) (e_boxL (l := [_, _]) H60 rfl rfl) (ltn rfl) ?_
      rintro _ w61 ⟨b61, rfl, H61⟩
      have hS61n := Holds.kp (H61.f7.f7.f7.f7.f7.f7.f7)
      refine keepK hS61n (fun W hW => (Kp.h hW).right.f6.f6.f6.f6.f6.f6) ?_
      refine wd_takeT 18 rfl (by kernel_rfl) (by kernel_rfl) hS61n (fun _ => r_buildL (zl := [.pointer none, .pointer none, .pointer none, .map none, .int .i64 0, .bool false, .int .i64 0, .int .i64 0, .int .i64 0, .int .i64 0, .bool false]) (pl := [(0, 1), (1, 1), (2, 1), (3, 1), (4, 1), (5, 1), (6, 1), (7, 1), (8, 1), (9, 1), (10, 1)]) [_, _, _, _, _, _, _, _, _, _, _] Tryz.underlying62 Tryz.zeroValue62 rfl (fun w => by kernel_rfl) rfl (.one (by first | rfl | assumption) (.one (by first | rfl | assumption) (.one (by first | rfl | assumption) (.one (by first | rfl | assumption) (.one (by first | rfl | assumption) (.zero (zs := [.bool false]) rfl (.zero (zs := [.int .i64 0]) rfl (.zero (zs := [.int .i64 0]) rfl (.zero (zs := [.int .i64 0]) rfl (.zero (zs := [.int .i64 0]) rfl (.zero (zs := [.bool false]) rfl .nil))))))))))) rfl) (ltn rfl) ?_
      refine wd_takeT 19 rfl (by kernel_rfl) (by kernel_rfl) hS61n (fun _ => r_nil rfl) (ltn rfl) ?_
      refine wd_takeT 20 rfl (by kernel_rfl) (by kernel_rfl) hS61n (fun _ => r_fieldA 0 Tryz.underlying66 rfl rfl Tryz.sizeOf62 (by decide) rfl (by first | exact Nat.zero_add _ | rfl)) (ltn rfl) ?_
      refine wd_eff0 21 rfl (by kernel_rfl) (e_storePL 0 (l' := [_, _, _, _, _, _, _, _, _, _, _, _, _, _, _, _, _, _, _, _, _, _, _, _, _, _, _, _, _, _, _, _, _, _]) (us := [_, _, _, _, _, _, _, _, _, _, _]) H61.f5 Tryz.sizeOf62 rfl rfl rfl (ones_cons (by first | rfl | assumption) (ones_cons (by first | rfl | assumption) (ones_cons (by first | rfl | assumption) (ones_cons (by first | rfl | assumption) (ones_cons (by first | rfl | assumption) (ones_cons (by first | rfl | assumption) (ones_cons (by first | rfl | assumption) (ones_cons (by first | rfl | assumption) (ones_cons (by first | rfl | assumption) (ones_cons (by first | rfl | assumption) (ones_cons (by first | rfl | assumption) ones_nil))))))))))) rfl rfl) ?_
      rintro _ w62 H62
      have hS62n := Holds.kp (H62.f7.f7.f7.f7.f7.f7.f7)
      refine keepX hS62n (by kernel_rfl) ?_
      refine wd_done (by kernel_rfl) ?_
      refine wq_seq ?_
      refine wc_region ?_
      refine wl_val (r_move rfl) (ltn rfl) ?_
      refine wl_val (r_move rfl) (ltn rfl) ?_
      refine wl_val (r_move rfl) (ltn rfl) ?_
      refine wl_val (r_nil rfl) (ltn rfl) ?_
      refine wl_val (r_fieldA 13 Tryz.underlying66 rfl rfl Tryz.sizeOf4 (by decide) rfl (by first | exact Nat.zero_add _ | rfl)) (ltn rfl) ?_
      refine wl_eff0 (e_storeL 13 (l' := [_, _, _, _, _, _, _, _, _, _, _, _, _, _, _, _, _, _, _, _, _, _, _, _, _, _, _, _, _, _, _, _, _, _]) H62 Tryz.sizeOf4 rfl rfl (by first | rfl | assumption) rfl rfl) ?_
      rintro _ w63 H63
      refine wl_val (r_nil rfl) (ltn rfl) ?_
      refine wl_val (r_fieldA 14 Tryz.underlying66 rfl rfl Tryz.sizeOf4 (by decide) rfl (by first | exact Nat.zero_add _ | rfl)) (ltn rfl) ?_
      refine wl_eff0 (e_storeL 14 (l' := [_, _, _, _, _, _, _, _, _, _, _, _, _, _, _, _, _, _, _, _, _, _, _, _, _, _, _, _, _, _, _, _, _, _]) H63 Tryz.sizeOf4 rfl rfl (by first | rfl | assumption) rfl rfl) ?_
      rintro _ w64 H64
      refine wl_val (r_nil rfl) (ltn rfl) ?_
      refine wl_val (r_fieldA 15 Tryz.underlying66 rfl rfl Tryz.sizeOf3 (by decide) rfl (by first | exact Nat.zero_add _ | rfl)) (ltn rfl) ?_
      refine wl_eff0 (e_storeL 15 (l' := [_, _, _, _, _, _, _, _, _, _, _, _, _, _, _, _, _, _, _, _, _, _, _, _, _, _, _, _, _, _, _, _, _, _]) H64 Tryz.sizeOf3 rfl rfl (by first | rfl | assumption) rfl rfl) ?_
      rintro _ w65 H65
      refine wl_nil ?_
      refine wq_end0 (.inr rfl) Tryz.results42 ?_
      have Ho66 := H65.f5
      have Hc67 := Ho66.umap_nil
      exact ⟨_, _, _, _, _, Hc67.f5.f6.f3.f6.f6.f7.f7⟩
    · skip
      refine wdi_eff 9 rfl (by kernel_rfl) (e_makeMap (kInt .i64) H58) (ltn rfl) ?_
      rintro _ w68 ⟨b68, rfl, H68⟩
      have hS68n := Holds.kp (H68.f5.right.f5.f5.f5.f5.f5)
      refine keepK hS68n (fun W hW => (Kp.h hW).right.f4.f4.f4.f4) ?_
      refine wd_eff 8 rfl (by kernel_rfl) (e_call (r_call rfl Tryz.func75 rfl rfl) (hist_len_ret H68.f5)) (ltn rfl) ?_
      rintro _ w69 ⟨rfl, H69⟩
      have hS69n := Holds.kp (H69.f6.f6.f6.f6.f6.f6)
      refine keepK hS69n (fun W hW => (Kp.h hW).right.f5.f5.f5.f5.f5) ?_
      refine wd_takeT 10 rfl (by kernel_rfl) (by kernel_rfl) hS69n (fun _ => r_buildL (zl := [.int .i64 0, .map none]) (pl := [(0, 1), (1, 1)]) [_, _] Tryz.underlying112 Tryz.zeroValue112 rfl (fun w => by kernel_rfl) rfl (.one (by first | rfl | assumption) (.one (by first | rfl | assumption) .nil)) rfl) (ltn rfl) ?_
      refine wd_eff 11 rfl (by kernel_rfl) (e_boxL (l := [_, _]) H69 rfl rfl) (ltn rfl) ?_
      rintro _ w70 ⟨b70, rfl, H70⟩
      have hS70n := Holds.kp (H70.f7.f7.f7.f7.f7.f7.f7)
      refine keepK hS70n (fun W hW => (Kp.h hW).right.f6.f6.f6.f6.f6.f6) ?_
      refine wd_takeT 18 rfl (by kernel_rfl) (by kernel_rfl) hS70n (fun _ => r_buildL (zl := [.pointer none, .pointer none, .pointer none, .map none, .int .i64 0, .bool false, .int .i64 0, .int .i64 0, .int .i64 0, .int .i64 0, .bool false]) (pl := [(0, 1), (1, 1), (2, 1), (3, 1), (4, 1), (5, 1), (6, 1), (7, 1), (8, 1), (9, 1), (10, 1)]) [_, _, _, _, _, _, _, _, _, _, _] Tryz.underlying62 Tryz.zeroValue62 rfl (fun w => by kernel_rfl) rfl (.one (by first | rfl | assumption) (.one (by first | rfl | assumption) (.one (by first | rfl | assumption) (.one (by first | rfl | assumption) (.one (by first | rfl | assumption) (.zero (zs := [.bool false]) rfl (.zero (zs := [.int .i64 0]) rfl (.zero (zs := [.int .i64 0]) rfl (.zero (zs := [.int .i64 0]) rfl (.zero (zs := [.int .i64 0]) rfl (.zero (zs := [.bool false]) rfl .nil))))))))))) rfl) (ltn rfl) ?_
      refine wd_takeT 19 rfl (by kernel_rfl) (by kernel_rfl) hS70n (fun _ => r_nil rfl) (ltn rfl) ?_
      refine wd_takeT 20 rfl (by kernel_rfl) (by kernel_rfl) hS70n (fun _ => r_fieldA 0 Tryz.underlying66 rfl rfl Tryz.sizeOf62 (by decide) rfl (by first | exact Nat.zero_add _ | rfl)) (ltn rfl) ?_
      refine wd_eff0 21 rfl (by kernel_rfl) (e_storePL 0 (l' := [_, _, _, _, _, _, _, _, _, _, _, _, _, _, _, _, _, _, _, _, _, _, _, _, _, _, _, _, _, _, _, _, _, _]) (us := [_, _, _, _, _, _, _, _, _, _, _]) H70.f5 Tryz.sizeOf62 rfl rfl rfl (ones_cons (by first | rfl | assumption) (ones_cons (by first | rfl | assumption) (ones_cons (by first | rfl | assumption) (ones_cons (by first | rfl | assumption) (ones_cons (by first | rfl | assumption) (ones_cons (by first | rfl | assumption) (ones_cons (by first | rfl | assumption) (ones_cons (by first | rfl | assumption) (ones_cons (by first | rfl | assumption) (ones_cons (by first | rfl | assumption) (ones_cons (by first | rfl | assumption) ones_nil))))))))))) rfl rfl) ?_
      rintro _ w71 H71
      have hS71n := Holds.kp (H71.f7.f7.f7.f7.f7.f7.f7)
      refine keepX hS71n (by kernel_rfl) ?_
      refine wd_done (by kernel_rfl) ?_
      refine wq_seq ?_
      refine wc_region ?_
      refine wl_val (r_move rfl) (ltn rfl) ?_
      refine wl_val (r_move rfl) (ltn rfl) ?_
      refine wl_val (r_move rfl) (ltn rfl) ?_
      refine wl_val (r_nil rfl) (ltn rfl) ?_
      refine wl_val (r_fieldA 13 Tryz.underlying66 rfl rfl Tryz.sizeOf4 (by decide) rfl (by first | exact Nat.zero_add _ | rfl)) (ltn rfl) ?_
      refine wl_eff0 (e_storeL 13 (l' := [_, _, _, _, _, _, _, _, _, _, _, _, _, _, _, _, _, _, _, _, _, _, _, _, _, _, _, _, _, _, _, _, _, _]) H71 Tryz.sizeOf4 rfl rfl (by first | rfl | assumption) rfl rfl) ?_
      rintro _ w72 H72
      refine wl_val (r_nil rfl) (ltn rfl) ?_
      refine wl_val (r_fieldA 14 Tryz.underlying66 rfl rfl Tryz.sizeOf4 (by decide) rfl (by first | exact Nat.zero_add _ | rfl)) (ltn rfl) ?_
      refine wl_eff0 (e_storeL 14 (l' := [_, _, _, _, _, _, _, _, _, _, _, _, _, _, _, _, _, _, _, _, _, _, _, _, _, _, _, _, _, _, _, _, _, _]) H72 Tryz.sizeOf4 rfl rfl (by first | rfl | assumption) rfl rfl) ?_
      rintro _ w73 H73
      refine wl_val (r_nil rfl) (ltn rfl) ?_
      refine wl_val (r_fieldA 15 Tryz.underlying66 rfl rfl Tryz.sizeOf3 (by decide) rfl (by first | exact Nat.zero_add _ | rfl)) (ltn rfl) ?_
      refine wl_eff0 (e_storeL 15 (l' := [_, _, _, _, _, _, _, _, _, _, _, _, _, _, _, _, _, _, _, _, _, _, _, _, _, _, _, _, _, _, _, _, _, _]) H73 Tryz.sizeOf3 rfl rfl (by first | rfl | assumption) rfl rfl) ?_
      rintro _ w74 H74
      refine wl_nil ?_
      refine wq_end0 (.inr rfl) Tryz.results42 ?_
      have Ho75 := H74.f5
      have Hc76 := Ho75.umap_nil
      exact ⟨_, _, _, _, _, Hc76.f4.f6.f3.f6.f6.f7.f7⟩
theorem Holds.was_no {c : CoreS} {u : List Value} (H : Holds w0 w F) : Holds w0 w (WasAt false c u • F) := by
  unfold WasAt
  rw [if_neg (by decide)]
  exact H.add_emp
theorem Holds.mk_was {pb pr pw pt pm : Nat} {c : CoreS} (H : Holds w0 w (BufRep pb c.L c.pt c.mark • RingRep pr c.E c.at_ • blk pw (.cells #[.int .i64 c.place, .map (some pt)] 112 (0, 0)) • MapRep kI64 pt (strF c.tx) • UMap pm c.un • F)) : Holds w0 w (WasAt true c (coreL pb pr pw pm c) • F) := by
  unfold WasAt
  rw [if_pos rfl]
  exact Holds.mk_ex_sep (pb, pr, pw, pt, pm) (Holds.deep (Holds.mk_fact rfl (H.of_eq (by unfold CoreAt; simp only [sep_assoc]))))
theorem Holds.was {c : CoreS} {u : List Value} (H : Holds w0 w (WasAt true c u • F)) : ∃ pb pr pw pt pm, u = coreL pb pr pw pm c ∧ Holds w0 w (BufRep pb c.L c.pt c.mark • RingRep pr c.E c.at_ • blk pw (.cells #[.int .i64 c.place, .map (some pt)] 112 (0, 0)) • MapRep kI64 pt (strF c.tx) • UMap pm c.un • F) := by
  unfold WasAt at H
  rw [if_pos rfl] at H
  obtain ⟨⟨pb, pr, pw, pt, pm⟩, H⟩ := H.ex_sep
  obtain ⟨h, H⟩ := H.flat.fact
  exact ⟨pb, pr, pw, pt, pm, h, H.of_eq (by unfold CoreAt; simp only [sep_assoc])⟩
/-- No edits are noted. -/
theorem Holds.mk_edP {pb pr pw pt pm ph bl : Nat} {u0 u1 u2 u3 u4 u5 u6 u7 u8 u9 ua : Value} (h1 : EdSOk s) (hp : s.put = []) (H : Holds w0 w (blk e (.cells (.pointer (some ⟨pb, 0, none⟩) :: .pointer (some ⟨pr, 0, none⟩) :: .pointer (some ⟨pw, 0, none⟩) :: .map (some pm) :: .int .i64 s.c.mode :: .bool s.c.over :: .int .i64 s.c.last :: .int .i64 s.c.fr :: .int .i64 s.c.to :: .int .i64 s.c.res :: .bool s.c.run :: .pointer (some ⟨ph, 0, none⟩) :: .pointer (some ⟨bl, 0, none⟩) :: .bool s.given :: .bool s.minus :: .int .i64 s.arg :: .bool s.inn :: u0 :: u1 :: u2 :: u3 :: u4 :: u5 :: u6 :: u7 :: u8 :: u9 :: ua :: .int .i64 s.cls :: .bool s.killed :: .bool s.yanked :: .bool s.argues :: .bool s.whole :: .slice none 0 0 :: []).toArray 66 (0, 0)) • BufRep pb s.c.L s.c.pt s.c.mark • RingRep pr s.c.E s.c.at_ • blk pw (.cells #[.int .i64 s.c.place, .map (some pt)] 112 (0, 0)) • MapRep kI64 pt (strF s.c.tx) • UMap pm s.c.un • HistRep ph s.hl s.base s.most • blk bl (.cells #[.int .i64 s.bells] 102 (0, 0)) • WasAt s.inn s.was [u0, u1, u2, u3, u4, u5, u6, u7, u8, u9, ua] • F)) : Holds w0 w (EdRep e s • F) := by
  refine Holds.mk_ed (pb := pb) (pr := pr) (pw := pw) (pt := pt) (pm := pm) (ph := ph) (bl := bl) (u0 := u0) (u1 := u1) (u2 := u2) (u3 := u3) (u4 := u4) (u5 := u5) (u6 := u6) (u7 := u7) (u8 := u8) (u9 := u9) (ua := ua) (pv := .slice none 0 0) (es := []) h1 (by rw [hp]; rfl) ?_
  rw [hp]
  exact (H.edL_nil none).of_eq (by unfold EdL; ac_rfl)
/-- .. and no command goes on. -/
theorem Holds.mk_edN {pb pr pw pt pm ph bl : Nat} {u0 u1 u2 u3 u4 u5 u6 u7 u8 u9 ua : Value} (h1 : EdSOk s) (hp : s.put = []) (hi : s.inn = false) (H : Holds w0 w (blk e (.cells (.pointer (some ⟨pb, 0, none⟩) :: .pointer (some ⟨pr, 0, none⟩) :: .pointer (some ⟨pw, 0, none⟩) :: .map (some pm) :: .int .i64 s.c.mode :: .bool s.c.over :: .int .i64 s.c.last :: .int .i64 s.c.fr :: .int .i64 s.c.to :: .int .i64 s.c.res :: .bool s.c.run :: .pointer (some ⟨ph, 0, none⟩) :: .pointer (some ⟨bl, 0, none⟩) :: .bool s.given :: .bool s.minus :: .int .i64 s.arg :: .bool false :: u0 :: u1 :: u2 :: u3 :: u4 :: u5 :: u6 :: u7 :: u8 :: u9 :: ua :: .int .i64 s.cls :: .bool s.killed :: .bool s.yanked :: .bool s.argues :: .bool s.whole :: .slice none 0 0 :: []).toArray 66 (0, 0)) • BufRep pb s.c.L s.c.pt s.c.mark • RingRep pr s.c.E s.c.at_ • blk pw (.cells #[.int .i64 s.c.place, .map (some pt)] 112 (0, 0)) • MapRep kI64 pt (strF s.c.tx) • UMap pm s.c.un • HistRep ph s.hl s.base s.most • blk bl (.cells #[.int .i64 s.bells] 102 (0, 0)) • F)) : Holds w0 w (EdRep e s • F) := by
  refine Holds.mk_edP (pb := pb) (pr := pr) (pw := pw) (pt := pt) (pm := pm) (ph := ph) (bl := bl) (u0 := u0) (u1 := u1) (u2 := u2) (u3 := u3) (u4 := u4) (u5 := u5) (u6 := u6) (u7 := u7) (u8 := u8) (u9 := u9) (ua := ua) h1 hp ?_
  rw [hi]
  exact (H.was_no (c := s.was) (u := [u0, u1, u2, u3, u4, u5, u6, u7, u8, u9, ua])).of_eq (by ac_rfl)
/-- The noted edits as one. -/
theorem Holds.mk_edL {pb pr pw pt pm ph bl : Nat} {u0 u1 u2 u3 u4 u5 u6 u7 u8 u9 ua : Value} {pv : Value} {es : List BEd} (h1 : EdSOk s) (h2 : es.map BEd.says = s.put) (H : Holds w0 w (EdL pv es • blk e (.cells (.pointer (some ⟨pb, 0, none⟩) :: .pointer (some ⟨pr, 0, none⟩) :: .pointer (some ⟨pw, 0, none⟩) :: .map (some pm) :: .int .i64 s.c.mode :: .bool s.c.over :: .int .i64 s.c.last :: .int .i64 s.c.fr :: .int .i64 s.c.to :: .int .i64 s.c.res :: .bool s.c.run :: .pointer (some ⟨ph, 0, none⟩) :: .pointer (some ⟨bl, 0, none⟩) :: .bool s.given :: .bool s.minus :: .int .i64 s.arg :: .bool s.inn :: u0 :: u1 :: u2 :: u3 :: u4 :: u5 :: u6 :: u7 :: u8 :: u9 :: ua :: .int .i64 s.cls :: .bool s.killed :: .bool s.yanked :: .bool s.argues :: .bool s.whole :: pv :: []).toArray 66 (0, 0)) • BufRep pb s.c.L s.c.pt s.c.mark • RingRep pr s.c.E s.c.at_ • blk pw (.cells #[.int .i64 s.c.place, .map (some pt)] 112 (0, 0)) • MapRep kI64 pt (strF s.c.tx) • UMap pm s.c.un • HistRep ph s.hl s.base s.most • blk bl (.cells #[.int .i64 s.bells] 102 (0, 0)) • WasAt s.inn s.was [u0, u1, u2, u3, u4, u5, u6, u7, u8, u9, ua] • F)) : Holds w0 w (EdRep e s • F) := by
  refine Holds.mk_ed (pb := pb) (pr := pr) (pw := pw) (pt := pt) (pm := pm) (ph := ph) (bl := bl) (u0 := u0) (u1 := u1) (u2 := u2) (u3 := u3) (u4 := u4) (u5 := u5) (u6 := u6) (u7 := u7) (u8 := u8) (u9 := u9) (ua := ua) (pv := pv) (es := es) h1 h2 ?_
  have hl : s.put.length = es.length := by rw [← h2]; simp
  rw [hl]
  exact H.of_eq (by unfold EdL; ac_rfl)
theorem fresh_ok (hl : List HLn) (l : List Int) (E : List (List Int)) (a : Nat) (m : Int) : CoreOk hl (CoreS.fresh l E a hl.length m) := ⟨by simp [CoreS.fresh], by simp [CoreS.fresh], by simp [CoreS.fresh]⟩
theorem new_ok (hl : List HLn) (base most : Int) : EdSOk (EdS.new hl base most) :=
  ⟨fresh_ok _ _ _ _ _, by simp [EdS.new], by simp [EdS.new], by simp [EdS.new], by simp [EdS.new, EdS.here, CoreS.fresh, uTot], by simp [EdS.new, CoreS.fresh]⟩
theorem ed_new_ret (H : Holds w0 w (HistRep h hl base most • F)) : Ret Tryz.prog 8 #[.pointer (some ⟨h, 0, none⟩)] w fun v w' => ∃ e, v = .tuple #[.pointer (some ⟨e, 0, none⟩), .int .i64 0] ∧ Holds w0 w' (EdRep e (EdS.new hl base most) • HistRep h hl base most • F) := by
  refine ret_enter Tryz.func8 rfl Tryz.ntmps8 (Nat.le_of_ble_eq_true rfl) ?_
  dsimp only [slots0, Nat.reduceAdd]
  refine wc_seq ?_
  refine wc_region ?_
  refine wl_val (r_assign rfl) (ltn rfl) ?_
  refine wl_val (r_assign rfl) (ltn rfl) ?_
  refine wl_nil ?_
  refine wq_seq ?_
  refine wc_seq ?_
  refine wc_seq ?_
  refine wc_region ?_
  refine wl_val (r_move rfl) (ltn rfl) ?_
  refine wl_eff (e_call (r_call rfl Tryz.func40 rfl rfl) (hist_clone_ret H)) (ltn rfl) ?_
  rintro _ w1 ⟨q1, rfl, H1⟩
  refine wl_val (r_ptr_nil Tryz.underlying24 rfl rfl) (ltn rfl) ?_
  refine wl_nil ?_
  refine wq_seq ?_
  refine wc_cond rfl (fun h => by exfalso; (try simp only [cmpS] at h); simp at h) (fun h1 => ?_)
  (try simp only [cmpS] at h1)
  refine wc_skip ?_
  refine wq_seq ?_
  refine wc_seq ?_
  refine wc_region ?_
  refine wl_val (r_buildL (zl := [.int .i64 0]) (pl := [(0, 0), (0, 0), (0, 1)]) [_] Tryz.underlying102 Tryz.zeroValue102 rfl (fun w => by kernel_rfl) rfl (.zero (zs := []) rfl (.zero (zs := []) rfl (.zero (zs := [.int .i64 0]) rfl .nil))) rfl) (ltn rfl) ?_
  refine wl_eff (e_boxL (l := [_]) H1 rfl rfl) (ltn rfl) ?_
  rintro _ w2 ⟨b2, rfl, H2⟩
  refine wl_val (r_buildL (zl := [.pointer none, .pointer none, .pointer none, .map none, .int .i64 0, .bool false, .int .i64 0, .int .i64 0, .int .i64 0, .int .i64 0, .bool false, .pointer none, .pointer none, .bool false, .bool false, .int .i64 0, .bool false, .pointer none, .pointer none, .pointer none, .map none, .int .i64 0, .bool false, .int .i64 0, .int .i64 0, .int .i64 0, .int .i64 0, .bool false, .int .i64 0, .bool false, .bool false, .bool false, .bool false, .slice none 0 0]) (pl := [(0, 11), (11, 1), (12, 1), (13, 1), (14, 1), (15, 1), (16, 1), (17, 11), (28, 1), (29, 1), (30, 1), (31, 1), (32, 1), (33, 1)]) [_, _, _, _, _, _, _, _, _, _, _, _, _, _, _, _, _, _, _, _, _, _, _, _, _, _, _, _, _, _, _, _, _, _] Tryz.underlying66 Tryz.zeroValue66 rfl (fun w => by kernel_rfl) rfl (.zero (zs := [.pointer none, .pointer none, .pointer none, .map none, .int .i64 0, .bool false, .int .i64 0, .int .i64 0, .int .i64 0, .int .i64 0, .bool false]) rfl (.zero (zs := [.pointer none]) rfl (.one (by first | rfl | assumption) (.zero (zs := [.bool false]) rfl (.zero (zs := [.bool false]) rfl (.zero (zs := [.int .i64 0]) rfl (.zero (zs := [.bool false]) rfl (.zero (zs := [.pointer none, .pointer none, .pointer none, .map none, .int .i64 0, .bool false, .int .i64 0, .int .i64 0, .int .i64 0, .int .i64 0, .bool false]) rfl (.zero (zs := [.int .i64 0]) rfl (.zero (zs := [.bool false]) rfl (.zero (zs := [.bool false]) rfl (.zero (zs := [.bool false]) rfl (.zero (zs := [.bool false]) rfl (.zero (zs := [.slice none 0 0]) rfl .nil)))))))))))))) rfl) (ltn rfl) ?_
  refine wl_eff (e_boxL (l := [_, _, _, _, _, _, _, _, _, _, _, _, _, _, _, _, _, _, _, _, _, _, _, _, _, _, _, _, _, _, _, _, _, _]) H2 rfl rfl) (ltn rfl) ?_
  rintro _ w3 ⟨b3, rfl, H3⟩
  refine wl_val (r_assign rfl) (ltn rfl) ?_
  refine wl_nil ?_
  refine wq_seq ?_
  refine wc_seq ?_
  refine wc_region ?_
  refine wl_val (r_move rfl) (ltn rfl) ?_
  refine wl_eff (e_call (r_call rfl Tryz.func41 rfl rfl) (ring_new_ret H3)) (ltn rfl) ?_
  rintro _ w4 ⟨p4, rfl, H4⟩
  refine wl_val (r_nil rfl) (ltn rfl) ?_
  refine wl_val (r_fieldA 0 Tryz.underlying66 rfl rfl Tryz.sizeOf62 (by decide) rfl (by first | exact Nat.zero_add _ | rfl)) (ltn rfl) ?_
  refine wl_val (r_fieldA 1 Tryz.underlying62 rfl rfl Tryz.sizeOf58 (by decide) rfl (by first | exact Nat.zero_add _ | rfl)) (ltn rfl) ?_
  refine wl_eff0 (e_storeL 1 (l' := [_, _, _, _, _, _, _, _, _, _, _, _, _, _, _, _, _, _, _, _, _, _, _, _, _, _, _, _, _, _, _, _, _, _]) H4.f2 Tryz.sizeOf58 rfl rfl (by first | rfl | assumption) rfl rfl) ?_
  rintro _ w5 H5
  refine wl_nil ?_
  refine wq_seq ?_
  refine wc_seq ?_
  refine wc_region ?_
  refine wl_val (r_move rfl) (ltn rfl) ?_
  refine wl_val (r_move rfl) (ltn rfl) ?_
  refine wl_eff (e_call (r_call rfl Tryz.func42 rfl rfl) (ed_begins_ret (E := []) (a := 0) H5.f4.right.f3.f3.f4.f4 (l := []) (fun W _ => RdI.nil W _ none 0 (by decide)) (by decide))) (ltn rfl) ?_
  rintro _ w6 ⟨qb, qw, qt, qm, qh, H6⟩
  refine wl_nil ?_
  refine wq_seq ?_
  refine wc_seq ?_
  refine wc_region ?_
  refine wl_val (r_move rfl) (ltn rfl) ?_
  refine wl_val (r_assign rfl) (ltn rfl) ?_
  refine wl_val (r_assign rfl) (ltn rfl) ?_
  refine wl_nil ?_
  refine wq_seq ?_
  refine wc_ret ?_
  refine wq_end2 (.inl rfl) Tryz.results8 rfl rfl ?_
  exact ⟨_, rfl, Holds.mk_edN (s := EdS.new hl base most) (new_ok _ _ _) rfl rfl H6.f7.f9.f8.f8.f8.f8.f9.f9.f9⟩
end
end Go.Proofs.YtgmpclifphbjkaaGreatDoor
end
