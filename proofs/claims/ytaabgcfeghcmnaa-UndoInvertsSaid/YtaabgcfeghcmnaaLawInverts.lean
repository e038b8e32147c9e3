/- UndoInverts, walked. -/
import Derived.Test.YtaabgcfeghcmnaaUStep
set_option linter.unusedSimpArgs false
set_option linter.unusedVariables false
namespace Go.Proofs.Ytaabgcfeghcmnaa
open Go.RowKit
theorem jD_len {k : Nat} {dl dl2 : List Int} : (jD k dl dl2).length ≤ dl.length + dl2.length := by
  unfold jD; split
  · simp
  · split
    · simp; omega
    · simp
theorem jI_len {k : Nat} {il il2 : List Int} : (jI k il il2).length ≤ il.length + il2.length := by unfold jI; split <;> simp
theorem undo_inverts {w : World} {v z z2 x1 x2 y1 y2 : Value} {L il il2 : List Int} {a m a2 m2 : Int} (g : RdI w .i32 v L) (gi : RdI w .i32 z il) (gi2 : RdI w .i32 z2 il2) (b1 : L.length ≤ 35184372087808) (b2 : il.length ≤ 35184372087808) (b3 : il2.length ≤ 35184372087808) (ha : a ≤ 9223372036854775807) (ha2 : a2 ≤ 9223372036854775807) :
    Ret Try.prog 4 #[v, .agg #[.int .i64 a, .int .i64 m, z, x1, x2], .agg #[.int .i64 a2, .int .i64 m2, z2, y1, y2]] w fun v w' => v = .bool true ∧ Below w.heap.size w w' := by
  obtain ⟨F, H⟩ : ∃ F, Holds w w F := ⟨_, Holds.start w⟩
  have hl : FRdI w F .i32 v L := FRdI.of_start g F
  have hi : FRdI w F .i32 z il := FRdI.of_start gi F
  have hi2 : FRdI w F .i32 z2 il2 := FRdI.of_start gi2 F
  refine ret_enter Try.func4 rfl Try.ntmps4 (Nat.le_of_ble_eq_true rfl) ?_
  dsimp only [slots0, Nat.reduceAdd]
  refine wc_seq ?_
  refine wc_region ?_
  refine wl_eff (e_boxL (l := [_, _, _, _, _]) H rfl rfl) (ltn rfl) ?_
  rintro _ w1 ⟨b1, rfl, H1⟩
  refine wl_eff (e_boxL (l := [_, _, _, _, _]) H1 rfl rfl) (ltn rfl) ?_
  rintro _ w2 ⟨b2, rfl, H2⟩
  refine wl_val (r_assign rfl) (ltn rfl) ?_
  refine wl_nil ?_
  refine wq_seq ?_
  refine wc_seq ?_
  refine wc_seq ?_
  refine wc_region ?_
  refine wl_eff (e_call (r_call rfl Try.func13 rfl rfl) (begun_ret H2)) (ltn rfl) ?_
  rintro _ w3 ⟨rfl, H3⟩
  refine wl_val (r_not rfl) (ltn rfl) ?_
  refine wl_nil ?_
  refine wq_seq ?_
  refine wc_cond rfl (fun h => by exfalso; (try simp only [beq_iff_eq, bne_iff_ne, ne_eq, decide_eq_true_eq, decide_eq_false_iff_not, beq_eq_false_iff_ne, bne_eq_false_iff_eq, Bool.not_eq_true', Bool.not_eq_false', Bool.not_eq_eq_eq_not, Bool.not_true, Bool.not_false, gt_iff_lt, ge_iff_le, Int.not_lt, Int.not_le] at h); simp at h) (fun h1 => ?_)
  (try simp only [beq_iff_eq, bne_iff_ne, ne_eq, decide_eq_true_eq, decide_eq_false_iff_not, beq_eq_false_iff_ne, bne_eq_false_iff_eq, Bool.not_eq_true', Bool.not_eq_false', Bool.not_eq_eq_eq_not, Bool.not_true, Bool.not_false, gt_iff_lt, ge_iff_le, Int.not_lt, Int.not_le] at h1)
  refine wc_skip ?_
  refine wq_seq ?_
  refine wc_seq ?_
  refine wc_region ?_
  refine wl_val (r_load_whole Try.underlying36 rfl Try.sizeOf36 rfl rfl (H3.f2).get.2) (ltn rfl) ?_
  refine wl_val (r_move rfl) (ltn rfl) ?_
  refine wl_eff (e_call (r_call rfl Try.func18 rfl rfl) (step_edit_ret H3 (fun W HW => hl _ (HW.right.right)) (fun W HW => hi _ (HW.right.right)) (by omega) (by omega))) (ltn rfl) ?_
  rintro _ w4 ⟨q4, n4, d4, hq4, rfl, H4⟩
  obtain ⟨q, rfl⟩ : ∃ q, q = q4 := ⟨_, rfl⟩
  obtain ⟨n, rfl⟩ : ∃ n, n = n4 := ⟨_, rfl⟩
  have hq := hq4
  have hc := cutL_len hq
  refine wl_eff (e_allocL (l := [_, _, _]) H4 Try.zeroValue24 rfl) (ltn rfl) ?_
  rintro _ w5 ⟨b5, rfl, H5⟩
  refine wl_eff0 (e_storePL 0 (l' := [_, _, _]) (us := [_, _, _]) H5 Try.sizeOf24 rfl rfl rfl (ones_cons (by first | rfl | assumption) (ones_cons (by first | rfl | exact Rd.one ((H5.f2).row_rd)) (ones_cons (by first | rfl | exact Rd.one (hi _ (H5.right.right.right.right))) ones_nil))) rfl rfl) ?_
  rintro _ w6 H6
  refine wl_nil ?_
  refine wq_seq ?_
  refine wc_seq ?_
  refine wc_region ?_
  refine wl_val (r_move rfl) (ltn rfl) ?_
  refine wl_val (r_load_whole Try.underlying24 rfl Try.sizeOf24 rfl rfl (H6).get.2) (ltn rfl) ?_
  refine wl_eff (e_call (r_call rfl Try.func9 rfl rfl) (undo_apply_ret H6 (fun W HW => hl _ (HW.right.right.right.right)) (fun W HW => (HW.f2).row_rd) (fun W HW => hi _ (HW.right.right.right.right)) (by omega) (by omega) (by omega))) (ltn rfl) ?_
  rintro _ w7 ⟨u7, rfl, H7⟩
  refine wl_val (r_move rfl) (ltn rfl) ?_
  refine wl_val (r_extract rfl rfl) (ltn rfl) ?_
  refine wl_val (r_extract rfl rfl) (ltn rfl) ?_
  refine wl_val (r_assign rfl) (ltn rfl) ?_
  refine wl_val (r_assign rfl) (ltn rfl) ?_
  refine wl_nil ?_
  refine wq_seq ?_
  refine wc_seq ?_
  refine wc_seq ?_
  refine wc_region ?_
  refine wl_val (r_move rfl) (ltn rfl) ?_
  refine wl_val (r_neq rfl rfl) (ltn rfl) ?_
  refine wl_nil ?_
  refine wq_seq ?_
  refine wc_cond rfl (fun h2 => ?_) (fun h2 => ?_)
  · (try simp only [beq_iff_eq, bne_iff_ne, ne_eq, decide_eq_true_eq, decide_eq_false_iff_not, beq_eq_false_iff_ne, bne_eq_false_iff_eq, Bool.not_eq_true', Bool.not_eq_false', Bool.not_eq_eq_eq_not, Bool.not_true, Bool.not_false, gt_iff_lt, ge_iff_le, Int.not_lt, Int.not_le] at h2)
    have hE0 := h2
    refine wc_seq ?_
    refine wc_region ?_
    refine wl_val (r_move rfl) (ltn rfl) ?_
    refine wl_val (r_eql rfl rfl) (ltn rfl) ?_
    refine wl_val (r_assign rfl) (ltn rfl) ?_
    refine wl_nil ?_
    refine wq_seq ?_
    refine wc_ret ?_
    refine wq_then_ret ?_
    refine wq_end1 (.inl rfl) Try.results4 rfl ?_
    have h9 := (uE_cut_or (il := il) hq).resolve_left (by simpa using hE0)
    exact ⟨by rw [h9]; rfl, H7.base⟩
  · (try simp only [beq_iff_eq, bne_iff_ne, ne_eq, decide_eq_true_eq, decide_eq_false_iff_not, beq_eq_false_iff_ne, bne_eq_false_iff_eq, Bool.not_eq_true', Bool.not_eq_false', Bool.not_eq_eq_eq_not, Bool.not_true, Bool.not_false, gt_iff_lt, ge_iff_le, Int.not_lt, Int.not_le] at h2)
    have hE : uE L q (cutL L q n) il = 0 := by simpa using h2
    have hE' := (uE_cut_ok hq).1 hE
    have ho := one_len (il := il) hq
    have HU := H7
    rw [uL_cut hq hE] at HU
    refine wc_skip ?_
    refine wq_seq ?_
    refine wc_seq ?_
    refine wc_seq ?_
    refine wc_region ?_
    refine wl_val (r_move rfl) (ltn rfl) ?_
    refine wl_val (r_lenR (hl _ (HU.right.right.right.right.right)) Try.underlying22 rfl) (ltn rfl) ?_
    refine wl_val (r_leq rfl rfl) (ltn rfl) ?_
    refine wl_nil ?_
    refine wq_seq ?_
    refine wc_cond rfl (fun h3 => ?_) (fun h3 => ?_)
    · (try simp only [beq_iff_eq, bne_iff_ne, ne_eq, decide_eq_true_eq, decide_eq_false_iff_not, beq_eq_false_iff_ne, bne_eq_false_iff_eq, Bool.not_eq_true', Bool.not_eq_false', Bool.not_eq_eq_eq_not, Bool.not_true, Bool.not_false, gt_iff_lt, ge_iff_le, Int.not_lt, Int.not_le] at h3)
      
      refine wc_seq ?_
      refine wc_region ?_
      refine wl_val (r_move rfl) (ltn rfl) ?_
      refine wl_val (r_load_whole Try.underlying24 rfl Try.sizeOf24 rfl rfl (HU.f2).get.2) (ltn rfl) ?_
      refine wl_eff (e_call (r_call rfl Try.func16 rfl rfl) (undo_inverse_ret HU (fun W HW => (HW.f3).row_rd) (fun W HW => hi _ (HW.right.right.right.right.right)) (by omega) (by omega))) (ltn rfl) ?_
      rintro _ w8 ⟨d8, s8, rfl, H8⟩
      refine wl_eff (e_call (r_call rfl Try.func9 rfl rfl) (undo_apply_ret H8 (fun W HW => (HW.f3).row_rd) (fun W HW => (HW).row_rd) (fun W HW => (HW.f2).row_rd) (by omega) (by omega) (by omega))) (ltn rfl) ?_
      rintro _ w9 ⟨u9, rfl, H9⟩
      rw [back_E hq (by omega)]
      rw [back_L hq (by omega)] at H9
      refine wl_val (r_move rfl) (ltn rfl) ?_
      refine wl_val (r_extract rfl rfl) (ltn rfl) ?_
      refine wl_val (r_extract rfl rfl) (ltn rfl) ?_
      refine wl_val (r_assign rfl) (ltn rfl) ?_
      refine wl_val (r_assign rfl) (ltn rfl) ?_
      refine wl_nil ?_
      refine wq_seq ?_
      refine wc_seq ?_
      refine wc_region ?_
      refine wl_val (r_move rfl) (ltn rfl) ?_
      refine wl_val (r_neq rfl rfl) (ltn rfl) ?_
      refine wl_split rfl (ltn rfl) (fun h => by exfalso; (try simp only [beq_iff_eq, bne_iff_ne, ne_eq, decide_eq_true_eq, decide_eq_false_iff_not, beq_eq_false_iff_ne, bne_eq_false_iff_eq, Bool.not_eq_true', Bool.not_eq_false', Bool.not_eq_eq_eq_not, Bool.not_true, Bool.not_false, gt_iff_lt, ge_iff_le, Int.not_lt, Int.not_le] at h); simp at h) (fun h4 => ?_)
      (try simp only [beq_iff_eq, bne_iff_ne, ne_eq, decide_eq_true_eq, decide_eq_false_iff_not, beq_eq_false_iff_ne, bne_eq_false_iff_eq, Bool.not_eq_true', Bool.not_eq_false', Bool.not_eq_eq_eq_not, Bool.not_true, Bool.not_false, gt_iff_lt, ge_iff_le, Int.not_lt, Int.not_le] at h4)
      refine wl_yes rfl rfl ?_
      refine wl_val (r_move rfl) (ltn rfl) ?_
      refine wl_yes rfl rfl ?_
      refine wl_val (r_move rfl) (ltn rfl) ?_
      refine wl_yes rfl rfl ?_
      refine wl_eff (e_call (r_call rfl Try.func14 rfl rfl) (same_runes_eq _ _ _ _ ((H9).row_rd) (hl _ (H9.right.right.right.right.right.right.right.right)))) (ltn rfl) ?_
      rintro _ w10 ⟨rfl, hD10⟩
      have HD10 := H9.drewn hD10
      refine wl_yes rfl rfl ?_
      refine wl_val (r_not rfl) (ltn rfl) ?_
      refine wl_val (r_pick_f rfl rfl) (ltn rfl) ?_
      refine wl_nil ?_
      refine wq_seq ?_
      refine wc_cond rfl (fun h => by exfalso; (try simp only [beq_iff_eq, bne_iff_ne, ne_eq, decide_eq_true_eq, decide_eq_false_iff_not, beq_eq_false_iff_ne, bne_eq_false_iff_eq, Bool.not_eq_true', Bool.not_eq_false', Bool.not_eq_eq_eq_not, Bool.not_true, Bool.not_false, gt_iff_lt, ge_iff_le, Int.not_lt, Int.not_le] at h); simp at h) (fun h5 => ?_)
      (try simp only [beq_iff_eq, bne_iff_ne, ne_eq, decide_eq_true_eq, decide_eq_false_iff_not, beq_eq_false_iff_ne, bne_eq_false_iff_eq, Bool.not_eq_true', Bool.not_eq_false', Bool.not_eq_eq_eq_not, Bool.not_true, Bool.not_false, gt_iff_lt, ge_iff_le, Int.not_lt, Int.not_le] at h5)
      refine wc_skip ?_
      refine wq_seq ?_
      refine wc_seq ?_
      refine wc_seq ?_
      have H11d10 := HD10.drew
      have hS11d10 := Holds.kp (H11d10.f8.f8.f8.f8.f8.f8.f8.f8)
      refine wd_beginK [0, 3] hS11d10 (by kernel_rfl) (by kernel_rfl) rfl ?_
      refine wd_take 0 rfl (by kernel_rfl) (by kernel_rfl) hS11d10 (by decide) (fun W hW => r_load_whole Try.underlying24 rfl Try.sizeOf24 rfl rfl ((Kp.h hW).f5).get.2) (ltn rfl) ?_
      refine wd_take 3 rfl (by kernel_rfl) (by kernel_rfl) hS11d10 (by decide) (fun W hW => r_load_whole Try.underlying24 rfl Try.sizeOf24 rfl rfl ((Kp.h hW).f5).get.2) (ltn rfl) ?_
      refine wd_eff 1 rfl (by kernel_rfl) (e_call (r_call rfl Try.func16 rfl rfl) (undo_inverse_ret H11d10 (fun W HW => (HW.f6).row_rd) (fun W HW => hi _ (HW.right.right.right.right.right.right.right.right)) (by omega) (by omega))) (ltn rfl) ?_
      rintro _ w11 ⟨d11, s11, rfl, H11⟩
      have hS11n := Holds.kp (H11.f10.f10.f10.f10.f10.f10.f10.f10.f10.f10)
      refine keepK hS11n (fun W hW => (Kp.h hW).right.right.f8.f8.f8.f8.f8.f8.f8.f8) ?_
      refine wd_eff 2 rfl (by kernel_rfl) (e_call (r_call rfl Try.func16 rfl rfl) (undo_inverse_ret H11 (fun W HW => (HW).row_rd) (fun W HW => (HW.f2).row_rd) (by omega) (by omega))) (ltn rfl) ?_
      rintro _ w12 ⟨d12, s12, rfl, H12⟩
      have hS12n := Holds.kp (H12.f12.f12.f12.f12.f12.f12.f12.f12.f12.f12.f12.f12)
      refine keepK hS12n (fun W hW => (Kp.h hW).right.right.f10.f10.f10.f10.f10.f10.f10.f10.f10.f10) ?_
      refine wd_eff 4 rfl (by kernel_rfl) (e_call (r_call rfl Try.func15 rfl rfl) (same_ed_ret H12 (fun W HW => (HW).row_rd) (fun W HW => (HW.f2).row_rd) (fun W HW => (HW.f10).row_rd) (fun W HW => hi _ (HW.right.right.right.right.right.right.right.right.right.right.right.right)))) (ltn rfl) ?_
      rintro _ w13 ⟨rfl, H13⟩
      have hS13n := Holds.kp (H13.f12.f12.f12.f12.f12.f12.f12.f12.f12.f12.f12.f12)
      refine keepX hS13n (by kernel_rfl) ?_
      refine wd_takeT 5 rfl (by kernel_rfl) (by kernel_rfl) hS13n (fun _ => r_not rfl) (ltn rfl) ?_
      refine wd_done (by kernel_rfl) ?_
      refine wq_seq ?_
      refine wc_cond rfl (fun h => by exfalso; (try simp only [beq_iff_eq, bne_iff_ne, ne_eq, decide_eq_true_eq, decide_eq_false_iff_not, beq_eq_false_iff_ne, bne_eq_false_iff_eq, Bool.not_eq_true', Bool.not_eq_false', Bool.not_eq_eq_eq_not, Bool.not_true, Bool.not_false, gt_iff_lt, ge_iff_le, Int.not_lt, Int.not_le] at h); simp at h) (fun h6 => ?_)
      (try simp only [beq_iff_eq, bne_iff_ne, ne_eq, decide_eq_true_eq, decide_eq_false_iff_not, beq_eq_false_iff_ne, bne_eq_false_iff_eq, Bool.not_eq_true', Bool.not_eq_false', Bool.not_eq_eq_eq_not, Bool.not_true, Bool.not_false, gt_iff_lt, ge_iff_le, Int.not_lt, Int.not_le] at h6)
      refine wc_skip ?_
      refine wq_seq ?_
      refine wc_seq ?_
      refine wc_region ?_
      refine wl_val (r_load_whole Try.underlying36 rfl Try.sizeOf36 rfl rfl (H13.f11).get.2) (ltn rfl) ?_
      refine wl_val (r_move rfl) (ltn rfl) ?_
      refine wl_eff (e_call (r_call rfl Try.func18 rfl rfl) (step_edit_ret H13 (fun W HW => (HW.f8).row_rd) (fun W HW => hi2 _ (HW.right.right.right.right.right.right.right.right.right.right.right.right)) (by omega) (by omega))) (ltn rfl) ?_
      rintro _ w14 ⟨q14, n14, d14, hq14, rfl, H14⟩
      obtain ⟨q2, rfl⟩ : ∃ q, q = q14 := ⟨_, rfl⟩
      obtain ⟨n2, rfl⟩ : ∃ n, n = n14 := ⟨_, rfl⟩
      have hq2 := hq14
      have hc2 := cutL_len hq2
      refine wl_eff (e_allocL (l := [_, _, _]) H14 Try.zeroValue24 rfl) (ltn rfl) ?_
      rintro _ w15 ⟨b15, rfl, H15⟩
      refine wl_eff0 (e_storePL 0 (l' := [_, _, _]) (us := [_, _, _]) H15 Try.sizeOf24 rfl rfl rfl (ones_cons (by first | rfl | assumption) (ones_cons (by first | rfl | exact Rd.one ((H15.f2).row_rd)) (ones_cons (by first | rfl | exact Rd.one (hi2 _ (H15.right.right.right.right.right.right.right.right.right.right.right.right.right.right))) ones_nil))) rfl rfl) ?_
      rintro _ w16 H16
      refine wl_nil ?_
      refine wq_seq ?_
      refine wc_seq ?_
      refine wc_region ?_
      refine wl_val (r_move rfl) (ltn rfl) ?_
      refine wl_val (r_load_whole Try.underlying24 rfl Try.sizeOf24 rfl rfl (H16).get.2) (ltn rfl) ?_
      refine wl_eff (e_call (r_call rfl Try.func9 rfl rfl) (undo_apply_ret H16 (fun W HW => (HW.f10).row_rd) (fun W HW => (HW.f2).row_rd) (fun W HW => hi2 _ (HW.right.right.right.right.right.right.right.right.right.right.right.right.right.right)) (by omega) (by omega) (by omega))) (ltn rfl) ?_
      rintro _ w17 ⟨u17, rfl, H17⟩
      refine wl_val (r_move rfl) (ltn rfl) ?_
      refine wl_val (r_extract rfl rfl) (ltn rfl) ?_
      refine wl_val (r_extract rfl rfl) (ltn rfl) ?_
      refine wl_val (r_assign rfl) (ltn rfl) ?_
      refine wl_val (r_assign rfl) (ltn rfl) ?_
      refine wl_nil ?_
      refine wq_seq ?_
      refine wc_seq ?_
      refine wc_region ?_
      refine wl_val (r_load_whole Try.underlying24 rfl Try.sizeOf24 rfl rfl (H17.f12).get.2) (ltn rfl) ?_
      refine wl_val (r_load_whole Try.underlying24 rfl Try.sizeOf24 rfl rfl (H17.f2).get.2) (ltn rfl) ?_
      refine wl_eff (e_call (r_call rfl Try.func11 rfl rfl) (undo_join_ret H17 (fun W HW => (HW.f13).row_rd) (fun W HW => hi _ (HW.right.right.right.right.right.right.right.right.right.right.right.right.right.right.right)) (fun W HW => (HW.f3).row_rd) (fun W HW => hi2 _ (HW.right.right.right.right.right.right.right.right.right.right.right.right.right.right.right)) (by omega) (by omega) (by omega) (by omega))) (ltn rfl) ?_
      rintro _ w18 ⟨d18, s18, rfl, H18⟩
      refine wl_val (r_move rfl) (ltn rfl) ?_
      refine wl_val (r_extract rfl rfl) (ltn rfl) ?_
      refine wl_val (r_extract rfl rfl) (ltn rfl) ?_
      refine wl_eff (e_allocL (l := [_, _, _]) H18 Try.zeroValue24 rfl) (ltn rfl) ?_
      rintro _ w19 ⟨b19, rfl, H19⟩
      refine wl_eff0 (e_storePL 0 (l' := [_, _, _]) (us := [_, _, _]) H19 Try.sizeOf24 rfl rfl rfl (ones_cons (by first | rfl | assumption) (ones_cons (by first | rfl | exact Rd.one ((H19.f2).row_rd)) (ones_cons (by first | rfl | exact Rd.one ((H19.f3).row_rd)) ones_nil))) rfl rfl) ?_
      rintro _ w20 H20
      refine wl_val (r_assign rfl) (ltn rfl) ?_
      refine wl_nil ?_
      refine wq_seq ?_
      refine wc_seq ?_
      refine wc_seq ?_
      refine wc_region ?_
      refine wl_val (r_move rfl) (ltn rfl) ?_
      refine wl_val (r_neq rfl rfl) (ltn rfl) ?_
      refine wl_split rfl (ltn rfl) (fun h7 => ?_) (fun h7 => ?_)
      · (try simp only [beq_iff_eq, bne_iff_ne, ne_eq, decide_eq_true_eq, decide_eq_false_iff_not, beq_eq_false_iff_ne, bne_eq_false_iff_eq, Bool.not_eq_true', Bool.not_eq_false', Bool.not_eq_eq_eq_not, Bool.not_true, Bool.not_false, gt_iff_lt, ge_iff_le, Int.not_lt, Int.not_le] at h7)
        refine wl_no rfl rfl rfl (ltn rfl) ?_
        refine wl_no rfl rfl rfl (ltn rfl) ?_
        refine wl_val (r_pick_t rfl rfl) (ltn rfl) ?_
        refine wl_nil ?_
        refine wq_seq ?_
        refine wc_cond_t rfl ?_
        refine wc_seq ?_
        refine wc_region ?_
        refine wl_val (r_move rfl) (ltn rfl) ?_
        refine wl_val (r_eql rfl rfl) (ltn rfl) ?_
        refine wl_split rfl (ltn rfl) (fun h8 => ?_) (fun h8 => ?_)
        · (try simp only [beq_iff_eq, bne_iff_ne, ne_eq, decide_eq_true_eq, decide_eq_false_iff_not, beq_eq_false_iff_ne, bne_eq_false_iff_eq, Bool.not_eq_true', Bool.not_eq_false', Bool.not_eq_eq_eq_not, Bool.not_true, Bool.not_false, gt_iff_lt, ge_iff_le, Int.not_lt, Int.not_le] at h8)
          refine wl_no rfl rfl rfl (ltn rfl) ?_
          refine wl_no rfl rfl rfl (ltn rfl) ?_
          refine wl_val (r_pick_t rfl rfl) (ltn rfl) ?_
          refine wl_val (r_assign rfl) (ltn rfl) ?_
          refine wl_nil ?_
          refine wq_seq ?_
          refine wc_ret ?_
          refine wq_then_ret ?_
          refine wq_end1 (.inl rfl) Try.results4 rfl ?_
          first
            | exact ⟨rfl, H20.base⟩
            | (have h9 := (uE_cut_or (il := il2) hq2).resolve_left (by assumption)
               exact ⟨by rw [h9]; rfl, H20.base⟩)
        · (try simp only [beq_iff_eq, bne_iff_ne, ne_eq, decide_eq_true_eq, decide_eq_false_iff_not, beq_eq_false_iff_ne, bne_eq_false_iff_eq, Bool.not_eq_true', Bool.not_eq_false', Bool.not_eq_eq_eq_not, Bool.not_true, Bool.not_false, gt_iff_lt, ge_iff_le, Int.not_lt, Int.not_le] at h8)
          refine wl_yes rfl rfl ?_
          refine wl_val (r_move rfl) (ltn rfl) ?_
          refine wl_yes rfl rfl ?_
          refine wl_val (r_eql rfl rfl) (ltn rfl) ?_
          refine wl_val (r_pick_f rfl rfl) (ltn rfl) ?_
          refine wl_val (r_assign rfl) (ltn rfl) ?_
          refine wl_nil ?_
          refine wq_seq ?_
          refine wc_ret ?_
          refine wq_then_ret ?_
          refine wq_end1 (.inl rfl) Try.results4 rfl ?_
          first
            | exact ⟨rfl, H20.base⟩
            | (have h9 := (uE_cut_or (il := il2) hq2).resolve_left (by assumption)
               exact ⟨by rw [h9]; rfl, H20.base⟩)
      · (try simp only [beq_iff_eq, bne_iff_ne, ne_eq, decide_eq_true_eq, decide_eq_false_iff_not, beq_eq_false_iff_ne, bne_eq_false_iff_eq, Bool.not_eq_true', Bool.not_eq_false', Bool.not_eq_eq_eq_not, Bool.not_true, Bool.not_false, gt_iff_lt, ge_iff_le, Int.not_lt, Int.not_le] at h7)
        have hE2 : uE (L.take q ++ il ++ L.drop (q + n)) q2 (cutL (L.take q ++ il ++ L.drop (q + n)) q2 n2) il2 = 0 := by assumption
        have hE2' := (uE_cut_ok hq2).1 hE2
        have hj1 := jD_len (k := (jK q q2 (cutL L q n) il (cutL (L.take q ++ il ++ L.drop (q + n)) q2 n2) il2)) (dl := cutL L q n) (dl2 := cutL (L.take q ++ il ++ L.drop (q + n)) q2 n2)
        have hj2 := jI_len (k := (jK q q2 (cutL L q n) il (cutL (L.take q ++ il ++ L.drop (q + n)) q2 n2) il2)) (il := il) (il2 := il2)
        refine wl_yes rfl rfl ?_
        refine wl_val (r_move rfl) (ltn rfl) ?_
        refine wl_yes rfl rfl ?_
        refine wl_val (r_not rfl) (ltn rfl) ?_
        refine wl_val (r_pick_f rfl rfl) (ltn rfl) ?_
        refine wl_nil ?_
        refine wq_seq ?_
        refine wc_cond rfl (fun h9 => ?_) (fun h9 => ?_)
        · (try simp only [beq_iff_eq, bne_iff_ne, ne_eq, decide_eq_true_eq, decide_eq_false_iff_not, beq_eq_false_iff_ne, bne_eq_false_iff_eq, Bool.not_eq_true', Bool.not_eq_false', Bool.not_eq_eq_eq_not, Bool.not_true, Bool.not_false, gt_iff_lt, ge_iff_le, Int.not_lt, Int.not_le] at h9)
          
          refine wc_seq ?_
          refine wc_region ?_
          refine wl_val (r_move rfl) (ltn rfl) ?_
          refine wl_val (r_eql rfl rfl) (ltn rfl) ?_
          refine wl_split rfl (ltn rfl) (fun h10 => ?_) (fun h10 => ?_)
          · (try simp only [beq_iff_eq, bne_iff_ne, ne_eq, decide_eq_true_eq, decide_eq_false_iff_not, beq_eq_false_iff_ne, bne_eq_false_iff_eq, Bool.not_eq_true', Bool.not_eq_false', Bool.not_eq_eq_eq_not, Bool.not_true, Bool.not_false, gt_iff_lt, ge_iff_le, Int.not_lt, Int.not_le] at h10)
            refine wl_no rfl rfl rfl (ltn rfl) ?_
            refine wl_no rfl rfl rfl (ltn rfl) ?_
            refine wl_val (r_pick_t rfl rfl) (ltn rfl) ?_
            refine wl_val (r_assign rfl) (ltn rfl) ?_
            refine wl_nil ?_
            refine wq_seq ?_
            refine wc_ret ?_
            refine wq_then_ret ?_
            refine wq_end1 (.inl rfl) Try.results4 rfl ?_
            first
              | exact ⟨rfl, H20.base⟩
              | (have h9 := (uE_cut_or (il := il2) hq2).resolve_left (by assumption)
                 exact ⟨by rw [h9]; rfl, H20.base⟩)
          · (try simp only [beq_iff_eq, bne_iff_ne, ne_eq, decide_eq_true_eq, decide_eq_false_iff_not, beq_eq_false_iff_ne, bne_eq_false_iff_eq, Bool.not_eq_true', Bool.not_eq_false', Bool.not_eq_eq_eq_not, Bool.not_true, Bool.not_false, gt_iff_lt, ge_iff_le, Int.not_lt, Int.not_le] at h10)
            refine wl_yes rfl rfl ?_
            refine wl_val (r_move rfl) (ltn rfl) ?_
            refine wl_yes rfl rfl ?_
            refine wl_val (r_eql rfl rfl) (ltn rfl) ?_
            refine wl_val (r_pick_f rfl rfl) (ltn rfl) ?_
            refine wl_val (r_assign rfl) (ltn rfl) ?_
            refine wl_nil ?_
            refine wq_seq ?_
            refine wc_ret ?_
            refine wq_then_ret ?_
            refine wq_end1 (.inl rfl) Try.results4 rfl ?_
            first
              | exact ⟨rfl, H20.base⟩
              | (have h9 := (uE_cut_or (il := il2) hq2).resolve_left (by assumption)
                 exact ⟨by rw [h9]; rfl, H20.base⟩)
        · (try simp only [beq_iff_eq, bne_iff_ne, ne_eq, decide_eq_true_eq, decide_eq_false_iff_not, beq_eq_false_iff_ne, bne_eq_false_iff_eq, Bool.not_eq_true', Bool.not_eq_false', Bool.not_eq_eq_eq_not, Bool.not_true, Bool.not_false, gt_iff_lt, ge_iff_le, Int.not_lt, Int.not_le] at h9)
          have hk : (jK q q2 (cutL L q n) il (cutL (L.take q ++ il ++ L.drop (q + n)) q2 n2) il2) ≠ 0 := by simpa using h9
          refine wc_skip ?_
          refine wq_seq ?_
          refine wc_seq ?_
          refine wc_region ?_
          refine wl_val (r_move rfl) (ltn rfl) ?_
          refine wl_val (r_load_whole Try.underlying24 rfl Try.sizeOf24 rfl rfl (H20).get.2) (ltn rfl) ?_
          refine wl_eff (e_call (r_call rfl Try.func9 rfl rfl) (undo_apply_ret H20 (fun W HW => hl _ (HW.right.right.right.right.right.right.right.right.right.right.right.right.right.right.right.right.right.right)) (fun W HW => (HW.f2).row_rd) (fun W HW => (HW.f3).row_rd) (by omega) (by omega) (by omega))) (ltn rfl) ?_
          rintro _ w21 ⟨u21, rfl, H21⟩
          have hJ := join_E (il2 := il2) hq (by rw [← ho]; exact hq2) hE hE2 hk
          rw [hJ.1]
          rw [hJ.2] at H21
          refine wl_val (r_move rfl) (ltn rfl) ?_
          refine wl_val (r_extract rfl rfl) (ltn rfl) ?_
          refine wl_val (r_extract rfl rfl) (ltn rfl) ?_
          refine wl_val (r_assign rfl) (ltn rfl) ?_
          refine wl_val (r_assign rfl) (ltn rfl) ?_
          refine wl_nil ?_
          refine wq_seq ?_
          refine wc_seq ?_
          refine wc_region ?_
          refine wl_val (r_move rfl) (ltn rfl) ?_
          refine wl_val (r_eql rfl rfl) (ltn rfl) ?_
          refine wl_split rfl (ltn rfl) (fun h11 => ?_) (fun h => by exfalso; (try simp only [beq_iff_eq, bne_iff_ne, ne_eq, decide_eq_true_eq, decide_eq_false_iff_not, beq_eq_false_iff_ne, bne_eq_false_iff_eq, Bool.not_eq_true', Bool.not_eq_false', Bool.not_eq_eq_eq_not, Bool.not_true, Bool.not_false, gt_iff_lt, ge_iff_le, Int.not_lt, Int.not_le] at h); simp at h)
          (try simp only [beq_iff_eq, bne_iff_ne, ne_eq, decide_eq_true_eq, decide_eq_false_iff_not, beq_eq_false_iff_ne, bne_eq_false_iff_eq, Bool.not_eq_true', Bool.not_eq_false', Bool.not_eq_eq_eq_not, Bool.not_true, Bool.not_false, gt_iff_lt, ge_iff_le, Int.not_lt, Int.not_le] at h11)
          refine wl_yes rfl rfl ?_
          refine wl_val (r_move rfl) (ltn rfl) ?_
          refine wl_yes rfl rfl ?_
          refine wl_val (r_move rfl) (ltn rfl) ?_
          refine wl_yes rfl rfl ?_
          refine wl_eff (e_call (r_call rfl Try.func14 rfl rfl) (same_runes_eq _ _ _ _ ((H21).row_rd) ((H21.f5).row_rd))) (ltn rfl) ?_
          rintro _ w22 ⟨rfl, hD22⟩
          have HD22 := H21.drewn hD22
          refine wl_val (r_pick_t rfl rfl) (ltn rfl) ?_
          refine wl_val (r_assign rfl) (ltn rfl) ?_
          refine wl_nil ?_
          refine wq_seq ?_
          refine wc_ret ?_
          refine wq_end1 (.inl rfl) Try.results4 rfl ?_
          exact ⟨rfl, HD22.base⟩
    · (try simp only [beq_iff_eq, bne_iff_ne, ne_eq, decide_eq_true_eq, decide_eq_false_iff_not, beq_eq_false_iff_ne, bne_eq_false_iff_eq, Bool.not_eq_true', Bool.not_eq_false', Bool.not_eq_eq_eq_not, Bool.not_true, Bool.not_false, gt_iff_lt, ge_iff_le, Int.not_lt, Int.not_le] at h3)
      
      refine wc_skip ?_
      refine wq_seq ?_
      refine wc_seq ?_
      refine wc_seq ?_
      have H11d22 := HU.drew
      have hS11d22 := Holds.kp (H11d22.f5.f5.f5.f5.f5)
      refine wd_beginK [0, 3] hS11d22 (by kernel_rfl) (by kernel_rfl) rfl ?_
      refine wd_take 0 rfl (by kernel_rfl) (by kernel_rfl) hS11d22 (by decide) (fun W hW => r_load_whole Try.underlying24 rfl Try.sizeOf24 rfl rfl ((Kp.h hW).f2).get.2) (ltn rfl) ?_
      refine wd_take 3 rfl (by kernel_rfl) (by kernel_rfl) hS11d22 (by decide) (fun W hW => r_load_whole Try.underlying24 rfl Try.sizeOf24 rfl rfl ((Kp.h hW).f2).get.2) (ltn rfl) ?_
      refine wd_eff 1 rfl (by kernel_rfl) (e_call (r_call rfl Try.func16 rfl rfl) (undo_inverse_ret H11d22 (fun W HW => (HW.f3).row_rd) (fun W HW => hi _ (HW.right.right.right.right.right)) (by omega) (by omega))) (ltn rfl) ?_
      rintro _ w23 ⟨d23, s23, rfl, H23⟩
      have hS23n := Holds.kp (H23.f7.f7.f7.f7.f7.f7.f7)
      refine keepK hS23n (fun W hW => (Kp.h hW).right.right.f5.f5.f5.f5.f5) ?_
      refine wd_eff 2 rfl (by kernel_rfl) (e_call (r_call rfl Try.func16 rfl rfl) (undo_inverse_ret H23 (fun W HW => (HW).row_rd) (fun W HW => (HW.f2).row_rd) (by omega) (by omega))) (ltn rfl) ?_
      rintro _ w24 ⟨d24, s24, rfl, H24⟩
      have hS24n := Holds.kp (H24.f9.f9.f9.f9.f9.f9.f9.f9.f9)
      refine keepK hS24n (fun W hW => (Kp.h hW).right.right.f7.f7.f7.f7.f7.f7.f7) ?_
      refine wd_eff 4 rfl (by kernel_rfl) (e_call (r_call rfl Try.func15 rfl rfl) (same_ed_ret H24 (fun W HW => (HW).row_rd) (fun W HW => (HW.f2).row_rd) (fun W HW => (HW.f7).row_rd) (fun W HW => hi _ (HW.right.right.right.right.right.right.right.right.right)))) (ltn rfl) ?_
      rintro _ w25 ⟨rfl, H25⟩
      have hS25n := Holds.kp (H25.f9.f9.f9.f9.f9.f9.f9.f9.f9)
      refine keepX hS25n (by kernel_rfl) ?_
      refine wd_takeT 5 rfl (by kernel_rfl) (by kernel_rfl) hS25n (fun _ => r_not rfl) (ltn rfl) ?_
      refine wd_done (by kernel_rfl) ?_
      refine wq_seq ?_
      refine wc_cond rfl (fun h => by exfalso; (try simp only [beq_iff_eq, bne_iff_ne, ne_eq, decide_eq_true_eq, decide_eq_false_iff_not, beq_eq_false_iff_ne, bne_eq_false_iff_eq, Bool.not_eq_true', Bool.not_eq_false', Bool.not_eq_eq_eq_not, Bool.not_true, Bool.not_false, gt_iff_lt, ge_iff_le, Int.not_lt, Int.not_le] at h); simp at h) (fun h12 => ?_)
      (try simp only [beq_iff_eq, bne_iff_ne, ne_eq, decide_eq_true_eq, decide_eq_false_iff_not, beq_eq_false_iff_ne, bne_eq_false_iff_eq, Bool.not_eq_true', Bool.not_eq_false', Bool.not_eq_eq_eq_not, Bool.not_true, Bool.not_false, gt_iff_lt, ge_iff_le, Int.not_lt, Int.not_le] at h12)
      refine wc_skip ?_
      refine wq_seq ?_
      refine wc_seq ?_
      refine wc_region ?_
      refine wl_val (r_load_whole Try.underlying36 rfl Try.sizeOf36 rfl rfl (H25.f8).get.2) (ltn rfl) ?_
      refine wl_val (r_move rfl) (ltn rfl) ?_
      refine wl_eff (e_call (r_call rfl Try.func18 rfl rfl) (step_edit_ret H25 (fun W HW => (HW.f5).row_rd) (fun W HW => hi2 _ (HW.right.right.right.right.right.right.right.right.right)) (by omega) (by omega))) (ltn rfl) ?_
      rintro _ w26 ⟨q26, n26, d26, hq26, rfl, H26⟩
      obtain ⟨q2, rfl⟩ : ∃ q, q = q26 := ⟨_, rfl⟩
      obtain ⟨n2, rfl⟩ : ∃ n, n = n26 := ⟨_, rfl⟩
      have hq2 := hq26
      have hc2 := cutL_len hq2
      refine wl_eff (e_allocL (l := [_, _, _]) H26 Try.zeroValue24 rfl) (ltn rfl) ?_
      rintro _ w27 ⟨b27, rfl, H27⟩
      refine wl_eff0 (e_storePL 0 (l' := [_, _, _]) (us := [_, _, _]) H27 Try.sizeOf24 rfl rfl rfl (ones_cons (by first | rfl | assumption) (ones_cons (by first | rfl | exact Rd.one ((H27.f2).row_rd)) (ones_cons (by first | rfl | exact Rd.one (hi2 _ (H27.right.right.right.right.right.right.right.right.right.right.right))) ones_nil))) rfl rfl) ?_
      rintro _ w28 H28
      refine wl_nil ?_
      refine wq_seq ?_
      refine wc_seq ?_
      refine wc_region ?_
      refine wl_val (r_move rfl) (ltn rfl) ?_
      refine wl_val (r_load_whole Try.underlying24 rfl Try.sizeOf24 rfl rfl (H28).get.2) (ltn rfl) ?_
      refine wl_eff (e_call (r_call rfl Try.func9 rfl rfl) (undo_apply_ret H28 (fun W HW => (HW.f7).row_rd) (fun W HW => (HW.f2).row_rd) (fun W HW => hi2 _ (HW.right.right.right.right.right.right.right.right.right.right.right)) (by omega) (by omega) (by omega))) (ltn rfl) ?_
      rintro _ w29 ⟨u29, rfl, H29⟩
      refine wl_val (r_move rfl) (ltn rfl) ?_
      refine wl_val (r_extract rfl rfl) (ltn rfl) ?_
      refine wl_val (r_extract rfl rfl) (ltn rfl) ?_
      refine wl_val (r_assign rfl) (ltn rfl) ?_
      refine wl_val (r_assign rfl) (ltn rfl) ?_
      refine wl_nil ?_
      refine wq_seq ?_
      refine wc_seq ?_
      refine wc_region ?_
      refine wl_val (r_load_whole Try.underlying24 rfl Try.sizeOf24 rfl rfl (H29.f9).get.2) (ltn rfl) ?_
      refine wl_val (r_load_whole Try.underlying24 rfl Try.sizeOf24 rfl rfl (H29.f2).get.2) (ltn rfl) ?_
      refine wl_eff (e_call (r_call rfl Try.func11 rfl rfl) (undo_join_ret H29 (fun W HW => (HW.f10).row_rd) (fun W HW => hi _ (HW.right.right.right.right.right.right.right.right.right.right.right.right)) (fun W HW => (HW.f3).row_rd) (fun W HW => hi2 _ (HW.right.right.right.right.right.right.right.right.right.right.right.right)) (by omega) (by omega) (by omega) (by omega))) (ltn rfl) ?_
      rintro _ w30 ⟨d30, s30, rfl, H30⟩
      refine wl_val (r_move rfl) (ltn rfl) ?_
      refine wl_val (r_extract rfl rfl) (ltn rfl) ?_
      refine wl_val (r_extract rfl rfl) (ltn rfl) ?_
      refine wl_eff (e_allocL (l := [_, _, _]) H30 Try.zeroValue24 rfl) (ltn rfl) ?_
      rintro _ w31 ⟨b31, rfl, H31⟩
      refine wl_eff0 (e_storePL 0 (l' := [_, _, _]) (us := [_, _, _]) H31 Try.sizeOf24 rfl rfl rfl (ones_cons (by first | rfl | assumption) (ones_cons (by first | rfl | exact Rd.one ((H31.f2).row_rd)) (ones_cons (by first | rfl | exact Rd.one ((H31.f3).row_rd)) ones_nil))) rfl rfl) ?_
      rintro _ w32 H32
      refine wl_val (r_assign rfl) (ltn rfl) ?_
      refine wl_nil ?_
      refine wq_seq ?_
      refine wc_seq ?_
      refine wc_seq ?_
      refine wc_region ?_
      refine wl_val (r_move rfl) (ltn rfl) ?_
      refine wl_val (r_neq rfl rfl) (ltn rfl) ?_
      refine wl_split rfl (ltn rfl) (fun h13 => ?_) (fun h13 => ?_)
      · (try simp only [beq_iff_eq, bne_iff_ne, ne_eq, decide_eq_true_eq, decide_eq_false_iff_not, beq_eq_false_iff_ne, bne_eq_false_iff_eq, Bool.not_eq_true', Bool.not_eq_false', Bool.not_eq_eq_eq_not, Bool.not_true, Bool.not_false, gt_iff_lt, ge_iff_le, Int.not_lt, Int.not_le] at h13)
        refine wl_no rfl rfl rfl (ltn rfl) ?_
        refine wl_no rfl rfl rfl (ltn rfl) ?_
        refine wl_val (r_pick_t rfl rfl) (ltn rfl) ?_
        refine wl_nil ?_
        refine wq_seq ?_
        refine wc_cond_t rfl ?_
        refine wc_seq ?_
        refine wc_region ?_
        refine wl_val (r_move rfl) (ltn rfl) ?_
        refine wl_val (r_eql rfl rfl) (ltn rfl) ?_
        refine wl_split rfl (ltn rfl) (fun h14 => ?_) (fun h14 => ?_)
        · (try simp only [beq_iff_eq, bne_iff_ne, ne_eq, decide_eq_true_eq, decide_eq_false_iff_not, beq_eq_false_iff_ne, bne_eq_false_iff_eq, Bool.not_eq_true', Bool.not_eq_false', Bool.not_eq_eq_eq_not, Bool.not_true, Bool.not_false, gt_iff_lt, ge_iff_le, Int.not_lt, Int.not_le] at h14)
          refine wl_no rfl rfl rfl (ltn rfl) ?_
          refine wl_no rfl rfl rfl (ltn rfl) ?_
          refine wl_val (r_pick_t rfl rfl) (ltn rfl) ?_
          refine wl_val (r_assign rfl) (ltn rfl) ?_
          refine wl_nil ?_
          refine wq_seq ?_
          refine wc_ret ?_
          refine wq_then_ret ?_
          refine wq_end1 (.inl rfl) Try.results4 rfl ?_
          first
            | exact ⟨rfl, H32.base⟩
            | (have h9 := (uE_cut_or (il := il2) hq2).resolve_left (by assumption)
               exact ⟨by rw [h9]; rfl, H32.base⟩)
        · (try simp only [beq_iff_eq, bne_iff_ne, ne_eq, decide_eq_true_eq, decide_eq_false_iff_not, beq_eq_false_iff_ne, bne_eq_false_iff_eq, Bool.not_eq_true', Bool.not_eq_false', Bool.not_eq_eq_eq_not, Bool.not_true, Bool.not_false, gt_iff_lt, ge_iff_le, Int.not_lt, Int.not_le] at h14)
          refine wl_yes rfl rfl ?_
          refine wl_val (r_move rfl) (ltn rfl) ?_
          refine wl_yes rfl rfl ?_
          refine wl_val (r_eql rfl rfl) (ltn rfl) ?_
          refine wl_val (r_pick_f rfl rfl) (ltn rfl) ?_
          refine wl_val (r_assign rfl) (ltn rfl) ?_
          refine wl_nil ?_
          refine wq_seq ?_
          refine wc_ret ?_
          refine wq_then_ret ?_
          refine wq_end1 (.inl rfl) Try.results4 rfl ?_
          first
            | exact ⟨rfl, H32.base⟩
            | (have h9 := (uE_cut_or (il := il2) hq2).resolve_left (by assumption)
               exact ⟨by rw [h9]; rfl, H32.base⟩)
      · (try simp only [beq_iff_eq, bne_iff_ne, ne_eq, decide_eq_true_eq, decide_eq_false_iff_not, beq_eq_false_iff_ne, bne_eq_false_iff_eq, Bool.not_eq_true', Bool.not_eq_false', Bool.not_eq_eq_eq_not, Bool.not_true, Bool.not_false, gt_iff_lt, ge_iff_le, Int.not_lt, Int.not_le] at h13)
        have hE2 : uE (L.take q ++ il ++ L.drop (q + n)) q2 (cutL (L.take q ++ il ++ L.drop (q + n)) q2 n2) il2 = 0 := by assumption
        have hE2' := (uE_cut_ok hq2).1 hE2
        have hj1 := jD_len (k := (jK q q2 (cutL L q n) il (cutL (L.take q ++ il ++ L.drop (q + n)) q2 n2) il2)) (dl := cutL L q n) (dl2 := cutL (L.take q ++ il ++ L.drop (q + n)) q2 n2)
        have hj2 := jI_len (k := (jK q q2 (cutL L q n) il (cutL (L.take q ++ il ++ L.drop (q + n)) q2 n2) il2)) (il := il) (il2 := il2)
        refine wl_yes rfl rfl ?_
        refine wl_val (r_move rfl) (ltn rfl) ?_
        refine wl_yes rfl rfl ?_
        refine wl_val (r_not rfl) (ltn rfl) ?_
        refine wl_val (r_pick_f rfl rfl) (ltn rfl) ?_
        refine wl_nil ?_
        refine wq_seq ?_
        refine wc_cond rfl (fun h15 => ?_) (fun h15 => ?_)
        · (try simp only [beq_iff_eq, bne_iff_ne, ne_eq, decide_eq_true_eq, decide_eq_false_iff_not, beq_eq_false_iff_ne, bne_eq_false_iff_eq, Bool.not_eq_true', Bool.not_eq_false', Bool.not_eq_eq_eq_not, Bool.not_true, Bool.not_false, gt_iff_lt, ge_iff_le, Int.not_lt, Int.not_le] at h15)
          
          refine wc_seq ?_
          refine wc_region ?_
          refine wl_val (r_move rfl) (ltn rfl) ?_
          refine wl_val (r_eql rfl rfl) (ltn rfl) ?_
          refine wl_split rfl (ltn rfl) (fun h16 => ?_) (fun h16 => ?_)
          · (try simp only [beq_iff_eq, bne_iff_ne, ne_eq, decide_eq_true_eq, decide_eq_false_iff_not, beq_eq_false_iff_ne, bne_eq_false_iff_eq, Bool.not_eq_true', Bool.not_eq_false', Bool.not_eq_eq_eq_not, Bool.not_true, Bool.not_false, gt_iff_lt, ge_iff_le, Int.not_lt, Int.not_le] at h16)
            refine wl_no rfl rfl rfl (ltn rfl) ?_
            refine wl_no rfl rfl rfl (ltn rfl) ?_
            refine wl_val (r_pick_t rfl rfl) (ltn rfl) ?_
            refine wl_val (r_assign rfl) (ltn rfl) ?_
            refine wl_nil ?_
            refine wq_seq ?_
            refine wc_ret ?_
            refine wq_then_ret ?_
            refine wq_end1 (.inl rfl) Try.results4 rfl ?_
            first
              | exact ⟨rfl, H32.base⟩
              | (have h9 := (uE_cut_or (il := il2) hq2).resolve_left (by assumption)
                 exact ⟨by rw [h9]; rfl, H32.base⟩)
          · (try simp only [beq_iff_eq, bne_iff_ne, ne_eq, decide_eq_true_eq, decide_eq_false_iff_not, beq_eq_false_iff_ne, bne_eq_false_iff_eq, Bool.not_eq_true', Bool.not_eq_false', Bool.not_eq_eq_eq_not, Bool.not_true, Bool.not_false, gt_iff_lt, ge_iff_le, Int.not_lt, Int.not_le] at h16)
            refine wl_yes rfl rfl ?_
            refine wl_val (r_move rfl) (ltn rfl) ?_
            refine wl_yes rfl rfl ?_
            refine wl_val (r_eql rfl rfl) (ltn rfl) ?_
            refine wl_val (r_pick_f rfl rfl) (ltn rfl) ?_
            refine wl_val (r_assign rfl) (ltn rfl) ?_
            refine wl_nil ?_
            refine wq_seq ?_
            refine wc_ret ?_
            refine wq_then_ret ?_
            refine wq_end1 (.inl rfl) Try.results4 rfl ?_
            first
              | exact ⟨rfl, H32.base⟩
              | (have h9 := (uE_cut_or (il := il2) hq2).resolve_left (by assumption)
                 exact ⟨by rw [h9]; rfl, H32.base⟩)
        · (try simp only [beq_iff_eq, bne_iff_ne, ne_eq, decide_eq_true_eq, decide_eq_false_iff_not, beq_eq_false_iff_ne, bne_eq_false_iff_eq, Bool.not_eq_true', Bool.not_eq_false', Bool.not_eq_eq_eq_not, Bool.not_true, Bool.not_false, gt_iff_lt, ge_iff_le, Int.not_lt, Int.not_le] at h15)
          have hk : (jK q q2 (cutL L q n) il (cutL (L.take q ++ il ++ L.drop (q + n)) q2 n2) il2) ≠ 0 := by simpa using h15
          refine wc_skip ?_
          refine wq_seq ?_
          refine wc_seq ?_
          refine wc_region ?_
          refine wl_val (r_move rfl) (ltn rfl) ?_
          refine wl_val (r_load_whole Try.underlying24 rfl Try.sizeOf24 rfl rfl (H32).get.2) (ltn rfl) ?_
          refine wl_eff (e_call (r_call rfl Try.func9 rfl rfl) (undo_apply_ret H32 (fun W HW => hl _ (HW.right.right.right.right.right.right.right.right.right.right.right.right.right.right.right)) (fun W HW => (HW.f2).row_rd) (fun W HW => (HW.f3).row_rd) (by omega) (by omega) (by omega))) (ltn rfl) ?_
          rintro _ w33 ⟨u33, rfl, H33⟩
          have hJ := join_E (il2 := il2) hq (by rw [← ho]; exact hq2) hE hE2 hk
          rw [hJ.1]
          rw [hJ.2] at H33
          refine wl_val (r_move rfl) (ltn rfl) ?_
          refine wl_val (r_extract rfl rfl) (ltn rfl) ?_
          refine wl_val (r_extract rfl rfl) (ltn rfl) ?_
          refine wl_val (r_assign rfl) (ltn rfl) ?_
          refine wl_val (r_assign rfl) (ltn rfl) ?_
          refine wl_nil ?_
          refine wq_seq ?_
          refine wc_seq ?_
          refine wc_region ?_
          refine wl_val (r_move rfl) (ltn rfl) ?_
          refine wl_val (r_eql rfl rfl) (ltn rfl) ?_
          refine wl_split rfl (ltn rfl) (fun h17 => ?_) (fun h => by exfalso; (try simp only [beq_iff_eq, bne_iff_ne, ne_eq, decide_eq_true_eq, decide_eq_false_iff_not, beq_eq_false_iff_ne, bne_eq_false_iff_eq, Bool.not_eq_true', Bool.not_eq_false', Bool.not_eq_eq_eq_not, Bool.not_true, Bool.not_false, gt_iff_lt, ge_iff_le, Int.not_lt, Int.not_le] at h); simp at h)
          (try simp only [beq_iff_eq, bne_iff_ne, ne_eq, decide_eq_true_eq, decide_eq_false_iff_not, beq_eq_false_iff_ne, bne_eq_false_iff_eq, Bool.not_eq_true', Bool.not_eq_false', Bool.not_eq_eq_eq_not, Bool.not_true, Bool.not_false, gt_iff_lt, ge_iff_le, Int.not_lt, Int.not_le] at h17)
          refine wl_yes rfl rfl ?_
          refine wl_val (r_move rfl) (ltn rfl) ?_
          refine wl_yes rfl rfl ?_
          refine wl_val (r_move rfl) (ltn rfl) ?_
          refine wl_yes rfl rfl ?_
          refine wl_eff (e_call (r_call rfl Try.func14 rfl rfl) (same_runes_eq _ _ _ _ ((H33).row_rd) ((H33.f5).row_rd))) (ltn rfl) ?_
          rintro _ w34 ⟨rfl, hD34⟩
          have HD34 := H33.drewn hD34
          refine wl_val (r_pick_t rfl rfl) (ltn rfl) ?_
          refine wl_val (r_assign rfl) (ltn rfl) ?_
          refine wl_nil ?_
          refine wq_seq ?_
          refine wc_ret ?_
          refine wq_end1 (.inl rfl) Try.results4 rfl ?_
          exact ⟨rfl, HD34.base⟩
end Go.Proofs.Ytaabgcfeghcmnaa
