/- Undo: the answers that the document fixes. -/
import Derived.Test.YtaabgcfeghcmnaaUList4
set_option linter.unusedSimpArgs false
set_option linter.unusedVariables false
namespace Go.Proofs.Ytaabgcfeghcmnaa
open Go.RowKit
section
variable {w0 w : World} {F : HP} {l : List Int}
theorem runes_of_ret {s : ByteArray} (H : Holds w0 w F) (hl : Conv.runesFrom s s.size 0 #[] = (l.map (Value.int .i32)).toArray) (hb : l.length ≤ 70368744177664) :
    Ret Try.prog 49 #[.string s] w fun v w' => Holds w0 w' (RowI 21 .i32 v l • F) := by
  refine ret_enter Try.func49 rfl Try.ntmps49 (Nat.le_of_ble_eq_true rfl) ?_
  dsimp only [slots0, Nat.reduceAdd]
  refine wc_seq ?_
  refine wc_region ?_
  refine wl_val (r_assign rfl) (ltn rfl) ?_
  refine wl_nil ?_
  refine wq_seq ?_
  refine wc_seq ?_
  refine wc_region ?_
  refine wl_val (r_move rfl) (ltn rfl) ?_
  refine wl_eff (e_str_runes H Try.underlying9 Try.underlying22 Try.underlying21 rfl hl hb) (ltn rfl) ?_
  rintro u w1 H1
  refine wl_val (r_assign rfl) (ltn rfl) ?_
  refine wl_nil ?_
  refine wq_seq ?_
  refine wc_ret ?_
  refine wq_end1 (.inl rfl) Try.results49 rfl ?_
  exact H1
theorem Holds.edsK_at {es : List BEd} (H : Holds w0 w (edsK es • F)) {k : Nat} (hk : k < es.length) : Holds w0 w (immI .i32 (es.getD k default).d (es.getD k default).dl • edsK es • F) := H.dup_know.ent (know_ent (fun I h => (h k hk).1) _)
theorem begun_ret (H : Holds w0 w F) : Ret Try.prog 13 #[] w fun v w' => v = .bool true ∧ Holds w0 w' F := by
  refine ret_enter Try.func13 rfl Try.ntmps13 (Nat.le_of_ble_eq_true rfl) ?_
  dsimp only [slots0, Nat.reduceAdd]
  refine wc_seq ?_
  refine wc_region ?_
  refine wl_val (r_assign rfl) (ltn rfl) ?_
  refine wl_nil ?_
  refine wq_seq ?_
  refine wc_seq ?_
  refine wc_region ?_
  refine wl_eff (e_call (r_call rfl Try.func19 rfl rfl) (undo_new_ret H)) (ltn rfl) ?_
  rintro _ w1 ⟨p1, rfl, H1⟩
  refine wl_val (r_assign rfl) (ltn rfl) ?_
  refine wl_nil ?_
  refine wq_seq ?_
  refine wc_seq ?_
  refine wc_region ?_
  refine wl_eff (e_call (r_call rfl Try.func49 rfl rfl) (runes_of_ret H1 (l := [97]) (by kernel_rfl) (by decide))) (ltn rfl) ?_
  rintro u2 w2 H2
  obtain ⟨au2, cu2, eu2, -⟩ := RdI.open ((H2).row_rd)
  subst eu2
  refine wl_val (r_build (pl := #[(0, 1), (1, 1), (2, 1)]) (_) Try.underlying24 Try.zeroValue24 (fun w => by kernel_rfl) rfl (rfl)) (ltn rfl) ?_
  refine wl_eff (e_allocL (l := [_, _, _]) H2 Try.zeroValue24 rfl) (ltn rfl) ?_
  rintro _ w4 ⟨b4, rfl, H4⟩
  refine wl_eff0 (e_storePL 0 (l' := [_, _, _]) (us := [_, _, _]) H4 Try.sizeOf24 rfl rfl rfl (ones_cons (by first | rfl | assumption) (ones_cons (by first | rfl | assumption) (ones_cons (by first | rfl | exact Rd.one ((H4.f2).row_rd)) ones_nil))) rfl rfl) ?_
  rintro _ w5 H5
  refine wl_nil ?_
  refine wq_seq ?_
  refine wc_seq ?_
  have H3d5 := H5.drew
  have hS3d5 := Holds.kp (H3d5.f3.f3.f3)
  refine wd_beginK [1] hS3d5 (by kernel_rfl) (by kernel_rfl) rfl ?_
  refine wd_take 1 rfl (by kernel_rfl) (by kernel_rfl) hS3d5 (by decide) (fun W hW => r_load_whole Try.underlying24 rfl Try.sizeOf24 rfl rfl ((Kp.h hW)).get.2) (ltn rfl) ?_
  refine wd_eff 0 rfl (by kernel_rfl) (e_call (r_call rfl Try.func49 rfl rfl) (runes_of_ret H3d5 (l := [98]) (by kernel_rfl) (by decide))) (ltn rfl) ?_
  rintro u6 w6 H6
  have hS6n := Holds.kp (H6.f4.f4.f4.f4)
  refine keepK hS6n (fun W hW => (Kp.h hW).right.f3.f3.f3) ?_
  refine wd_eff 2 rfl (by kernel_rfl) (e_call (r_call rfl Try.func9 rfl rfl) (undo_apply_ret H6 (fun W HW => (HW).row_rd) (fun W _ => RdI.nil W _ none 0 (by decide)) (fun W HW => (HW.f3).row_rd) (by decide) (by decide) (by decide))) (ltn rfl) ?_
  rintro _ w7 ⟨u7, rfl, H7⟩
  rw [show uE [98] 0 [] [97] = 0 from by decide]
  rw [show uL [98] 0 [] [97] = [97, 98] from by decide] at H7
  have hS7n := Holds.kp (H7.f5.f5.f5.f5.f5)
  refine keepX hS7n (by kernel_rfl) ?_
  refine wd_takeT 3 rfl (by kernel_rfl) (by kernel_rfl) hS7n (fun _ => r_move rfl) (ltn rfl) ?_
  refine wd_takeT 4 rfl (by kernel_rfl) (by kernel_rfl) hS7n (fun _ => r_extract rfl rfl) (ltn rfl) ?_
  refine wd_takeT 5 rfl (by kernel_rfl) (by kernel_rfl) hS7n (fun _ => r_extract rfl rfl) (ltn rfl) ?_
  refine wd_takeT 6 rfl (by kernel_rfl) (by kernel_rfl) hS7n (fun _ => r_assign rfl) (ltn rfl) ?_
  refine wd_takeT 7 rfl (by kernel_rfl) (by kernel_rfl) hS7n (fun _ => r_assign rfl) (ltn rfl) ?_
  refine wd_done (by kernel_rfl) ?_
  refine wq_seq ?_
  refine wc_seq ?_
  refine wc_seq ?_
  refine wc_region ?_
  refine wl_val (r_move rfl) (ltn rfl) ?_
  refine wl_val (r_ptr_nil Try.underlying40 rfl rfl) (ltn rfl) ?_
  refine wl_split rfl (ltn rfl) (fun h => by exfalso; (try simp only [beq_iff_eq, bne_iff_ne, ne_eq, decide_eq_true_eq, decide_eq_false_iff_not, beq_eq_false_iff_ne, bne_eq_false_iff_eq, Bool.not_eq_true', Bool.not_eq_false', Bool.not_eq_eq_eq_not, Bool.not_true, Bool.not_false, gt_iff_lt, ge_iff_le, Int.not_lt, Int.not_le] at h); simp at h) (fun h1 => ?_)
  (try simp only [beq_iff_eq, bne_iff_ne, ne_eq, decide_eq_true_eq, decide_eq_false_iff_not, beq_eq_false_iff_ne, bne_eq_false_iff_eq, Bool.not_eq_true', Bool.not_eq_false', Bool.not_eq_eq_eq_not, Bool.not_true, Bool.not_false, gt_iff_lt, ge_iff_le, Int.not_lt, Int.not_le] at h1)
  refine wl_yes rfl rfl ?_
  refine wl_val (r_move rfl) (ltn rfl) ?_
  refine wl_yes rfl rfl ?_
  refine wl_val (r_neq rfl rfl) (ltn rfl) ?_
  refine wl_val (r_pick_f rfl rfl) (ltn rfl) ?_
  refine wl_split rfl (ltn rfl) (fun h => by exfalso; (try simp only [beq_iff_eq, bne_iff_ne, ne_eq, decide_eq_true_eq, decide_eq_false_iff_not, beq_eq_false_iff_ne, bne_eq_false_iff_eq, Bool.not_eq_true', Bool.not_eq_false', Bool.not_eq_eq_eq_not, Bool.not_true, Bool.not_false, gt_iff_lt, ge_iff_le, Int.not_lt, Int.not_le] at h); simp at h) (fun h2 => ?_)
  (try simp only [beq_iff_eq, bne_iff_ne, ne_eq, decide_eq_true_eq, decide_eq_false_iff_not, beq_eq_false_iff_ne, bne_eq_false_iff_eq, Bool.not_eq_true', Bool.not_eq_false', Bool.not_eq_eq_eq_not, Bool.not_true, Bool.not_false, gt_iff_lt, ge_iff_le, Int.not_lt, Int.not_le] at h2)
  refine wl_yes rfl rfl ?_
  refine wl_val (r_move rfl) (ltn rfl) ?_
  refine wl_yes rfl rfl ?_
  refine wl_val (r_runes_str Try.underlying22 Try.underlying9 Try.underlying21 rfl ((H7).row_rd)) (ltn rfl) ?_
  refine wl_yes rfl rfl ?_
  refine wl_val (r_known_f (r_str_neq rfl rfl) (by kernel_rfl)) (ltn rfl) ?_
  refine wl_val (r_pick_f rfl rfl) (ltn rfl) ?_
  refine wl_val (r_move rfl) (ltn rfl) ?_
  refine wl_yes rfl rfl ?_
  refine wl_val (r_move rfl) (ltn rfl) ?_
  refine wl_yes rfl rfl ?_
  refine wl_val (r_load_whole Try.underlying24 rfl Try.sizeOf24 rfl rfl (H7.f3).get.2) (ltn rfl) ?_
  refine wl_yes rfl rfl ?_
  refine wl_eff (e_call (r_call rfl Try.func21 rfl rfl) (undo_add_ret H7.f5 (fun W _ => RdI.nil W _ none 0 (by decide)) (fun W HW => (HW.f4).row_rd) (by decide) (by decide))) (ltn rfl) ?_
  rintro _ w8 ⟨rfl, H8⟩
  rw [show addE [] [] 0 [] [97] = 0 from by decide]
  rw [show addG [] [] 0 0 [] [97] = [[(0, [], [97])]] from by decide, show addN [] [] 0 0 [] [97] = [] from by decide] at H8
  refine wl_yes rfl rfl ?_
  refine wl_val (r_neq rfl rfl) (ltn rfl) ?_
  refine wl_val (r_pick_f rfl rfl) (ltn rfl) ?_
  refine wl_split rfl (ltn rfl) (fun h => by exfalso; (try simp only [beq_iff_eq, bne_iff_ne, ne_eq, decide_eq_true_eq, decide_eq_false_iff_not, beq_eq_false_iff_ne, bne_eq_false_iff_eq, Bool.not_eq_true', Bool.not_eq_false', Bool.not_eq_eq_eq_not, Bool.not_true, Bool.not_false, gt_iff_lt, ge_iff_le, Int.not_lt, Int.not_le] at h); simp at h) (fun h3 => ?_)
  (try simp only [beq_iff_eq, bne_iff_ne, ne_eq, decide_eq_true_eq, decide_eq_false_iff_not, beq_eq_false_iff_ne, bne_eq_false_iff_eq, Bool.not_eq_true', Bool.not_eq_false', Bool.not_eq_eq_eq_not, Bool.not_true, Bool.not_false, gt_iff_lt, ge_iff_le, Int.not_lt, Int.not_le] at h3)
  refine wl_yes rfl rfl ?_
  refine wl_val (r_move rfl) (ltn rfl) ?_
  refine wl_yes rfl rfl ?_
  refine wl_eff (e_call (r_call rfl Try.func27 rfl rfl) (undo_len_ret H8)) (ltn rfl) ?_
  rintro _ w9 ⟨rfl, H9⟩
  refine wl_yes rfl rfl ?_
  refine wl_val (r_neq rfl rfl) (ltn rfl) ?_
  refine wl_val (r_pick_f rfl rfl) (ltn rfl) ?_
  refine wl_nil ?_
  refine wq_seq ?_
  refine wc_cond rfl (fun h => by exfalso; (try simp only [beq_iff_eq, bne_iff_ne, ne_eq, decide_eq_true_eq, decide_eq_false_iff_not, beq_eq_false_iff_ne, bne_eq_false_iff_eq, Bool.not_eq_true', Bool.not_eq_false', Bool.not_eq_eq_eq_not, Bool.not_true, Bool.not_false, gt_iff_lt, ge_iff_le, Int.not_lt, Int.not_le] at h); simp at h) (fun h4 => ?_)
  (try simp only [beq_iff_eq, bne_iff_ne, ne_eq, decide_eq_true_eq, decide_eq_false_iff_not, beq_eq_false_iff_ne, bne_eq_false_iff_eq, Bool.not_eq_true', Bool.not_eq_false', Bool.not_eq_eq_eq_not, Bool.not_true, Bool.not_false, gt_iff_lt, ge_iff_le, Int.not_lt, Int.not_le] at h4)
  refine wc_skip ?_
  refine wq_seq ?_
  refine wc_seq ?_
  refine wc_region ?_
  refine wl_val (r_move rfl) (ltn rfl) ?_
  refine wl_eff (e_call (r_call rfl Try.func33 rfl rfl) (undo_undo_ret H9)) (ltn rfl) ?_
  rintro _ w10 ⟨u10, fs10, rfl, hfs10, H10⟩
  rw [show undoE [[(0, [], [97])]] [] = 0 from by decide]
  rw [show undoR [[(0, [], [97])]] [] = [(0, [97], [])] from by decide] at hfs10
  obtain ⟨⟨fa, fd, fdl, fi, fil⟩, rfl⟩ : ∃ f, fs10 = [f] := by
    cases fs10 with
    | nil => exact absurd (congrArg List.length hfs10) (by simp)
    | cons f r =>
      cases r with
      | nil => exact ⟨f, rfl⟩
      | cons g r => exact absurd (congrArg List.length hfs10) (by simp)
  obtain rfl : fdl = [97] := congrArg (fun l => (l.getD 0 (0, [], [])).2.1) hfs10
  simp only [List.length_singleton] at H10
  have Ho11 := H10.f2
  have Hc12 := Ho11.edsK_at (k := 0) (by simp)
  refine wl_val (r_move rfl) (ltn rfl) ?_
  refine wl_val (r_extract rfl rfl) (ltn rfl) ?_
  refine wl_val (r_extract rfl rfl) (ltn rfl) ?_
  refine wl_val (r_assign rfl) (ltn rfl) ?_
  refine wl_val (r_assign rfl) (ltn rfl) ?_
  refine wl_nil ?_
  refine wq_seq ?_
  refine wc_seq ?_
  refine wc_region ?_
  refine wl_val (r_move rfl) (ltn rfl) ?_
  refine wl_val (r_eql rfl rfl) (ltn rfl) ?_
  refine wl_split rfl (ltn rfl) (fun h5 => ?_) (fun h => by exfalso; (try simp only [beq_iff_eq, bne_iff_ne, ne_eq, decide_eq_true_eq, decide_eq_false_iff_not, beq_eq_false_iff_ne, bne_eq_false_iff_eq, Bool.not_eq_true', Bool.not_eq_false', Bool.not_eq_eq_eq_not, Bool.not_true, Bool.not_false, gt_iff_lt, ge_iff_le, Int.not_lt, Int.not_le] at h); simp at h)
  (try simp only [beq_iff_eq, bne_iff_ne, ne_eq, decide_eq_true_eq, decide_eq_false_iff_not, beq_eq_false_iff_ne, bne_eq_false_iff_eq, Bool.not_eq_true', Bool.not_eq_false', Bool.not_eq_eq_eq_not, Bool.not_true, Bool.not_false, gt_iff_lt, ge_iff_le, Int.not_lt, Int.not_le] at h5)
  refine wl_yes rfl rfl ?_
  refine wl_val (r_move rfl) (ltn rfl) ?_
  refine wl_yes rfl rfl ?_
  refine wl_val (r_lenS ((Hc12.f3).row_rd) Try.underlying39 rfl) (ltn rfl) ?_
  refine wl_yes rfl rfl ?_
  refine wl_val (r_eql rfl rfl) (ltn rfl) ?_
  refine wl_val (r_pick_t rfl rfl) (ltn rfl) ?_
  refine wl_split rfl (ltn rfl) (fun h6 => ?_) (fun h => by exfalso; (try simp only [beq_iff_eq, bne_iff_ne, ne_eq, decide_eq_true_eq, decide_eq_false_iff_not, beq_eq_false_iff_ne, bne_eq_false_iff_eq, Bool.not_eq_true', Bool.not_eq_false', Bool.not_eq_eq_eq_not, Bool.not_true, Bool.not_false, gt_iff_lt, ge_iff_le, Int.not_lt, Int.not_le] at h); simp at h)
  (try simp only [beq_iff_eq, bne_iff_ne, ne_eq, decide_eq_true_eq, decide_eq_false_iff_not, beq_eq_false_iff_ne, bne_eq_false_iff_eq, Bool.not_eq_true', Bool.not_eq_false', Bool.not_eq_eq_eq_not, Bool.not_true, Bool.not_false, gt_iff_lt, ge_iff_le, Int.not_lt, Int.not_le] at h6)
  refine wl_yes rfl rfl ?_
  refine wl_val (r_move rfl) (ltn rfl) ?_
  refine wl_yes rfl rfl ?_
  obtain ⟨bu10, ou10, cu10, eu10⟩ := Rd.posV ((Hc12.f3).row_rd) (by omega)
  cases eu10
  refine wl_val (r_index Try.underlying39 Try.sizeOf24 rfl rfl (by omega)) (ltn rfl) ?_
  refine wl_yes rfl rfl ?_
  refine wl_val ((by first | exact r_field0 1 Try.underlying24 rfl rfl Try.sizeOf22 (by decide) rfl | exact r_field 1 Try.underlying24 rfl rfl Try.sizeOf22 (by decide) rfl)) (ltn rfl) ?_
  refine wl_yes rfl rfl ?_
  refine wl_val (r_load (plain_of Try.underlying22 rfl) rfl (Rd.atS (i := 0) (Hc12.f3).row_rd (by simp) (by decide))) (ltn rfl) ?_
  refine wl_yes rfl rfl ?_
  refine wl_val (r_runes_str Try.underlying22 Try.underlying9 Try.underlying21 rfl ((Hc12).imm_rd)) (ltn rfl) ?_
  refine wl_yes rfl rfl ?_
  refine wl_val (r_known_t (r_str_eql rfl rfl) (by kernel_rfl)) (ltn rfl) ?_
  refine wl_val (r_pick_t rfl rfl) (ltn rfl) ?_
  refine wl_val (r_assign rfl) (ltn rfl) ?_
  refine wl_nil ?_
  refine wq_seq ?_
  refine wc_ret ?_
  refine wq_end1 (.inl rfl) Try.results13 rfl ?_
  exact ⟨rfl, Hc12.right.right.right.right.right.right.right.right⟩
end
end Go.Proofs.Ytaabgcfeghcmnaa
