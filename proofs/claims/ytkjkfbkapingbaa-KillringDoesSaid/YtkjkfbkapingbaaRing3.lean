/- The kill ring's methods, further: Kill as one, Rotate, Yank, Clone. -/
import Derived.Test.YtkjkfbkapingbaaRing2
set_option linter.unusedSimpArgs false
set_option linter.unusedVariables false
namespace Go.Proofs.Ytkjkfbkapingbaa
open Go.RowKit

/-- Where a rotation leads to. -/
def rotM (m place : Nat) (n : Int) : Nat := (((place : Int) + n) % (m : Int)).toNat
theorem rotM_lt {m place : Nat} {n : Int} (h : 0 < m) : rotM m place n < m := by
  unfold rotM
  have h1 := Int.emod_nonneg ((place : Int) + n) (show (m : Int) ≠ 0 by omega)
  have h2 := Int.emod_lt_of_pos ((place : Int) + n) (show (0 : Int) < m by omega)
  omega
theorem tmod_bd (a : Int) {m : Int} (h : 0 < m) : -m < a.tmod m ∧ a.tmod m < m := by
  have h2 := Int.tmod_lt_of_pos a h
  have h3 := Int.tmod_lt_of_pos (-a) h
  rw [Int.neg_tmod] at h3
  omega
theorem tmod_same (a m : Int) : a.tmod m % m = a % m := by
  rw [Int.tmod_def]
  exact Int.sub_mul_emod_self_left a m (a.tdiv m)
theorem rot_eq (m place : Nat) (n : Int) (h : 0 < m) : (((place : Int) + n.tmod m).tmod m + m).tmod m = (rotM m place n : Int) := by
  have h1 := tmod_bd ((place : Int) + n.tmod m) (show (0 : Int) < m by omega)
  have h2 := Int.emod_nonneg ((place : Int) + n) (show (m : Int) ≠ 0 by omega)
  unfold rotM
  rw [Int.toNat_of_nonneg h2, Int.tmod_eq_emod_of_nonneg (by omega), Int.add_emod_right, tmod_same, Int.add_emod, tmod_same, ← Int.add_emod]

section
variable {w0 w : World} {F : HP} {p place : Nat} {E : List (List Int)} {v : Value} {l : List Int} {way : Int}
theorem ring_kill_ret (H : Holds w0 w (RingRep p E place • F)) (hr : FRdI w0 F .i32 v l) :
    Ret Try.prog 11 #[.pointer (some ⟨p, 0, none⟩), .int .i64 way, v] w fun v' w' => v' = .int .i64 (killM E place way l).1 ∧ Holds w0 w' (RingRep p (killM E place way l).2.1 (killM E place way l).2.2 • F) := by
  unfold killM
  by_cases h1 : way < 0 ∨ 2 < way
  · simp only [h1, if_true]; exact ring_kill_bad H hr h1
  · simp only [h1, if_false]
    by_cases h2 : 1024 < l.length
    · simp only [h2, if_true]; exact ring_kill_long H hr (by omega) h2
    · simp only [h2, if_false]
      by_cases h3 : way ≠ 0 ∧ 0 < E.length
      · rw [if_pos h3]
        by_cases h4 : 1024 < l.length + (E.getD 0 []).length
        · rw [if_pos h4]; exact ring_kill_too H hr (by omega) (by omega) h3.2 h4
        · rw [if_neg h4]; exact ring_kill_join H hr (by omega) h3.2 (by omega)
      · rw [if_neg h3]
        by_cases h5 : way = 0 ∧ l.length = 0
        · rw [if_pos h5]; obtain ⟨rfl, h6⟩ := h5; exact ring_kill_nothing H hr h6
        · rw [if_neg h5]; exact ring_kill_new H hr (by omega) (by omega) (by omega) h5

theorem ring_rotate_bell {n : Int} (H : Holds w0 w (RingRep p [] place • F)) :
    Ret Try.prog 15 #[.pointer (some ⟨p, 0, none⟩), .int .i64 n] w fun v' w' => v' = .tuple #[.slice none 0 0, .int .i64 6] ∧ Holds w0 w' (RingRep p [] place • F) := by
  obtain ⟨s, h, hs, hh, hE, hp, hm, ho, H1⟩ := H.ring
  have hb := H1.get.2
  refine ret_enter Try.func15 rfl Try.ntmps15 (Nat.le_of_ble_eq_true rfl) ?_
  dsimp only [slots0, Nat.reduceAdd]
  refine wc_seq ?_
  refine wc_region ?_
  refine wl_val (r_assign rfl) (ltn rfl) ?_
  refine wl_val (r_assign rfl) (ltn rfl) ?_
  refine wl_nil ?_
  refine wq_seq ?_
  refine wc_seq ?_
  refine wc_block ?_
  refine wc_seq ?_
  refine wc_region ?_
  refine wl_val (r_move rfl) (ltn rfl) ?_
  refine wl_eff (e_call (r_call rfl Try.func24 rfl rfl) (ring_none_ret _ hb ring_0)) (ltn rfl) ?_
  rintro _ _ ⟨rfl, rfl⟩
  refine wl_val (r_assign rfl) (ltn rfl) ?_
  refine wl_nil ?_
  refine wq_seq ?_
  refine wc_cond_f rfl ?_
  refine wc_seq ?_
  refine wc_region ?_
  refine wl_val (r_move rfl) (ltn rfl) ?_
  refine wl_val (r_nil rfl) (ltn rfl) ?_
  refine wl_val ((by first | exact r_field0 62 Try.underlying38 rfl rfl Try.sizeOf3 (by decide) rfl | exact r_field 62 Try.underlying38 rfl rfl Try.sizeOf3 (by decide) rfl)) (ltn rfl) ?_
  refine wl_val (r_load (plain_of Try.underlying3 rfl) rfl (cell_of_blk hb (ring_many hs))) (ltn rfl) ?_
  refine wl_val (r_eql rfl rfl) (ltn rfl) ?_
  refine wl_val (r_assign rfl) (ltn rfl) ?_
  refine wl_nil ?_
  refine wq_seq ?_
  refine wc_cond rfl (fun h1 => ?_) (fun h => by exfalso; (try simp only [beq_iff_eq, bne_iff_ne, ne_eq, decide_eq_true_eq, decide_eq_false_iff_not, beq_eq_false_iff_ne, bne_eq_false_iff_eq, Bool.not_eq_true', Bool.not_eq_false', Bool.not_eq_eq_eq_not, Bool.not_true, Bool.not_false, gt_iff_lt, ge_iff_le, Int.not_lt, Int.not_le] at h); first | contradiction | omega | (simp at h <;> omega))
  (try simp only [beq_iff_eq, bne_iff_ne, ne_eq, decide_eq_true_eq, decide_eq_false_iff_not, beq_eq_false_iff_ne, bne_eq_false_iff_eq, Bool.not_eq_true', Bool.not_eq_false', Bool.not_eq_eq_eq_not, Bool.not_true, Bool.not_false, gt_iff_lt, ge_iff_le, Int.not_lt, Int.not_le] at h1)
  refine wc_seq ?_
  refine wc_region ?_
  refine wl_val (r_assign rfl) (ltn rfl) ?_
  refine wl_val (r_assign rfl) (ltn rfl) ?_
  refine wl_nil ?_
  refine wq_seq ?_
  refine wc_ret ?_
  refine wq_block_ret ?_
  refine wq_then_ret ?_
  refine wq_end2 (.inl rfl) Try.results15 rfl rfl ?_
  exact ⟨rfl, H⟩
theorem ring_rotate_ret {n : Int} (H : Holds w0 w (RingRep p E place • F)) (h0 : 0 < E.length) :
    Ret Try.prog 15 #[.pointer (some ⟨p, 0, none⟩), .int .i64 n] w fun v' w' => ∃ u, v' = .tuple #[u, .int .i64 0] ∧
      Holds w0 w' (RowI 21 .i32 u (E.getD (rotM E.length place n) []) • RingRep p E (rotM E.length place n) • F) := by
  obtain ⟨s, h, hs, hh, hE, hp, hm, ho, H⟩ := H.ring
  have hb := H.get.2
  have hlt := rotM_lt (place := place) (n := n) h0
  have hrot := rot_eq E.length place n h0
  have hb1 := tmod_bd n (show (0 : Int) < E.length by omega)
  have hb2 := tmod_bd ((place : Int) + n.tmod E.length) (show (0 : Int) < E.length by omega)
  refine ret_enter Try.func15 rfl Try.ntmps15 (Nat.le_of_ble_eq_true rfl) ?_
  dsimp only [slots0, Nat.reduceAdd]
  refine wc_seq ?_
  refine wc_region ?_
  refine wl_val (r_assign rfl) (ltn rfl) ?_
  refine wl_val (r_assign rfl) (ltn rfl) ?_
  refine wl_nil ?_
  refine wq_seq ?_
  refine wc_seq ?_
  refine wc_block ?_
  refine wc_seq ?_
  refine wc_region ?_
  refine wl_val (r_move rfl) (ltn rfl) ?_
  refine wl_eff (e_call (r_call rfl Try.func24 rfl rfl) (ring_none_ret _ hb ring_0)) (ltn rfl) ?_
  rintro _ _ ⟨rfl, rfl⟩
  refine wl_val (r_assign rfl) (ltn rfl) ?_
  refine wl_nil ?_
  refine wq_seq ?_
  refine wc_cond_f rfl ?_
  refine wc_seq ?_
  refine wc_region ?_
  refine wl_val (r_move rfl) (ltn rfl) ?_
  refine wl_val (r_nil rfl) (ltn rfl) ?_
  refine wl_val ((by first | exact r_field0 62 Try.underlying38 rfl rfl Try.sizeOf3 (by decide) rfl | exact r_field 62 Try.underlying38 rfl rfl Try.sizeOf3 (by decide) rfl)) (ltn rfl) ?_
  refine wl_val (r_load (plain_of Try.underlying3 rfl) rfl (cell_of_blk hb (ring_many hs))) (ltn rfl) ?_
  refine wl_val (r_eql rfl rfl) (ltn rfl) ?_
  refine wl_val (r_assign rfl) (ltn rfl) ?_
  refine wl_nil ?_
  refine wq_seq ?_
  refine wc_cond rfl (fun h => by exfalso; (try simp only [beq_iff_eq, bne_iff_ne, ne_eq, decide_eq_true_eq, decide_eq_false_iff_not, beq_eq_false_iff_ne, bne_eq_false_iff_eq, Bool.not_eq_true', Bool.not_eq_false', Bool.not_eq_eq_eq_not, Bool.not_true, Bool.not_false, gt_iff_lt, ge_iff_le, Int.not_lt, Int.not_le] at h); first | contradiction | omega | (simp at h <;> omega)) (fun h1 => ?_)
  (try simp only [beq_iff_eq, bne_iff_ne, ne_eq, decide_eq_true_eq, decide_eq_false_iff_not, beq_eq_false_iff_ne, bne_eq_false_iff_eq, Bool.not_eq_true', Bool.not_eq_false', Bool.not_eq_eq_eq_not, Bool.not_true, Bool.not_false, gt_iff_lt, ge_iff_le, Int.not_lt, Int.not_le] at h1)
  refine wc_skip ?_
  refine wq_block_normal ?_
  refine wq_seq ?_
  refine wc_seq ?_
  refine wd_begin (n := 30) [0, 1, 2, 3, 4, 5, 6, 7, 8, 9, 10, 11, 12, 13, 14, 15, 16, 17, 18, 19, 20, 21, 22, 23, 24, 25, 26, 27, 28, 29] (fun W => W.heap = w.heap) (by kernel_rfl) (by kernel_rfl) rfl ?_
  have hS0 : (fun W => W.heap = w.heap) (w.drew) := rfl
  have H5d := H.drew
  refine wd_takeT 0 rfl (by kernel_rfl) (by kernel_rfl) hS0 (fun _ => r_move rfl) (ltn rfl) ?_
  refine wd_takeT 1 rfl (by kernel_rfl) (by kernel_rfl) hS0 (fun _ => r_move rfl) (ltn rfl) ?_
  refine wd_takeT 2 rfl (by kernel_rfl) (by kernel_rfl) hS0 (fun _ => r_nil rfl) (ltn rfl) ?_
  refine wd_takeT 3 rfl (by kernel_rfl) (by kernel_rfl) hS0 (fun _ => (by first | exact r_field0 63 Try.underlying38 rfl rfl Try.sizeOf3 (by decide) rfl | exact r_field 63 Try.underlying38 rfl rfl Try.sizeOf3 (by decide) rfl)) (ltn rfl) ?_
  refine wd_take 4 rfl (by kernel_rfl) (by kernel_rfl) hS0 (by decide) (fun W hW => r_load (plain_of Try.underlying3 rfl) rfl (cell_of_blk (by rw [hW]; exact hb) (ring_place hs))) (ltn rfl) ?_
  refine wd_takeT 5 rfl (by kernel_rfl) (by kernel_rfl) hS0 (fun _ => r_move rfl) (ltn rfl) ?_
  refine wd_takeT 6 rfl (by kernel_rfl) (by kernel_rfl) hS0 (fun _ => r_move rfl) (ltn rfl) ?_
  refine wd_takeT 7 rfl (by kernel_rfl) (by kernel_rfl) hS0 (fun _ => r_nil rfl) (ltn rfl) ?_
  refine wd_takeT 8 rfl (by kernel_rfl) (by kernel_rfl) hS0 (fun _ => (by first | exact r_field0 62 Try.underlying38 rfl rfl Try.sizeOf3 (by decide) rfl | exact r_field 62 Try.underlying38 rfl rfl Try.sizeOf3 (by decide) rfl)) (ltn rfl) ?_
  refine wd_take 9 rfl (by kernel_rfl) (by kernel_rfl) hS0 (by decide) (fun W hW => r_load (plain_of Try.underlying3 rfl) rfl (cell_of_blk (by rw [hW]; exact hb) (ring_many hs))) (ltn rfl) ?_
  refine wd_takeT 10 rfl (by kernel_rfl) (by kernel_rfl) hS0 (fun _ => r_trem rfl rfl (by omega)) (ltn rfl) ?_
  refine wd_takeT 11 rfl (by kernel_rfl) (by kernel_rfl) hS0 (fun _ => r_add rfl rfl (by omega)) (ltn rfl) ?_
  refine wd_takeT 12 rfl (by kernel_rfl) (by kernel_rfl) hS0 (fun _ => r_move rfl) (ltn rfl) ?_
  refine wd_takeT 13 rfl (by kernel_rfl) (by kernel_rfl) hS0 (fun _ => r_nil rfl) (ltn rfl) ?_
  refine wd_takeT 14 rfl (by kernel_rfl) (by kernel_rfl) hS0 (fun _ => (by first | exact r_field0 62 Try.underlying38 rfl rfl Try.sizeOf3 (by decide) rfl | exact r_field 62 Try.underlying38 rfl rfl Try.sizeOf3 (by decide) rfl)) (ltn rfl) ?_
  refine wd_take 15 rfl (by kernel_rfl) (by kernel_rfl) hS0 (by decide) (fun W hW => r_load (plain_of Try.underlying3 rfl) rfl (cell_of_blk (by rw [hW]; exact hb) (ring_many hs))) (ltn rfl) ?_
  refine wd_takeT 16 rfl (by kernel_rfl) (by kernel_rfl) hS0 (fun _ => r_trem rfl rfl (by omega)) (ltn rfl) ?_
  refine wd_takeT 17 rfl (by kernel_rfl) (by kernel_rfl) hS0 (fun _ => r_move rfl) (ltn rfl) ?_
  refine wd_takeT 18 rfl (by kernel_rfl) (by kernel_rfl) hS0 (fun _ => r_nil rfl) (ltn rfl) ?_
  refine wd_takeT 19 rfl (by kernel_rfl) (by kernel_rfl) hS0 (fun _ => (by first | exact r_field0 62 Try.underlying38 rfl rfl Try.sizeOf3 (by decide) rfl | exact r_field 62 Try.underlying38 rfl rfl Try.sizeOf3 (by decide) rfl)) (ltn rfl) ?_
  refine wd_take 20 rfl (by kernel_rfl) (by kernel_rfl) hS0 (by decide) (fun W hW => r_load (plain_of Try.underlying3 rfl) rfl (cell_of_blk (by rw [hW]; exact hb) (ring_many hs))) (ltn rfl) ?_
  refine wd_takeT 21 rfl (by kernel_rfl) (by kernel_rfl) hS0 (fun _ => r_add rfl rfl (by omega)) (ltn rfl) ?_
  refine wd_takeT 22 rfl (by kernel_rfl) (by kernel_rfl) hS0 (fun _ => r_move rfl) (ltn rfl) ?_
  refine wd_takeT 23 rfl (by kernel_rfl) (by kernel_rfl) hS0 (fun _ => r_nil rfl) (ltn rfl) ?_
  refine wd_takeT 24 rfl (by kernel_rfl) (by kernel_rfl) hS0 (fun _ => (by first | exact r_field0 62 Try.underlying38 rfl rfl Try.sizeOf3 (by decide) rfl | exact r_field 62 Try.underlying38 rfl rfl Try.sizeOf3 (by decide) rfl)) (ltn rfl) ?_
  refine wd_take 25 rfl (by kernel_rfl) (by kernel_rfl) hS0 (by decide) (fun W hW => r_load (plain_of Try.underlying3 rfl) rfl (cell_of_blk (by rw [hW]; exact hb) (ring_many hs))) (ltn rfl) ?_
  refine wd_takeT 26 rfl (by kernel_rfl) (by kernel_rfl) hS0 (fun _ => r_trem rfl rfl (by omega)) (ltn rfl) ?_
  refine wd_takeT 27 rfl (by kernel_rfl) (by kernel_rfl) hS0 (fun _ => r_nil rfl) (ltn rfl) ?_
  refine wd_takeT 28 rfl (by kernel_rfl) (by kernel_rfl) hS0 (fun _ => (by first | exact r_field0 63 Try.underlying38 rfl rfl Try.sizeOf3 (by decide) rfl | exact r_field 63 Try.underlying38 rfl rfl Try.sizeOf3 (by decide) rfl)) (ltn rfl) ?_
  refine wd_eff0 29 rfl (by kernel_rfl) (e_store H5d Try.sizeOf3 rfl rfl rfl (by rw [ring_size hs]; decide)) ?_
  rintro _ w2 H2
  rw [hrot, ring_set_place hs] at H2
  refine keepE (by kernel_rfl) ?_
  refine wd_done (by kernel_rfl) ?_
  refine wq_seq ?_
  refine wc_seq ?_
  refine wc_region ?_
  refine wl_val (r_move rfl) (ltn rfl) ?_
  refine wl_val (r_move rfl) (ltn rfl) ?_
  refine wl_val (r_nil rfl) (ltn rfl) ?_
  refine wl_val ((by first | exact r_field0 63 Try.underlying38 rfl rfl Try.sizeOf3 (by decide) rfl | exact r_field 63 Try.underlying38 rfl rfl Try.sizeOf3 (by decide) rfl)) (ltn rfl) ?_
  refine wl_val (r_load (plain_of Try.underlying3 rfl) rfl (cell_of_blk H2.get.2 (ring_place hs))) (ltn rfl) ?_
  refine wl_eff (e_call (r_call rfl Try.func25 rfl rfl) (ring_at_ret hs hh (by omega) H2.get.2)) (ltn rfl) ?_
  rintro _ w3 ⟨rfl, hD2⟩
  have H3 := H2.drewn hD2
  refine wl_eff (e_call (r_call rfl Try.func28 rfl rfl) (clone_ret H3 (fun W HW => HW.right.slots_rd (i := rotM E.length place n) hlt) (by have := hm (E.getD (rotM E.length place n) []) (by rw [List.getD_eq_getElem?_getD, List.getElem?_eq_getElem hlt]; simp); omega))) (ltn rfl) ?_
  rintro u w4 H4
  refine wl_val (r_assign rfl) (ltn rfl) ?_
  refine wl_val (r_assign rfl) (ltn rfl) ?_
  refine wl_nil ?_
  refine wq_seq ?_
  refine wc_ret ?_
  refine wq_end2 (.inl rfl) Try.results15 rfl rfl ?_
  exact ⟨u, rfl, (Holds.mk_ring hs hh hE (.inl hlt) hm ho H4.d3).swap⟩

theorem ring_yank_bell (H : Holds w0 w (RingRep p [] place • F)) :
    Ret Try.prog 12 #[.pointer (some ⟨p, 0, none⟩)] w fun v' w' => v' = .tuple #[.slice none 0 0, .int .i64 6] ∧ Holds w0 w' (RingRep p [] place • F) := by
  refine ret_enter Try.func12 rfl Try.ntmps12 (Nat.le_of_ble_eq_true rfl) ?_
  dsimp only [slots0, Nat.reduceAdd]
  refine wc_seq ?_
  refine wc_region ?_
  refine wl_val (r_assign rfl) (ltn rfl) ?_
  refine wl_val (r_assign rfl) (ltn rfl) ?_
  refine wl_nil ?_
  refine wq_seq ?_
  refine wc_seq ?_
  refine wc_region ?_
  refine wl_val (r_move rfl) (ltn rfl) ?_
  refine wl_eff (e_call (r_call rfl Try.func15 rfl rfl) (ring_rotate_bell H)) (ltn rfl) ?_
  rintro _ w1 ⟨rfl, H1⟩
  refine wl_val (r_extract rfl rfl) (ltn rfl) ?_
  refine wl_val (r_extract rfl rfl) (ltn rfl) ?_
  refine wl_val (r_assign rfl) (ltn rfl) ?_
  refine wl_val (r_assign rfl) (ltn rfl) ?_
  refine wl_nil ?_
  refine wq_seq ?_
  refine wc_ret ?_
  refine wq_end2 (.inl rfl) Try.results12 rfl rfl ?_
  exact ⟨rfl, H1⟩
theorem rotM_zero {m place : Nat} (h : place < m) : rotM m place 0 = place := by
  unfold rotM
  rw [Int.add_zero, Int.emod_eq_of_lt (by omega) (by omega)]
  omega
theorem ring_yank_ret (H : Holds w0 w (RingRep p E place • F)) (h0 : 0 < E.length) :
    Ret Try.prog 12 #[.pointer (some ⟨p, 0, none⟩)] w fun v' w' => ∃ u, v' = .tuple #[u, .int .i64 0] ∧
      Holds w0 w' (RowI 21 .i32 u (E.getD place []) • RingRep p E place • F) := by
  obtain ⟨s, h, hs, hh, hE, hp, hm, ho, H1⟩ := H.ring
  have hpl : rotM E.length place 0 = place := rotM_zero (by omega)
  refine ret_enter Try.func12 rfl Try.ntmps12 (Nat.le_of_ble_eq_true rfl) ?_
  dsimp only [slots0, Nat.reduceAdd]
  refine wc_seq ?_
  refine wc_region ?_
  refine wl_val (r_assign rfl) (ltn rfl) ?_
  refine wl_val (r_assign rfl) (ltn rfl) ?_
  refine wl_nil ?_
  refine wq_seq ?_
  refine wc_seq ?_
  refine wc_region ?_
  refine wl_val (r_move rfl) (ltn rfl) ?_
  refine wl_eff (e_call (r_call rfl Try.func15 rfl rfl) (ring_rotate_ret H h0)) (ltn rfl) ?_
  rintro _ w1 ⟨u, rfl, H1⟩
  refine wl_val (r_extract rfl rfl) (ltn rfl) ?_
  refine wl_val (r_extract rfl rfl) (ltn rfl) ?_
  refine wl_val (r_assign rfl) (ltn rfl) ?_
  refine wl_val (r_assign rfl) (ltn rfl) ?_
  refine wl_nil ?_
  refine wq_seq ?_
  refine wc_ret ?_
  refine wq_end2 (.inl rfl) Try.results12 rfl rfl ?_
  rw [hpl] at H1; exact ⟨u, rfl, H1⟩

theorem Holds.slots_dup {s : List Value} {h : Nat} (H : Holds w0 w (slotsHP s h E • F)) : Holds w0 w (slotsHP s h E • slotsHP s h E • F) := H.dup_know
theorem ring_ones {s : List Value} {h n p : Nat} (ho : ∀ v ∈ s, v.oneCell' = true) : ∀ v ∈ (ringCells s h n p).toList, v.oneCell' = true := by
  intro v hv
  simp [ringCells] at hv
  rcases hv with rfl | hv | rfl | rfl | rfl <;> first | rfl | exact ho v hv
theorem ring_clone_ret (H : Holds w0 w (RingRep p E place • F)) :
    Ret Try.prog 16 #[.pointer (some ⟨p, 0, none⟩)] w fun v' w' => ∃ q, v' = .pointer (some ⟨q, 0, none⟩) ∧ Holds w0 w' (RingRep q E place • RingRep p E place • F) := by
  obtain ⟨s, h, hs, hh, hE, hp, hm, ho, H⟩ := H.ring
  have hb := H.get.2
  refine ret_enter Try.func16 rfl Try.ntmps16 (Nat.le_of_ble_eq_true rfl) ?_
  dsimp only [slots0, Nat.reduceAdd]
  refine wc_seq ?_
  refine wc_region ?_
  refine wl_val (r_assign rfl) (ltn rfl) ?_
  refine wl_nil ?_
  refine wq_seq ?_
  refine wc_seq ?_
  refine wc_seq ?_
  refine wc_region ?_
  refine wl_val (r_move rfl) (ltn rfl) ?_
  refine wl_eff (e_call (r_call rfl Try.func24 rfl rfl) (ring_none_ret _ hb ring_0)) (ltn rfl) ?_
  rintro _ _ ⟨rfl, rfl⟩
  refine wl_nil ?_
  refine wq_seq ?_
  refine wc_cond_f rfl ?_
  refine wc_skip ?_
  refine wq_seq ?_
  refine wc_seq ?_
  refine wc_region ?_
  refine wl_val (r_move rfl) (ltn rfl) ?_
  refine wl_val (r_nil rfl) (ltn rfl) ?_
  refine wl_val (r_load_whole Try.underlying38 rfl Try.sizeOf38 (ring_size hs) rfl hb) (ltn rfl) ?_
  refine wl_eff (e_alloc H Try.zeroValue38) (ltn rfl) ?_
  rintro _ w2 ⟨b2, rfl, H2⟩
  refine wl_eff0 (e_store_whole H2 Try.sizeOf38 (ring_size hs) rfl rfl rfl (ring_ones ho)) ?_
  rintro _ w3 H3
  refine wl_nil ?_
  refine wq_seq ?_
  refine wc_seq ?_
  refine wc_region ?_
  refine wl_val (r_assign rfl) (ltn rfl) ?_
  refine wl_nil ?_
  refine wq_seq ?_
  refine wc_ret ?_
  refine wq_end1 (.inl rfl) Try.results16 rfl ?_
  exact ⟨_, rfl, Holds.mk_ring hs hh hE hp hm ho (Holds.mk_ring hs hh hE hp hm ho (H3.rot.slots_dup.r4)).swap.rot⟩
end
end Go.Proofs.Ytkjkfbkapingbaa
