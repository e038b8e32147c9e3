import Derived.Test.YtgmpclifphbjkaaGreatDoorZ9
import Derived.Test.YtgmpclifphbjkaaGreatDoorZ7
import Derived.Test.YtgmpclifphbjkaaGreatDoorZ4
import Derived.Test.YtgmpclifphbjkaaGreatDoorZ3
/- Texts of mine, joined: Ring3 RingAny LL Flat Undo1 Undo2 LitS Eds. -/
section
/- The kill ring's methods, further: Kill as one, Rotate, Yank, Clone. -/
set_option linter.unusedSimpArgs false
set_option linter.unusedVariables false
namespace Go.Proofs.YtgmpclifphbjkaaGreatDoor
open Go.RowKit

/-- Where a rotation leads to. -/
def rotM (m place : Nat) (n : Int) : Nat := (((place : Int) + n) % (m : Int)).toNat
theorem rotM_lt {m place : Nat} {n : Int} (h : 0 < m) : rotM m place n < m := by
  unfold rotM
  have h1 := Int.emod_nonneg ((place : Int) + n) (show (m : Int) ≠ 0 by omega)
  have h2 := Int.emod_lt_of_pos ((place : Int) + n) (show (0 : Int) < m by omega)
  omega
theorem tmod_bd (a : Int) {m : Int} (h : 0 < m) : -m < a.tmod m ∧ a.tmod m < m := by
  have h2 := Int.tmod_lt_of_pos a h
  have h3 := Int.tmod_lt_of_pos (-a) h
  rw [Int.neg_tmod] at h3
  omega
theorem tmod_same (a m : Int) : a.tmod m % m = a % m := by
  rw [Int.tmod_def]
  exact Int.sub_mul_emod_self_left a m (a.tdiv m)
theorem rot_eq (m place : Nat) (n : Int) (h : 0 < m) : (((place : Int) + n.tmod m).tmod m + m).tmod m = (rotM m place n : Int) := by
  have h1 := tmod_bd ((place : Int) + n.tmod m) (show (0 : Int) < m by omega)
  have h2 := Int.emod_nonneg ((place : Int) + n) (show (m : Int) ≠ 0 by omega)
  unfold rotM
  rw [Int.toNat_of_nonneg h2, Int.tmod_eq_emod_of_nonneg (by omega), Int.add_emod_right, tmod_same, Int.add_emod, tmod_same, ← Int.add_emod]

section
variable {w0 w : World} {F : HP} {p place : Nat} {E : List (List Int)} {v : Value} {l : List Int} {way : Int}
theorem ring_kill_ret (H : Holds w0 w (RingRep p E place • F)) (hr : FRdI w0 F .i32 v l) :
    Ret Tryz.prog 116 #[.pointer (some ⟨p, 0, none⟩), .int .i64 way, v] w fun v' w' => v' = .int .i64 (killM E place way l).1 ∧ Holds w0 w' (RingRep p (killM E place way l).2.1 (killM E place way l).2.2 • F) := by
  unfold killM
  by_cases h1 : way < 0 ∨ 2 < way
  · simp only [h1, if_true]; exact ring_kill_bad H hr h1
  · simp only [h1, if_false]
    by_cases h2 : 1024 < l.length
    · simp only [h2, if_true]; exact ring_kill_long H hr (by omega) h2
    · simp only [h2, if_false]
      by_cases h3 : way ≠ 0 ∧ 0 < E.length
      · rw [if_pos h3]
        by_cases h4 : 1024 < l.length + (E.getD 0 []).length
        · rw [if_pos h4]; exact ring_kill_too H hr (by omega) (by omega) h3.2 h4
        · rw [if_neg h4]; exact ring_kill_join H hr (by omega) h3.2 (by omega)
      · rw [if_neg h3]
        by_cases h5 : way = 0 ∧ l.length = 0
        · rw [if_pos h5]; obtain ⟨rfl, h6⟩ := h5; exact ring_kill_nothing H hr h6
        · rw [if_neg h5]; exact ring_kill_new H hr (by omega) (by omega) (by omega) h5

theorem ring_rotate_bell {n : Int} (H : Holds w0 w (RingRep p [] place • F)) :
    Ret Tryz.prog 73 #[.pointer (some ⟨p, 0, none⟩), .int .i64 n] w fun v' w' => v' = .tuple #[.slice none 0 0, .int .i64 6] ∧ Holds w0 w' (RingRep p [] place • F) := by
  obtain ⟨s, h, hs, hh, hE, hp, hm, ho, H1⟩ := H.ring
  have hb := H1.get.2
  refine ret_enter Tryz.func73 rfl Tryz.ntmps73 (Nat.le_of_ble_eq_true rfl) ?_
  dsimp only [slots0, Nat.reduceAdd]
  refine wc_seq ?_
  refine wc_region ?_
  refine wl_val (r_assign rfl) (ltn rfl) ?_
  refine wl_val (r_assign rfl) (ltn rfl) ?_
  refine wl_nil ?_
  refine wq_seq ?_
  refine wc_seq ?_
  refine wc_block ?_
  refine wc_seq ?_
  refine wc_region ?_
  refine wl_val (r_move rfl) (ltn rfl) ?_
  refine wl_eff (e_call (r_call rfl Tryz.func135 rfl rfl) (ring_none_ret _ hb ring_0)) (ltn rfl) ?_
  rintro _ _ ⟨rfl, rfl⟩
  refine wl_val (r_assign rfl) (ltn rfl) ?_
  refine wl_nil ?_
  refine wq_seq ?_
  refine wc_cond_f rfl ?_
  refine wc_seq ?_
  refine wc_region ?_
  refine wl_val (r_move rfl) (ltn rfl) ?_
  refine wl_val (r_nil rfl) (ltn rfl) ?_
  refine wl_val (r_fieldA 62 Tryz.underlying155 rfl rfl Tryz.sizeOf3 (by decide) rfl (by first | exact Nat.zero_add _ | rfl)) (ltn rfl) ?_
  refine wl_val (r_load (plain_of Tryz.underlying3 rfl) rfl (cell_of_blk hb (ring_many hs))) (ltn rfl) ?_
  refine wl_val (r_eql rfl rfl) (ltn rfl) ?_
  refine wl_val (r_assign rfl) (ltn rfl) ?_
  refine wl_nil ?_
  refine wq_seq ?_
  refine wc_cond rfl (fun h1 => ?_) (fun h => by exfalso; (try simp only [cmpS] at h); first | contradiction | omega | (simp at h <;> omega))
  (try simp only [cmpS] at h1)
  refine wc_seq ?_
  refine wc_region ?_
  refine wl_val (r_assign rfl) (ltn rfl) ?_
  refine wl_val (r_assign rfl) (ltn rfl) ?_
  refine wl_nil ?_
  refine wq_seq ?_
  refine wc_ret ?_
  refine wq_block_ret ?_
  refine wq_then_ret ?_
  refine wq_end2 (.inl rfl) Tryz.results73 rfl rfl ?_
  exact ⟨rfl, H⟩
theorem ring_rotate_ret {n : Int} (H : Holds w0 w (RingRep p E place • F)) (h0 : 0 < E.length) :
    Ret Tryz.prog 73 #[.pointer (some ⟨p, 0, none⟩), .int .i64 n] w fun v' w' => ∃ u, v' = .tuple #[u, .int .i64 0] ∧
      Holds w0 w' (RowI 21 .i32 u (E.getD (rotM E.length place n) []) • RingRep p E (rotM E.length place n) • F) := by
  obtain ⟨s, h, hs, hh, hE, hp, hm, ho, H⟩ := H.ring
  have hb := H.get.2
  have hlt := rotM_lt (place := place) (n := n) h0
  have hrot := rot_eq E.length place n h0
  have hb1 := tmod_bd n (show (0 : Int) < E.length by omega)
  have hb2 := tmod_bd ((place : Int) + n.tmod E.length) (show (0 : Int) < E.length by omega)
  refine ret_enter Tryz.func73 rfl Tryz.ntmps73 (Nat.le_of_ble_eq_true rfl) ?_
  dsimp only [slots0, Nat.reduceAdd]
  refine wc_seq ?_
  refine wc_region ?_
  refine wl_val (r_assign rfl) (ltn rfl) ?_
  refine wl_val (r_assign rfl) (ltn rfl) ?_
  refine wl_nil ?_
  refine wq_seq ?_
  refine wc_seq ?_
  refine wc_block ?_
  refine wc_seq ?_
  refine wc_region ?_
  refine wl_val (r_move rfl) (ltn rfl) ?_
  refine wl_eff (e_call (r_call rfl Tryz.func135 rfl rfl) (ring_none_ret _ hb ring_0)) (ltn rfl) ?_
  rintro _ _ ⟨rfl, rfl⟩
  refine wl_val (r_assign rfl) (ltn rfl) ?_
  refine wl_nil ?_
  refine wq_seq ?_
  refine wc_cond_f rfl ?_
  refine wc_seq ?_
  refine wc_region ?_
  refine wl_val (r_move rfl) (ltn rfl) ?_
  refine wl_val (r_nil rfl) (ltn rfl) ?_
  refine wl_val (r_fieldA 62 Tryz.underlying155 rfl rfl Tryz.sizeOf3 (by decide) rfl (by first | exact Nat.zero_add _ | rfl)) (ltn rfl) ?_
  refine wl_val (r_load (plain_of Tryz.underlying3 rfl) rfl (cell_of_blk hb (ring_many hs))) (ltn rfl) ?_
  refine wl_val (r_eql rfl rfl) (ltn rfl) ?_
  refine wl_val (r_assign rfl) (ltn rfl) ?_
  refine wl_nil ?_
  refine wq_seq ?_
  refine wc_cond rfl (fun h => by exfalso; (try simp only [cmpS] at h); first | contradiction | omega | (simp at h <;> omega)) (fun h1 => ?_)
  (try simp only [cmpS] at h1)
  refine wc_skip ?_
  refine wq_block_normal ?_
  refine wq_seq ?_
  refine wc_seq ?_
  refine wd_begin (n := 30) [0, 1, 2, 3, 4, 5, 6, 7, 8, 9, 10, 11, 12, 13, 14, 15, 16, 17, 18, 19, 20, 21, 22, 23, 24, 25, 26, 27, 28, 29] (fun W => W.heap = w.heap) (by kernel_rfl) (by kernel_rfl) rfl ?_
  have hS0 : (fun W => W.heap = w.heap) (w.drew) := rfl
  have H5d := H.drew
  refine wd_takeT 0 rfl (by kernel_rfl) (by kernel_rfl) hS0 (fun _ => r_move rfl) (ltn rfl) ?_
  refine wd_takeT 1 rfl (by kernel_rfl) (by kernel_rfl) hS0 (fun _ => r_move rfl) (ltn rfl) ?_
  refine wd_takeT 2 rfl (by kernel_rfl) (by kernel_rfl) hS0 (fun _ => r_nil rfl) (ltn rfl) ?_
  refine wd_takeT 3 rfl (by kernel_rfl) (by kernel_rfl) hS0 (fun _ => r_fieldA 63 Tryz.underlying155 rfl rfl Tryz.sizeOf3 (by decide) rfl (by first | exact Nat.zero_add _ | rfl)) (ltn rfl) ?_
  refine wd_take 4 rfl (by kernel_rfl) (by kernel_rfl) hS0 (by decide) (fun W hW => r_load (plain_of Tryz.underlying3 rfl) rfl (cell_of_blk (by rw [hW]; exact hb) (ring_place hs))) (ltn rfl) ?_
  refine wd_takeT 5 rfl (by kernel_rfl) (by kernel_rfl) hS0 (fun _ => r_move rfl) (ltn rfl) ?_
  refine wd_takeT 6 rfl (by kernel_rfl) (by kernel_rfl) hS0 (fun _ => r_move rfl) (ltn rfl) ?_
  refine wd_takeT 7 rfl (by kernel_rfl) (by kernel_rfl) hS0 (fun _ => r_nil rfl) (ltn rfl) ?_
  refine wd_takeT 8 rfl (by kernel_rfl) (by kernel_rfl) hS0 (fun _ => r_fieldA 62 Tryz.underlying155 rfl rfl Tryz.sizeOf3 (by decide) rfl (by first | exact Nat.zero_add _ | rfl)) (ltn rfl) ?_
  refine wd_take 9 rfl (by kernel_rfl) (by kernel_rfl) hS0 (by decide) (fun W hW => r_load (plain_of Tryz.underlying3 rfl) rfl (cell_of_blk (by rw [hW]; exact hb) (ring_many hs))) (ltn rfl) ?_
  refine wd_takeT 10 rfl (by kernel_rfl) (by kernel_rfl) hS0 (fun _ => r_trem rfl rfl (by omega)) (ltn rfl) ?_
  refine wd_takeT 11 rfl (by kernel_rfl) (by kernel_rfl) hS0 (fun _ => r_add rfl rfl (by omega)) (ltn rfl) ?_
  refine wd_takeT 12 rfl (by kernel_rfl) (by kernel_rfl) hS0 (fun _ => r_move rfl) (ltn rfl) ?_
  refine wd_takeT 13 rfl (by kernel_rfl) (by kernel_rfl) hS0 (fun _ => r_nil rfl) (ltn rfl) ?_
  refine wd_takeT 14 rfl (by kernel_rfl) (by kernel_rfl) hS0 (fun _ => r_fieldA 62 Tryz.underlying155 rfl rfl Tryz.sizeOf3 (by decide) rfl (by first | exact Nat.zero_add _ | rfl)) (ltn rfl) ?_
  refine wd_take 15 rfl (by kernel_rfl) (by kernel_rfl) hS0 (by decide) (fun W hW => r_load (plain_of Tryz.underlying3 rfl) rfl (cell_of_blk (by rw [hW]; exact hb) (ring_many hs))) (ltn rfl) ?_
  refine wd_takeT 16 rfl (by kernel_rfl) (by kernel_rfl) hS0 (fun _ => r_trem rfl rfl (by omega)) (ltn rfl) ?_
  refine wd_takeT 17 rfl (by kernel_rfl) (by kernel_rfl) hS0 (fun _ => r_move rfl) (ltn rfl) ?_
  refine wd_takeT 18 rfl (by kernel_rfl) (by kernel_rfl) hS0 (fun _ => r_nil rfl) (ltn rfl) ?_
  refine wd_takeT 19 rfl (by kernel_rfl) (by kernel_rfl) hS0 (fun _ => r_fieldA 62 Tryz.underlying155 rfl rfl Tryz.sizeOf3 (by decide) rfl (by first | exact Nat.zero_add _ | rfl)) (ltn rfl) ?_
  refine wd_take 20 rfl (by kernel_rfl) (by kernel_rfl) hS0 (by decide) (fun W hW => r_load (plain_of Tryz.underlying3 rfl) rfl (cell_of_blk (by rw [hW]; exact hb) (ring_many hs))) (ltn rfl) ?_
  refine wd_takeT 21 rfl (by kernel_rfl) (by kernel_rfl) hS0 (fun _ => r_add rfl rfl (by omega)) (ltn rfl) ?_
  refine wd_takeT 22 rfl (by kernel_rfl) (by kernel_rfl) hS0 (fun _ => r_move rfl) (ltn rfl) ?_
  refine wd_takeT 23 rfl (by kernel_rfl) (by kernel_rfl) hS0 (fun _ => r_nil rfl) (ltn rfl) ?_
  refine wd_takeT 24 rfl (by kernel_rfl) (by kernel_rfl) hS0 (fun _ => r_fieldA 62 Tryz.underlying155 rfl rfl Tryz.sizeOf3 (by decide) rfl (by first | exact Nat.zero_add _ | rfl)) (ltn rfl) ?_
  refine wd_take 25 rfl (by kernel_rfl) (by kernel_rfl) hS0 (by decide) (fun W hW => r_load (plain_of Tryz.underlying3 rfl) rfl (cell_of_blk (by rw [hW]; exact hb) (ring_many hs))) (ltn rfl) ?_
  refine wd_takeT 26 rfl (by kernel_rfl) (by kernel_rfl) hS0 (fun _ => r_trem rfl rfl (by omega)) (ltn rfl) ?_
  refine wd_takeT 27 rfl (by kernel_rfl) (by kernel_rfl) hS0 (fun _ => r_nil rfl) (ltn rfl) ?_
  refine wd_takeT 28 rfl (by kernel_rfl) (by kernel_rfl) hS0 (fun _ => r_fieldA 63 Tryz.underlying155 rfl rfl Tryz.sizeOf3 (by decide) rfl (by first | exact Nat.zero_add _ | rfl)) (ltn rfl) ?_
  refine wd_eff0 29 rfl (by kernel_rfl) (e_store H5d Tryz.sizeOf3 rfl rfl rfl (by rw [ring_size hs]; decide)) ?_
  rintro _ w2 H2
  rw [hrot, ring_set_place hs] at H2
  refine keepE (by kernel_rfl) ?_
  refine wd_done (by kernel_rfl) ?_
  refine wq_seq ?_
  refine wc_seq ?_
  refine wc_region ?_
  refine wl_val (r_move rfl) (ltn rfl) ?_
  refine wl_val (r_move rfl) (ltn rfl) ?_
  refine wl_val (r_nil rfl) (ltn rfl) ?_
  refine wl_val (r_fieldA 63 Tryz.underlying155 rfl rfl Tryz.sizeOf3 (by decide) rfl (by first | exact Nat.zero_add _ | rfl)) (ltn rfl) ?_
  refine wl_val (r_load (plain_of Tryz.underlying3 rfl) rfl (cell_of_blk H2.get.2 (ring_place hs))) (ltn rfl) ?_
  refine wl_eff (e_call (r_call rfl Tryz.func137 rfl rfl) (ring_at_ret hs hh (by omega) H2.get.2)) (ltn rfl) ?_
  rintro _ w3 ⟨rfl, hD2⟩
  have H3 := H2.drewn hD2
  refine wl_eff (e_call (r_call rfl Tryz.func136 rfl rfl) (clone_ret H3 (fun W HW => HW.right.slots_rd (i := rotM E.length place n) hlt) (by have := hm (E.getD (rotM E.length place n) []) (by rw [List.getD_eq_getElem?_getD, List.getElem?_eq_getElem hlt]; simp); omega))) (ltn rfl) ?_
  rintro u w4 H4
  refine wl_val (r_assign rfl) (ltn rfl) ?_
  refine wl_val (r_assign rfl) (ltn rfl) ?_
  refine wl_nil ?_
  refine wq_seq ?_
  refine wc_ret ?_
  refine wq_end2 (.inl rfl) Tryz.results73 rfl rfl ?_
  exact ⟨u, rfl, (Holds.mk_ring hs hh hE (.inl hlt) hm ho H4.d3).swap⟩

theorem ring_yank_bell (H : Holds w0 w (RingRep p [] place • F)) :
    Ret Tryz.prog 70 #[.pointer (some ⟨p, 0, none⟩)] w fun v' w' => v' = .tuple #[.slice none 0 0, .int .i64 6] ∧ Holds w0 w' (RingRep p [] place • F) := by
  refine ret_enter Tryz.func70 rfl Tryz.ntmps70 (Nat.le_of_ble_eq_true rfl) ?_
  dsimp only [slots0, Nat.reduceAdd]
  refine wc_seq ?_
  refine wc_region ?_
  refine wl_val (r_assign rfl) (ltn rfl) ?_
  refine wl_val (r_assign rfl) (ltn rfl) ?_
  refine wl_nil ?_
  refine wq_seq ?_
  refine wc_seq ?_
  refine wc_region ?_
  refine wl_val (r_move rfl) (ltn rfl) ?_
  refine wl_eff (e_call (r_call rfl Tryz.func73 rfl rfl) (ring_rotate_bell H)) (ltn rfl) ?_
  rintro _ w1 ⟨rfl, H1⟩
  refine wl_val (r_extract rfl rfl) (ltn rfl) ?_
  refine wl_val (r_extract rfl rfl) (ltn rfl) ?_
  refine wl_val (r_assign rfl) (ltn rfl) ?_
  refine wl_val (r_assign rfl) (ltn rfl) ?_
  refine wl_nil ?_
  refine wq_seq ?_
  refine wc_ret ?_
  refine wq_end2 (.inl rfl) Tryz.results70 rfl rfl ?_
  exact ⟨rfl, H1⟩
theorem rotM_zero {m place : Nat} (h : place < m) : rotM m place 0 = place := by
  unfold rotM
  rw [Int.add_zero, Int.emod_eq_of_lt (by omega) (by omega)]
  omega
theorem ring_yank_ret (H : Holds w0 w (RingRep p E place • F)) (h0 : 0 < E.length) :
    Ret Tryz.prog 70 #[.pointer (some ⟨p, 0, none⟩)] w fun v' w' => ∃ u, v' = .tuple #[u, .int .i64 0] ∧
      Holds w0 w' (RowI 21 .i32 u (E.getD place []) • RingRep p E place • F) := by
  obtain ⟨s, h, hs, hh, hE, hp, hm, ho, H1⟩ := H.ring
  have hpl : rotM E.length place 0 = place := rotM_zero (by omega)
  refine ret_enter Tryz.func70 rfl Tryz.ntmps70 (Nat.le_of_ble_eq_true rfl) ?_
  dsimp only [slots0, Nat.reduceAdd]
  refine wc_seq ?_
  refine wc_region ?_
  refine wl_val (r_assign rfl) (ltn rfl) ?_
  refine wl_val (r_assign rfl) (ltn rfl) ?_
  refine wl_nil ?_
  refine wq_seq ?_
  refine wc_seq ?_
  refine wc_region ?_
  refine wl_val (r_move rfl) (ltn rfl) ?_
  refine wl_eff (e_call (r_call rfl Tryz.func73 rfl rfl) (ring_rotate_ret H h0)) (ltn rfl) ?_
  rintro _ w1 ⟨u, rfl, H1⟩
  refine wl_val (r_extract rfl rfl) (ltn rfl) ?_
  refine wl_val (r_extract rfl rfl) (ltn rfl) ?_
  refine wl_val (r_assign rfl) (ltn rfl) ?_
  refine wl_val (r_assign rfl) (ltn rfl) ?_
  refine wl_nil ?_
  refine wq_seq ?_
  refine wc_ret ?_
  refine wq_end2 (.inl rfl) Tryz.results70 rfl rfl ?_
  rw [hpl] at H1; exact ⟨u, rfl, H1⟩

theorem Holds.slots_dup {s : List Value} {h : Nat} (H : Holds w0 w (slotsHP s h E • F)) : Holds w0 w (slotsHP s h E • slotsHP s h E • F) := H.dup_know
theorem ring_ones {s : List Value} {h n p : Nat} (ho : ∀ v ∈ s, v.oneCell' = true) : ∀ v ∈ (ringCells s h n p).toList, v.oneCell' = true := by
  intro v hv
  simp [ringCells] at hv
  rcases hv with rfl | hv | rfl | rfl | rfl <;> first | rfl | exact ho v hv
theorem ring_clone_ret (H : Holds w0 w (RingRep p E place • F)) :
    Ret Tryz.prog 72 #[.pointer (some ⟨p, 0, none⟩)] w fun v' w' => ∃ q, v' = .pointer (some ⟨q, 0, none⟩) ∧ Holds w0 w' (RingRep q E place • RingRep p E place • F) := by
  obtain ⟨s, h, hs, hh, hE, hp, hm, ho, H⟩ := H.ring
  have hb := H.get.2
  refine ret_enter Tryz.func72 rfl Tryz.ntmps72 (Nat.le_of_ble_eq_true rfl) ?_
  dsimp only [slots0, Nat.reduceAdd]
  refine wc_seq ?_
  refine wc_region ?_
  refine wl_val (r_assign rfl) (ltn rfl) ?_
  refine wl_nil ?_
  refine wq_seq ?_
  refine wc_seq ?_
  refine wc_seq ?_
  refine wc_region ?_
  refine wl_val (r_move rfl) (ltn rfl) ?_
  refine wl_eff (e_call (r_call rfl Tryz.func135 rfl rfl) (ring_none_ret _ hb ring_0)) (ltn rfl) ?_
  rintro _ _ ⟨rfl, rfl⟩
  refine wl_nil ?_
  refine wq_seq ?_
  refine wc_cond_f rfl ?_
  refine wc_skip ?_
  refine wq_seq ?_
  refine wc_seq ?_
  refine wc_region ?_
  refine wl_val (r_move rfl) (ltn rfl) ?_
  refine wl_val (r_nil rfl) (ltn rfl) ?_
  refine wl_val (r_load_whole Tryz.underlying155 rfl Tryz.sizeOf155 (ring_size hs) rfl hb) (ltn rfl) ?_
  refine wl_eff (e_alloc H Tryz.zeroValue155) (ltn rfl) ?_
  rintro _ w2 ⟨b2, rfl, H2⟩
  refine wl_eff0 (e_store_whole H2 Tryz.sizeOf155 (ring_size hs) rfl rfl rfl (ring_ones ho)) ?_
  rintro _ w3 H3
  refine wl_nil ?_
  refine wq_seq ?_
  refine wc_seq ?_
  refine wc_region ?_
  refine wl_val (r_assign rfl) (ltn rfl) ?_
  refine wl_nil ?_
  refine wq_seq ?_
  refine wc_ret ?_
  refine wq_end1 (.inl rfl) Tryz.results72 rfl ?_
  exact ⟨_, rfl, Holds.mk_ring hs hh hE hp hm ho (Holds.mk_ring hs hh hE hp hm ho (H3.rot.slots_dup.r4)).swap.rot⟩
end
end Go.Proofs.YtgmpclifphbjkaaGreatDoor
end
section
/- The kill ring's Yank and Rotate, each as one law. -/
set_option linter.unusedSimpArgs false
set_option linter.unusedVariables false
namespace Go.Proofs.YtgmpclifphbjkaaGreatDoor
open Go.RowKit
section
variable {w0 w : World} {F : HP} {p place : Nat} {E : List (List Int)}
theorem ring_facts (H : Holds w0 w (RingRep p E place • F)) : E.length ≤ 60 ∧ (place < E.length ∨ place = 0) ∧ ∀ e ∈ E, e.length ≤ 1024 := by
  obtain ⟨s, h, hs, hh, hE, hpl, hE2, hs1, H1⟩ := H.ring
  exact ⟨hE, hpl, hE2⟩
theorem ring_yank_any (H : Holds w0 w (RingRep p E place • F)) : Ret Tryz.prog 70 #[.pointer (some ⟨p, 0, none⟩)] w fun v w' => ∃ u, v = .tuple #[u, .int .i64 (if E.length = 0 then 6 else 0)] ∧ Holds w0 w' (RowI 21 .i32 u (E.getD place []) • RingRep p E place • F) := by
  by_cases h0 : E.length = 0
  · obtain rfl := List.eq_nil_of_length_eq_zero h0
    exact (ring_yank_bell H).mono fun v w' h => ⟨_, h.1, h.2.row_nil none⟩
  · rw [if_neg h0]
    exact (ring_yank_ret H (by omega)).mono fun v w' h => h
theorem ring_rotate_any {n : Int} (H : Holds w0 w (RingRep p E place • F)) : Ret Tryz.prog 73 #[.pointer (some ⟨p, 0, none⟩), .int .i64 n] w fun v w' => ∃ u, v = .tuple #[u, .int .i64 (if E.length = 0 then 6 else 0)] ∧
    Holds w0 w' (RowI 21 .i32 u (if E.length = 0 then [] else E.getD (rotM E.length place n) []) • RingRep p E (if E.length = 0 then place else rotM E.length place n) • F) := by
  by_cases h0 : E.length = 0
  · obtain rfl := List.eq_nil_of_length_eq_zero h0
    simp only [List.length_nil, if_true]
    exact (ring_rotate_bell H).mono fun v w' h => ⟨_, h.1, h.2.row_nil none⟩
  · simp only [if_neg h0]
    exact (ring_rotate_ret H (by omega)).mono fun v w' h => h
end
end Go.Proofs.YtgmpclifphbjkaaGreatDoor
end
section
/- Lists of lists of numbers, the inner ones in memory that is never written any more. -/
set_option linter.unusedSimpArgs false
set_option linter.unusedVariables false
namespace Go.Proofs.YtgmpclifphbjkaaGreatDoor
open Go.RowKit
/-- Each of these slices reads so. -/
def ImmsI (I : Hp) (k : IntKind) (vs : List Value) (ls : List (List Int)) : Prop := vs.length = ls.length ∧ ∀ j, j < ls.length → ImmI I k (vs.getD j undef) (ls.getD j [])
def immsI (k : IntKind) (vs : List Value) (ls : List (List Int)) : HP := know (fun I => ImmsI I k vs ls) fun _ _ hl h => ⟨h.1, fun j hj => (h.2 j hj).mono hl⟩
/-- A slice of one's own of such slices. -/
def LL (e : TypeId) (k : IntKind) (v : Value) (ls : List (List Int)) : HP := exHP fun vs => Row e 1 v ls.length vs • immsI k vs ls
theorem getD_app_left {α : Type _} {l m : List α} {j : Nat} {d : α} (h : j < l.length) : (l ++ m).getD j d = l.getD j d := by simp [List.getD_eq_getElem?_getD, List.getElem?_append_left h]
theorem getD_app_right {α : Type _} {l m : List α} {j : Nat} {d : α} (h : l.length ≤ j) : (l ++ m).getD j d = m.getD (j - l.length) d := by simp [List.getD_eq_getElem?_getD, List.getElem?_append_right h]
theorem getD_drop {α : Type _} {l : List α} {i j : Nat} {d : α} : (l.drop i).getD j d = l.getD (i + j) d := by simp [List.getD_eq_getElem?_getD]
theorem getD_take {α : Type _} {l : List α} {i j : Nat} {d : α} (h : j < i) : (l.take i).getD j d = l.getD j d := by simp [List.getD_eq_getElem?_getD, List.getElem?_take, h]
theorem getD_mem' {α : Type _} {l : List α} {j : Nat} {d : α} (h : j < l.length) : l.getD j d ∈ l := by rw [List.getD_eq_getElem?_getD, List.getElem?_eq_getElem h]; exact List.getElem_mem h
theorem ImmsI.app {I : Hp} {k : IntKind} {vs us : List Value} {ls ms : List (List Int)} (h : ImmsI I k vs ls) (g : ImmsI I k us ms) : ImmsI I k (vs ++ us) (ls ++ ms) := by
  refine ⟨by simp [h.1, g.1], fun j hj => ?_⟩
  by_cases hl : j < ls.length
  · rw [getD_app_left (by rw [h.1]; exact hl), getD_app_left hl]; exact h.2 j hl
  · have hj' : j - ls.length < ms.length := by simp at hj; omega
    rw [getD_app_right (by rw [h.1]; omega), getD_app_right (by omega), h.1]; exact g.2 _ hj'
theorem ImmsI.drop {I : Hp} {k : IntKind} {vs : List Value} {ls : List (List Int)} (h : ImmsI I k vs ls) (i : Nat) : ImmsI I k (vs.drop i) (ls.drop i) := by
  refine ⟨by simp [h.1], fun j hj => ?_⟩
  rw [getD_drop, getD_drop]
  exact h.2 _ (by simp at hj; omega)
theorem ImmsI.take {I : Hp} {k : IntKind} {vs : List Value} {ls : List (List Int)} (h : ImmsI I k vs ls) (i : Nat) : ImmsI I k (vs.take i) (ls.take i) := by
  refine ⟨by simp [h.1], fun j hj => ?_⟩
  simp at hj
  rw [getD_take (by omega), getD_take (by omega)]
  exact h.2 _ (by omega)
theorem ImmI.one {I : Hp} {k : IntKind} {v : Value} {l : List Int} (h : ImmI I k v l) : ImmsI I k [v] [l] := ⟨rfl, fun j hj => by
  obtain rfl : j = 0 := by simp at hj; omega
  exact h⟩
theorem ImmI.cell1 {I : Hp} {k : IntKind} {v : Value} {l : List Int} (h : ImmI I k v l) : v.oneCell' = true := by obtain ⟨a, c, rfl, _⟩ := h; rfl
section
variable {w0 w : World} {F : HP} {e : TypeId} {k : IntKind} {v : Value} {vs us : List Value} {ls ms : List (List Int)} {l : List Int}
theorem Rd.upto1 {n : Nat} {xs : List Value} (hr : Rd w 1 v n xs) {i : Nat} (h : i ≤ n) : Rd w 1 (cutV 1 0 i v) i (xs.take i) := by
  have h1 := hr.cut (Nat.zero_le i) h
  simpa using h1
end
end Go.Proofs.YtgmpclifphbjkaaGreatDoor
end
section
/- Slices of structs that one reads. -/
set_option linter.unusedSimpArgs false
set_option linter.unusedVariables false
namespace Go.Proofs.YtgmpclifphbjkaaGreatDoor
open Go.RowKit
theorem flat_len {α : Type _} {enc : α → List Value} {sz : Nat} (he : ∀ a, (enc a).length = sz) (l : List α) : (l.flatMap enc).length = l.length * sz := by
  induction l with
  | nil => simp
  | cons a l ih => simp [he, ih, Nat.add_mul, Nat.add_comm]
theorem flat_elem {α : Type _} {enc : α → List Value} {sz : Nat} (he : ∀ a, (enc a).length = sz) {l : List α} {k : Nat} (hk : k < l.length) (d : α) : ((l.flatMap enc).drop (k * sz)).take sz = enc (l.getD k d) := by
  have h1 : l = l.take k ++ l.getD k d :: l.drop (k + 1) := by
    rw [List.getD_eq_getElem?_getD, List.getElem?_eq_getElem hk]
    simp
  have h2 : ((l.take k).flatMap enc).length = k * sz := by rw [flat_len he, List.length_take, Nat.min_eq_left (by omega)]
  conv => lhs; rw [h1]
  rw [List.flatMap_append, List.drop_append, h2]
  simp [h2, List.take_append, he]
theorem rows_of {α : Type _} [Inhabited α] {sz n : Nat} {enc : α → List Value} {xs : List Value} {p : α → Prop} (hx : xs.length = n * sz) (h : ∀ k, k < n → ∃ a, (xs.drop (k * sz)).take sz = enc a ∧ p a) : ∃ l : List α, l.length = n ∧ xs = l.flatMap enc ∧ ∀ k, k < n → p (l.getD k default) := by
  induction n generalizing xs with
  | zero => exact ⟨[], rfl, by simpa using List.eq_nil_of_length_eq_zero (by simpa using hx), fun k hk => by omega⟩
  | succ n ih =>
    obtain ⟨a, h1, h2⟩ := h 0 (by omega)
    rw [Nat.zero_mul, List.drop_zero] at h1
    obtain ⟨l, g1, g2, g3⟩ := ih (xs := xs.drop sz) (by rw [List.length_drop, hx, Nat.succ_mul]; omega) (fun k hk => by
      obtain ⟨b, h3, h4⟩ := h (k + 1) (by omega)
      exact ⟨b, by rw [← h3, List.drop_drop, Nat.succ_mul, Nat.add_comm], h4⟩)
    refine ⟨a :: l, by simp [g1], ?_, fun k hk => ?_⟩
    · rw [List.flatMap_cons, ← g2, ← h1, List.take_append_drop]
    · cases k with
      | zero => exact h2
      | succ k => exact g3 k (by omega)
/-- An element is read whole. -/
theorem r_load_elem {P : Program} {L : List (Nat × Value)} {w : World} {ty : TypeId} {x : Operand} {t : TypeId} {d : TypeDesc} {b o n c sz n' k : Nat} {xs ys : List Value} (hr : Rd w sz (.slice (some ⟨b, o, none⟩) n c) n' xs) (hk : k < n') (hu : P.underlying t = some d) (hd : isRowD d = true) (hs : ∀ w, (sizeOf t).run P w = .ok sz w)
    (hx : ev L x = some (.pointer (some ⟨b, o + (k : Int).toNat * sz, none⟩))) (hy : (xs.drop (k * sz)).take sz = ys) (hl : ys.length = sz) : Val P L (.load t x) ty w (.agg ys.toArray) w :=
  r_load_agg (by rw [hu]; rfl) (plain_row hu hd) hs hl hx (fun j u hj => by
    have hjl : j < sz := by rw [← hl]; exact (List.getElem?_eq_some_iff.1 hj).1
    rw [hr.atS hk hjl, List.getD_eq_getElem?_getD]
    rw [← hy, List.getElem?_take, if_pos hjl, List.getElem?_drop] at hj
    rw [hj]; rfl)
end Go.Proofs.YtgmpclifphbjkaaGreatDoor
end
section
/- Undo: what is done to a line by an edit, the edit that takes it back, two edits in one; the document's too. -/
set_option linter.unusedSimpArgs false
set_option linter.unusedVariables false
namespace Go.Proofs.YtgmpclifphbjkaaGreatDoor
open Go.RowKit
section
variable {w0 w : World} {F : HP} {v d s z d2 z2 u1 u2 u3 : Value} {L dl il dl2 il2 l1 l2 l3 : List Int} {a a2 : Int}
/-- Whether an edit fits a line; its answer; the line behind it. -/
def uFit (L : List Int) (a : Int) (dl : List Int) : Bool := decide (0 ≤ a ∧ a + dl.length ≤ L.length) && ((L.drop a.toNat).take dl.length == dl)
def uE (L : List Int) (a : Int) (dl il : List Int) : Int := if uFit L a dl then (if 1024 < (L.length : Int) - dl.length + il.length then 3 else 0) else 1
def uL (L : List Int) (a : Int) (dl il : List Int) : List Int := if uE L a dl il = 0 then L.take a.toNat ++ il ++ L.drop (a.toNat + dl.length) else []
/-- An edit's cells. -/
abbrev edV (a : Int) (d z : Value) : Value := .agg #[.int .i64 a, d, z]
theorem undo_own_ret (H : Holds w0 w F) (hd : FRdI w0 F .i32 d dl) (hi : FRdI w0 F .i32 z il) (b2 : dl.length ≤ 35184372087808) (b3 : il.length ≤ 35184372087808) :
    Ret Tryz.prog 170 #[edV a d z] w fun v' w' => ∃ d' s', v' = edV a d' s' ∧ Holds w0 w' (RowI 21 .i32 d' dl • RowI 21 .i32 s' il • F) := by
  refine ret_enter Tryz.func170 rfl Tryz.ntmps170 (Nat.le_of_ble_eq_true rfl) ?_
  dsimp only [slots0, Nat.reduceAdd]
  refine wc_seq ?_
  refine wc_region ?_
  refine wl_eff (e_boxL (l := [_, _, _]) H rfl rfl) (ltn rfl) ?_
  rintro _ w1 ⟨b1, rfl, H1⟩
  refine wl_eff (e_allocL (l := [_, _, _]) H1 Tryz.zeroValue120 rfl) (ltn rfl) ?_
  rintro _ w2 ⟨b2, rfl, H2⟩
  refine wl_nil ?_
  refine wq_seq ?_
  refine wc_seq ?_
  have H1d2 := H2.drew
  have hS1d2 := Holds.kp (H1d2.f2.f2)
  refine wd_beginK [1, 3, 6] hS1d2 (by kernel_rfl) (by kernel_rfl) rfl ?_
  refine wd_takeT 0 rfl (by kernel_rfl) (by kernel_rfl) hS1d2 (fun _ => r_fieldA 0 Tryz.underlying120 rfl rfl Tryz.sizeOf3 (by decide) rfl (by first | exact Nat.zero_add _ | rfl)) (ltn rfl) ?_
  refine wd_take 1 rfl (by kernel_rfl) (by kernel_rfl) hS1d2 (by decide) (fun W hW => r_load (plain_of Tryz.underlying3 rfl) rfl (cell_of_blk ((Kp.h hW).f2).get.2 rfl)) (ltn rfl) ?_
  refine wd_takeT 2 rfl (by kernel_rfl) (by kernel_rfl) hS1d2 (fun _ => r_fieldA 1 Tryz.underlying120 rfl rfl Tryz.sizeOf22 (by decide) rfl (by first | exact Nat.zero_add _ | rfl)) (ltn rfl) ?_
  refine wd_take 3 rfl (by kernel_rfl) (by kernel_rfl) hS1d2 (by decide) (fun W hW => r_load (plain_of Tryz.underlying22 rfl) rfl (cell_of_blk ((Kp.h hW).f2).get.2 rfl)) (ltn rfl) ?_
  refine wd_takeT 5 rfl (by kernel_rfl) (by kernel_rfl) hS1d2 (fun _ => r_fieldA 2 Tryz.underlying120 rfl rfl Tryz.sizeOf22 (by decide) rfl (by first | exact Nat.zero_add _ | rfl)) (ltn rfl) ?_
  refine wd_take 6 rfl (by kernel_rfl) (by kernel_rfl) hS1d2 (by decide) (fun W hW => r_load (plain_of Tryz.underlying22 rfl) rfl (cell_of_blk ((Kp.h hW).f2).get.2 rfl)) (ltn rfl) ?_
  refine wd_eff 4 rfl (by kernel_rfl) (e_call (r_call rfl Tryz.func136 rfl rfl) (clone_ret H1d2 (fun W HW => hd _ (HW.right.right)) (by omega))) (ltn rfl) ?_
  rintro u3 w3 H3
  have hS3n := Holds.kp (H3.f3.f3.f3)
  refine keepK hS3n (fun W hW => (Kp.h hW).right.f2.f2) ?_
  refine wd_eff 7 rfl (by kernel_rfl) (e_call (r_call rfl Tryz.func136 rfl rfl) (clone_ret H3 (fun W HW => hi _ (HW.right.right.right)) (by omega))) (ltn rfl) ?_
  rintro u4 w4 H4
  have hS4n := Holds.kp (H4.f4.f4.f4.f4)
  refine keepK hS4n (fun W hW => (Kp.h hW).right.f3.f3.f3) ?_
  obtain ⟨au3, cu3, eu3, -⟩ := RdI.open ((H4.f2).row_rd)
  subst eu3
  obtain ⟨au4, cu4, eu4, -⟩ := RdI.open ((H4).row_rd)
  subst eu4
  refine wd_takeT 8 rfl (by kernel_rfl) (by kernel_rfl) hS4n (fun _ => r_build (pl := #[(0, 1), (1, 1), (2, 1)]) (#[_, _, _]) Tryz.underlying120 Tryz.zeroValue120 (fun w => by kernel_rfl) rfl (rfl)) (ltn rfl) ?_
  refine wd_eff0 9 rfl (by kernel_rfl) (e_storePL 0 (l' := [_, _, _]) (us := [_, _, _]) H4.f3 Tryz.sizeOf120 rfl rfl rfl (ones_cons (by first | rfl | assumption) (ones_cons (by first | rfl | exact Rd.one ((H4.f2).row_rd)) (ones_cons (by first | rfl | exact Rd.one ((H4).row_rd)) ones_nil))) rfl rfl) ?_
  rintro _ w7 H7
  have hS7n := Holds.kp (H7.f4.f4.f4.f4)
  refine keepX hS7n (by kernel_rfl) ?_
  refine wd_done (by kernel_rfl) ?_
  refine wq_seq ?_
  refine wc_ret ?_
  refine wq_end (.inl rfl) (resC Tryz.results170 rfl Tryz.underlying120 rfl (by rw [show (Tryz.prog.info? 120).map (·.size) = some 3 from by kernel_rfl]; rfl) (H7).get.2) ?_
  exact ⟨_, _, rfl, H7.right.f3.right.f2⟩
theorem undo_inverse_ret (H : Holds w0 w F) (hd : FRdI w0 F .i32 d dl) (hi : FRdI w0 F .i32 z il) (b2 : dl.length ≤ 35184372087808) (b3 : il.length ≤ 35184372087808) :
    Ret Tryz.prog 173 #[edV a d z] w fun v' w' => ∃ d' s', v' = edV a d' s' ∧ Holds w0 w' (RowI 21 .i32 d' il • RowI 21 .i32 s' dl • F) := by
  refine ret_enter Tryz.func173 rfl Tryz.ntmps173 (Nat.le_of_ble_eq_true rfl) ?_
  dsimp only [slots0, Nat.reduceAdd]
  refine wc_seq ?_
  refine wc_region ?_
  refine wl_eff (e_boxL (l := [_, _, _]) H rfl rfl) (ltn rfl) ?_
  rintro _ w1 ⟨b1, rfl, H1⟩
  refine wl_eff (e_allocL (l := [_, _, _]) H1 Tryz.zeroValue120 rfl) (ltn rfl) ?_
  rintro _ w2 ⟨b2, rfl, H2⟩
  refine wl_nil ?_
  refine wq_seq ?_
  refine wc_seq ?_
  refine wc_region ?_
  refine wl_val (r_fieldA 0 Tryz.underlying120 rfl rfl Tryz.sizeOf3 (by decide) rfl (by first | exact Nat.zero_add _ | rfl)) (ltn rfl) ?_
  refine wl_val (r_load (plain_of Tryz.underlying3 rfl) rfl (cell_of_blk (H2.f2).get.2 rfl)) (ltn rfl) ?_
  refine wl_val (r_fieldA 2 Tryz.underlying120 rfl rfl Tryz.sizeOf22 (by decide) rfl (by first | exact Nat.zero_add _ | rfl)) (ltn rfl) ?_
  refine wl_val (r_load (plain_of Tryz.underlying22 rfl) rfl (cell_of_blk (H2.f2).get.2 rfl)) (ltn rfl) ?_
  refine wl_val (r_fieldA 1 Tryz.underlying120 rfl rfl Tryz.sizeOf22 (by decide) rfl (by first | exact Nat.zero_add _ | rfl)) (ltn rfl) ?_
  refine wl_val (r_load (plain_of Tryz.underlying22 rfl) rfl (cell_of_blk (H2.f2).get.2 rfl)) (ltn rfl) ?_
  obtain ⟨az, cz, ez, -⟩ := RdI.open (hi _ (H2.right.right))
  subst ez
  obtain ⟨ad, cd, ed, -⟩ := RdI.open (hd _ (H2.right.right))
  subst ed
  refine wl_val (r_build (pl := #[(0, 1), (1, 1), (2, 1)]) (#[_, _, _]) Tryz.underlying120 Tryz.zeroValue120 (fun w => by kernel_rfl) rfl (rfl)) (ltn rfl) ?_
  refine wl_eff (e_call (r_call rfl Tryz.func170 rfl rfl) (undo_own_ret H2 (fun W HW => hi _ (HW.right.right)) (fun W HW => hd _ (HW.right.right)) (by omega) (by omega))) (ltn rfl) ?_
  rintro _ w5 ⟨d5, s5, rfl, H5⟩
  refine wl_eff0 (e_storePL 0 (l' := [_, _, _]) (us := [_, _, _]) H5.f3 Tryz.sizeOf120 rfl rfl rfl (ones_cons (by first | rfl | assumption) (ones_cons (by first | rfl | exact Rd.one ((H5).row_rd)) (ones_cons (by first | rfl | exact Rd.one ((H5.f2).row_rd)) ones_nil))) rfl rfl) ?_
  rintro _ w6 H6
  refine wl_nil ?_
  refine wq_seq ?_
  refine wc_ret ?_
  refine wq_end (.inl rfl) (resC Tryz.results173 rfl Tryz.underlying120 rfl (by rw [show (Tryz.prog.info? 120).map (·.size) = some 3 from by kernel_rfl]; rfl) (H6).get.2) ?_
  exact ⟨_, _, rfl, H6.right.f3.right.f2.f2⟩
end
end Go.Proofs.YtgmpclifphbjkaaGreatDoor
end
section
/- Undo: two edits in one. -/
set_option linter.unusedSimpArgs false
set_option linter.unusedVariables false
namespace Go.Proofs.YtgmpclifphbjkaaGreatDoor
open Go.RowKit
section
variable {w0 w : World} {F : HP} {v d s z d2 z2 u1 u2 u3 : Value} {L dl il dl2 il2 l1 l2 l3 : List Int} {a a2 : Int}
/-- Which way two edits are one; that one. -/
def jK (a a2 : Int) (dl il dl2 il2 : List Int) : Nat := if dl2.length = 0 ∧ a2 = a + il.length then 1 else if il.length = 0 ∧ il2.length = 0 ∧ a = a2 + dl2.length then 2 else 0
def jA (k : Nat) (a a2 : Int) : Int := if k = 1 then a else if k = 2 then a2 else 0
def jD (k : Nat) (dl dl2 : List Int) : List Int := if k = 1 then dl else if k = 2 then dl2 ++ dl else []
def jI (k : Nat) (il il2 : List Int) : List Int := if k = 1 then il ++ il2 else []
end
end Go.Proofs.YtgmpclifphbjkaaGreatDoor
end
section
/- Literals of structs, stores into rows of structs, rows cut. -/
set_option linter.unusedSimpArgs false
set_option linter.unusedVariables false
namespace Go.Proofs.YtgmpclifphbjkaaGreatDoor
open Go.RowKit
section
variable {P : Program} {L : List (Nat × Value)} {w0 w : World} {F : HP} {ty : TypeId}
theorem fill_whole (l : List Value) : ∀ (i : Nat) (cells : Array Value), cells.size = i + l.length → (l.zipIdx i).foldl (fun cs (x : Value × Nat) => cs.setIfInBounds (0 + x.2) x.1) cells = (cells.toList.take i ++ l).toArray := by
  induction l with
  | nil => intro i cells hs; simp [List.take_of_length_le (show cells.toList.length ≤ i by simp; simp at hs; omega)]
  | cons v r ih =>
    intro i cells hs
    rw [List.zipIdx_cons, List.foldl_cons]
    rw [ih (i + 1) _ (by simp at hs ⊢; omega)]
    congr 1
    have hi : i < cells.toList.length := by simp at hs ⊢; omega
    rw [Array.toList_setIfInBounds, Nat.zero_add, List.take_succ_eq_append_getElem (by simpa using hi), List.take_set_of_le (Nat.le_refl _)]
    simp
/-- A slice literal of one struct. -/
theorem e_lit_one {t e sz : Nat} {x : Operand} {cs : Array Value} {z : Value} (H : Holds w0 w F) (ht : P.underlying t = some (.slice e)) (hs : ∀ w, (sizeOf e).run P w = .ok sz w) (hz : ∀ w, (zeroValue e).run P w = .ok z w) (hz1 : z.cells.size = sz)
    (hx : ev L x = some (.agg cs)) (hn : cs.size = sz) (h0 : 0 < sz) (hn24 : sz ≤ 16777216) :
    Eff P L (.buildSlice t 1 #[(0, x)]) ty w fun v w' => Holds w0 w' (Row e sz v 1 cs.toList • F) := by
  refine e_val (v := .slice (some ⟨w.heap.size, 0, none⟩) 1 1) (w' := w.alloc (.cells cs e)) ?_ ?_
  · intro ρ hρ d pos aft g
    simp only [execOp, Instr.buildSlice, Sem.run_bind, run_underlying ht, Result.andThen_ok, hs]
    rw [if_neg (by omega), if_neg (by omega)]
    have hf : ∀ q : Array Value, q.size = sz → Instr.fill (fun i => some (i * sz, sz)) q [(0, .agg cs)] = some cs := fun q hq => by
      simp only [Instr.fill, Value.cells, hn]
      rw [if_neg (by simp [hq])]
      have := fill_whole cs.toList 0 q (by simp [hn, hq])
      simp only [Nat.zero_mul]
      rw [← Array.foldl_toList, Array.toList_zipIdx]
      simpa using this
    have hf1 := hf ((Array.range sz).map (z.cells[· % z.cells.size]!)) (by simp)
    simp [hz, hρ _ _ hx, hf1, newRow]
  · refine (H.alloc _).row_mk (by simp [hn]) rfl (Nat.le_refl _) (by omega) (by simp [hn]) fun j hj => ?_
    rw [Nat.zero_add, List.getD_eq_getElem?_getD]
    have : j < cs.size := by omega
    simp [this]
theorem fill_run (l : List Value) : ∀ (o i : Nat) (cells : Array Value), o + i + l.length ≤ cells.size → (l.zipIdx i).foldl (fun cs (x : Value × Nat) => cs.setIfInBounds (o + x.2) x.1) cells = (cells.toList.take (o + i) ++ l ++ cells.toList.drop (o + i + l.length)).toArray := by
  induction l with
  | nil => intro o i cells hs; simp
  | cons v r ih =>
    intro o i cells hs
    rw [List.zipIdx_cons, List.foldl_cons]
    rw [ih o (i + 1) _ (by simp at hs ⊢; omega)]
    congr 1
    simp only [List.length_cons] at hs ⊢
    have hi : o + i < cells.toList.length := by rw [Array.length_toList]; omega
    rw [Array.toList_setIfInBounds, show o + (i + 1) = o + i + 1 from by omega, List.take_succ_eq_append_getElem (by simpa using hi), List.take_set_of_le (Nat.le_refl _), List.drop_set_of_lt (by omega)]
    simp
    omega
end
section
variable {w0 w : World} {F : HP}
end
end Go.Proofs.YtgmpclifphbjkaaGreatDoor
end
section
/- Lists of edits, and lists of such lists, whose texts are never written any more. -/
set_option linter.unusedSimpArgs false
set_option linter.unusedVariables false
namespace Go.Proofs.YtgmpclifphbjkaaGreatDoor
open Go.RowKit
/-- An edit as it stands in memory. -/
structure BEd where
  a : Int
  d : Value
  dl : List Int
  i : Value
  il : List Int
instance : Inhabited BEd := ⟨⟨0, .slice none 0 0, [], .slice none 0 0, []⟩⟩
def BEd.enc (e : BEd) : List Value := [.int .i64 e.a, e.d, e.i]
theorem BEd.enc_len (e : BEd) : e.enc.length = 3 := rfl
def BEd.Imm (I : Hp) (e : BEd) : Prop := ImmI I .i32 e.d e.dl ∧ ImmI I .i32 e.i e.il
theorem BEd.Imm.mono {I I' : Hp} {e : BEd} (hl : Hp.le I I') (h : e.Imm I) : e.Imm I' := ⟨h.1.mono hl, h.2.mono hl⟩
/-- What it says. -/
def BEd.says (e : BEd) : Int × List Int × List Int := (e.a, e.dl, e.il)
def EdsI (I : Hp) (es : List BEd) : Prop := ∀ k, k < es.length → (es.getD k default).Imm I
theorem EdsI.mono {I I' : Hp} {es : List BEd} (hl : Hp.le I I') (h : EdsI I es) : EdsI I' es := fun k hk => (h k hk).mono hl
theorem EdsI.app {I : Hp} {es fs : List BEd} (h : EdsI I es) (g : EdsI I fs) : EdsI I (es ++ fs) := fun k hk => by
  by_cases hl : k < es.length
  · rw [getD_app_left hl]; exact h k hl
  · rw [getD_app_right (by omega)]; exact g _ (by simp at hk; omega)
theorem EdsI.one {I : Hp} {e : BEd} (h : e.Imm I) : EdsI I [e] := fun k hk => by
  obtain rfl : k = 0 := by simp at hk; omega
  exact h
def edsK (es : List BEd) : HP := know (fun I => EdsI I es) fun _ _ hl h => h.mono hl
def edK (e : BEd) : HP := know (fun I => e.Imm I) fun _ _ hl h => h.mono hl
/-- A slice of one's own of edits. -/
def EdL (v : Value) (es : List BEd) : HP := Row 120 3 v es.length (es.flatMap BEd.enc) • edsK es
/-- A slice that is never written any more. -/
def ImmR (I : Hp) (sz : Nat) (v : Value) (n : Nat) (xs : List Value) : Prop := xs.length = n * sz ∧ ∃ a c, v = .slice a n c ∧ n ≤ c ∧ (c : Int) ≤ 9223372036854775807 ∧
  (0 < n → ∃ b o cs e fr, a = some ⟨b, o, none⟩ ∧ I b = some (.cells cs e fr) ∧ ∀ j, j < n * sz → cs[o + j]? = some (xs.getD j undef))
theorem ImmR.mono {I I' : Hp} {sz n : Nat} {v : Value} {xs : List Value} (hl : Hp.le I I') (h : ImmR I sz v n xs) : ImmR I' sz v n xs := by
  obtain ⟨h0, a, c, h1, h2, h3, h4⟩ := h
  exact ⟨h0, a, c, h1, h2, h3, fun hp => let ⟨b, o, cs, e, fr, e1, e2, e3⟩ := h4 hp; ⟨b, o, cs, e, fr, e1, hl _ _ e2, e3⟩⟩
theorem ImmR.rd {w : World} {m : Nat} {I : Hp} {sz n : Nat} {v : Value} {xs : List Value} (h : ImmR I sz v n xs) (hI : ∀ k o, I k = some o → m ≤ k ∧ w.heap[k]? = some o) : Rd w sz v n xs := by
  obtain ⟨h0, a, c, h1, h2, h3, h4⟩ := h
  exact ⟨h0, a, c, h1, h2, h3, fun hp => let ⟨b, o, cs, e, fr, e1, e2, e3⟩ := h4 hp; ⟨b, o, e1, fun j hj => cell_of_blk (hI _ _ e2).2 (e3 j hj)⟩⟩
theorem ImmR.cell1 {I : Hp} {sz n : Nat} {v : Value} {xs : List Value} (h : ImmR I sz v n xs) : v.oneCell' = true := by obtain ⟨_, a, c, rfl, _⟩ := h; rfl
def ElI (I : Hp) (v : Value) (es : List BEd) : Prop := ImmR I 3 v es.length (es.flatMap BEd.enc) ∧ EdsI I es
theorem ElI.mono {I I' : Hp} {v : Value} {es : List BEd} (hl : Hp.le I I') (h : ElI I v es) : ElI I' v es := ⟨h.1.mono hl, h.2.mono hl⟩
def elK (v : Value) (es : List BEd) : HP := know (fun I => ElI I v es) fun _ _ hl h => h.mono hl
def ElsI (I : Hp) (gs : List (Value × List BEd)) : Prop := ∀ k, k < gs.length → ElI I (gs.getD k default).1 (gs.getD k default).2
theorem ElsI.mono {I I' : Hp} {gs : List (Value × List BEd)} (hl : Hp.le I I') (h : ElsI I gs) : ElsI I' gs := fun k hk => (h k hk).mono hl
theorem ElsI.app {I : Hp} {es fs : List (Value × List BEd)} (h : ElsI I es) (g : ElsI I fs) : ElsI I (es ++ fs) := fun k hk => by
  by_cases hl : k < es.length
  · rw [getD_app_left hl]; exact h k hl
  · rw [getD_app_right (by omega)]; exact g _ (by simp at hk; omega)
theorem ElsI.one {I : Hp} {v : Value} {es : List BEd} (h : ElI I v es) : ElsI I [(v, es)] := fun k hk => by
  obtain rfl : k = 0 := by simp at hk; omega
  exact h
theorem ElsI.take {I : Hp} {gs : List (Value × List BEd)} (h : ElsI I gs) (n : Nat) : ElsI I (gs.take n) := fun k hk => by
  simp at hk
  rw [getD_take (by omega)]
  exact h k (by omega)
def elsK (gs : List (Value × List BEd)) : HP := know (fun I => ElsI I gs) fun _ _ hl h => h.mono hl
/-- A slice of one's own of slices of edits that are never written any more. -/
def EdLL (v : Value) (gs : List (Value × List BEd)) : HP := Row 64 1 v gs.length (gs.map (·.1)) • elsK gs
section
variable {w0 w : World} {F : HP} {v u : Value} {es fs : List BEd} {e : BEd} {gs : List (Value × List BEd)} {a : Int} {d i : Value} {dl il : List Int}
theorem Holds.edsK_nil (H : Holds w0 w F) : Holds w0 w (edsK [] • F) := H.mk_know fun I k hk => by simp at hk
theorem Holds.elsK_nil (H : Holds w0 w F) : Holds w0 w (elsK [] • F) := H.mk_know fun I k hk => by simp at hk
theorem Holds.edL_nil (H : Holds w0 w F) (a : Option Addr) : Holds w0 w (EdL (.slice a 0 0) [] • F) := (H.edsK_nil.row_nil (e := 120) (sz := 3) a).deep
theorem Holds.edLL_nil (H : Holds w0 w F) (a : Option Addr) : Holds w0 w (EdLL (.slice a 0 0) [] • F) := (H.elsK_nil.row_nil (e := 64) (sz := 1) a).deep
theorem Holds.edL (H : Holds w0 w (EdL v es • F)) : Holds w0 w (Row 120 3 v es.length (es.flatMap BEd.enc) • edsK es • F) := H.flat
theorem Holds.edLL (H : Holds w0 w (EdLL v gs • F)) : Holds w0 w (Row 64 1 v gs.length (gs.map (·.1)) • elsK gs • F) := H.flat
/-- One more. -/
theorem Holds.edL_snoc (H : Holds w0 w (Row 120 3 v (es.length + 1) (es.flatMap BEd.enc ++ [.int .i64 a, d, i]) • immI .i32 d dl • immI .i32 i il • edsK es • F)) : Holds w0 w (EdL v (es ++ [⟨a, d, dl, i, il⟩]) • F) := by
  have h1 : Holds w0 w (immI .i32 d dl • immI .i32 i il • edsK es • Row 120 3 v (es.length + 1) (es.flatMap BEd.enc ++ [.int .i64 a, d, i]) • F) := H.of_eq (by ac_rfl)
  have h2 : Holds w0 w (edK ⟨a, d, dl, i, il⟩ • edsK es • Row 120 3 v (es.length + 1) (es.flatMap BEd.enc ++ [.int .i64 a, d, i]) • F) := h1.ent (know_two (fun I h g => ⟨h, g⟩) _)
  have h3 : Holds w0 w (edsK (es ++ [⟨a, d, dl, i, il⟩]) • Row 120 3 v (es.length + 1) (es.flatMap BEd.enc ++ [.int .i64 a, d, i]) • F) := h2.ent (know_two (fun I h g => g.app (EdsI.one h)) _)
  refine Holds.deep (h3.swap.of_eq ?_)
  rw [List.length_append, List.flatMap_append]
  simp [BEd.enc]
/-- A list's memory is never written any more. -/
theorem Holds.edL_freeze (H : Holds w0 w (EdL v es • F)) : Holds w0 w (elK v es • F) := by
  have hl := H.edL.row_len
  have H := H.edL
  rcases H.row_open with ⟨a, rfl, h1, h2, H1⟩ | ⟨g, o, c, cur, rfl, h2, h3, h4, h5, H1⟩
  · refine H1.ent (know_ent (fun I hI => ⟨⟨hl, a, 0, by rw [h1], by omega, by decide, fun h => by omega⟩, hI⟩) F)
  · exact H1.freeze.ent (know_two (fun I hI hE => ⟨⟨hl, _, c, rfl, h2, h3, fun _ => ⟨g, o, cur, _, (0, 0), rfl, hI, h5⟩⟩, hE⟩) F)
theorem Holds.elK_rd (H : Holds w0 w (elK v es • F)) : Rd w 3 v es.length (es.flatMap BEd.enc) := let ⟨I, h, hI⟩ := H.of_know; h.1.rd hI
theorem Holds.elK_d (H : Holds w0 w (elK v es • F)) {k : Nat} (hk : k < es.length) : RdI w .i32 (es.getD k default).d (es.getD k default).dl := let ⟨I, h, hI⟩ := H.of_know; (h.2 k hk).1.rd hI
theorem Holds.elK_i (H : Holds w0 w (elK v es • F)) {k : Nat} (hk : k < es.length) : RdI w .i32 (es.getD k default).i (es.getD k default).il := let ⟨I, h, hI⟩ := H.of_know; (h.2 k hk).2.rd hI
theorem Holds.elsK_get (H : Holds w0 w (elsK gs • F)) {k : Nat} (hk : k < gs.length) : Holds w0 w (elK (gs.getD k default).1 (gs.getD k default).2 • elsK gs • F) := H.dup_know.ent (know_ent (fun I h => h k hk) _)
theorem Holds.elsK_cut (H : Holds w0 w (elsK gs • F)) (n : Nat) : Holds w0 w (elsK (gs.take n) • F) := H.ent (know_ent (fun I h => h.take n) _)
theorem Holds.edLL_snoc (H : Holds w0 w (Row 64 1 v (gs.length + 1) (gs.map (·.1) ++ [u]) • elK u es • elsK gs • F)) : Holds w0 w (EdLL v (gs ++ [(u, es)]) • F) := by
  have h1 : Holds w0 w (elK u es • elsK gs • Row 64 1 v (gs.length + 1) (gs.map (·.1) ++ [u]) • F) := H.of_eq (by ac_rfl)
  have h3 : Holds w0 w (elsK (gs ++ [(u, es)]) • Row 64 1 v (gs.length + 1) (gs.map (·.1) ++ [u]) • F) := h1.ent (know_two (fun I h g => g.app (ElsI.one h)) _)
  refine Holds.deep (h3.swap.of_eq ?_)
  rw [List.length_append, List.map_append]
  rfl
theorem Holds.edL_ones (H : Holds w0 w (edsK es • F)) : ∀ x ∈ es.flatMap BEd.enc, x.oneCell' = true := by
  obtain ⟨I, h, hI⟩ := H.of_know
  intro x hx
  obtain ⟨e, he, hx⟩ := List.mem_flatMap.1 hx
  obtain ⟨k, hk, rfl⟩ := List.getElem_of_mem he
  have := h k hk
  rw [List.getD_eq_getElem?_getD, List.getElem?_eq_getElem hk] at this
  simp [BEd.enc] at hx
  rcases hx with rfl | rfl | rfl
  · rfl
  · exact this.1.cell1
  · exact this.2.cell1
end
end Go.Proofs.YtgmpclifphbjkaaGreatDoor
end
