import Derived.Test.YtgmpclifphbjkaaZ10
import Derived.Test.YtgmpclifphbjkaaZ4
import Derived.ProofKit
import Derived.HandedShaped
import Derived.LaidMore
import Derived.OpenShut
import Derived.Stop.Joined
import Derived.Test.YtgmpclifphbjkaaRows
import Derived.Test.YtgmpclifphbjkaaZ8
import Derived.Test.YtgmpclifphbjkaaZ5
/- Texts of mine, joined: Ring3 RingAny Lift Own LL Flat. -/
section
/- The kill ring's methods, further: Kill as one, Rotate, Yank, Clone. -/
set_option linter.unusedSimpArgs false
set_option linter.unusedVariables false
namespace Go.Proofs.Ytgmpclifphbjkaa
open Go.RowKit

/-- Where a rotation leads to. -/
def rotM (m place : Nat) (n : Int) : Nat := (((place : Int) + n) % (m : Int)).toNat
theorem rotM_lt {m place : Nat} {n : Int} (h : 0 < m) : rotM m place n < m := by
  unfold rotM
  have h1 := Int.emod_nonneg ((place : Int) + n) (show (m : Int) ≠ 0 by omega)
  have h2 := Int.emod_lt_of_pos ((place : Int) + n) (show (0 : Int) < m by omega)
  omega
theorem tmod_bd (a : Int) {m : Int} (h : 0 < m) : -m < a.tmod m ∧ a.tmod m < m := by
  have h2 := Int.tmod_lt_of_pos a h
  have h3 := Int.tmod_lt_of_pos (-a) h
  rw [Int.neg_tmod] at h3
  omega
theorem tmod_same (a m : Int) : a.tmod m % m = a % m := by
  rw [Int.tmod_def]
  exact Int.sub_mul_emod_self_left a m (a.tdiv m)
theorem rot_eq (m place : Nat) (n : Int) (h : 0 < m) : (((place : Int) + n.tmod m).tmod m + m).tmod m = (rotM m place n : Int) := by
  have h1 := tmod_bd ((place : Int) + n.tmod m) (show (0 : Int) < m by omega)
  have h2 := Int.emod_nonneg ((place : Int) + n) (show (m : Int) ≠ 0 by omega)
  unfold rotM
  rw [Int.toNat_of_nonneg h2, Int.tmod_eq_emod_of_nonneg (by omega), Int.add_emod_right, tmod_same, Int.add_emod, tmod_same, ← Int.add_emod]

section
variable {w0 w : World} {F : HP} {p place : Nat} {E : List (List Int)} {v : Value} {l : List Int} {way : Int}
theorem ring_kill_ret (H : Holds w0 w (RingRep p E place • F)) (hr : FRdI w0 F .i32 v l) :
    Ret Try.prog 74 #[.pointer (some ⟨p, 0, none⟩), .int .i64 way, v] w fun v' w' => v' = .int .i64 (killM E place way l).1 ∧ Holds w0 w' (RingRep p (killM E place way l).2.1 (killM E place way l).2.2 • F) := by
  unfold killM
  by_cases h1 : way < 0 ∨ 2 < way
  · simp only [h1, if_true]; exact ring_kill_bad H hr h1
  · simp only [h1, if_false]
    by_cases h2 : 1024 < l.length
    · simp only [h2, if_true]; exact ring_kill_long H hr (by omega) h2
    · simp only [h2, if_false]
      by_cases h3 : way ≠ 0 ∧ 0 < E.length
      · rw [if_pos h3]
        by_cases h4 : 1024 < l.length + (E.getD 0 []).length
        · rw [if_pos h4]; exact ring_kill_too H hr (by omega) (by omega) h3.2 h4
        · rw [if_neg h4]; exact ring_kill_join H hr (by omega) h3.2 (by omega)
      · rw [if_neg h3]
        by_cases h5 : way = 0 ∧ l.length = 0
        · rw [if_pos h5]; obtain ⟨rfl, h6⟩ := h5; exact ring_kill_nothing H hr h6
        · rw [if_neg h5]; exact ring_kill_new H hr (by omega) (by omega) (by omega) h5

theorem ring_rotate_bell {n : Int} (H : Holds w0 w (RingRep p [] place • F)) :
    Ret Try.prog 69 #[.pointer (some ⟨p, 0, none⟩), .int .i64 n] w fun v' w' => v' = .tuple #[.slice none 0 0, .int .i64 6] ∧ Holds w0 w' (RingRep p [] place • F) := by
  obtain ⟨s, h, hs, hh, hE, hp, hm, ho, H1⟩ := H.ring
  have hb := H1.get.2
  refine ret_enter Try.func69 rfl Try.ntmps69 (Nat.le_of_ble_eq_true rfl) ?_
  dsimp only [slots0, Nat.reduceAdd]
  refine wc_seq ?_
  refine wc_region ?_
  refine wl_val (r_assign rfl) (ltn rfl) ?_
  refine wl_val (r_assign rfl) (ltn rfl) ?_
  refine wl_nil ?_
  refine wq_seq ?_
  refine wc_seq ?_
  refine wc_block ?_
  refine wc_seq ?_
  refine wc_region ?_
  refine wl_val (r_move rfl) (ltn rfl) ?_
  refine wl_eff (e_call (r_call rfl Try.func75 rfl rfl) (ring_none_ret _ hb ring_0)) (ltn rfl) ?_
  rintro _ _ ⟨rfl, rfl⟩
  refine wl_val (r_assign rfl) (ltn rfl) ?_
  refine wl_nil ?_
  refine wq_seq ?_
  refine wc_cond_f rfl ?_
  refine wc_seq ?_
  refine wc_region ?_
  refine wl_val (r_move rfl) (ltn rfl) ?_
  refine wl_val (r_nil rfl) (ltn rfl) ?_
  refine wl_val (r_fieldA 62 Try.underlying98 rfl rfl Try.sizeOf3 (by decide) rfl (by first | exact Nat.zero_add _ | rfl)) (ltn rfl) ?_
  refine wl_val (r_load (plain_of Try.underlying3 rfl) rfl (cell_of_blk hb (ring_many hs))) (ltn rfl) ?_
  refine wl_val (r_eql rfl rfl) (ltn rfl) ?_
  refine wl_val (r_assign rfl) (ltn rfl) ?_
  refine wl_nil ?_
  refine wq_seq ?_
  refine wc_cond rfl (fun h1 => ?_) (fun h => by exfalso; (try simp only [cmpS] at h); first | contradiction | omega | (simp at h <;> omega))
  (try simp only [cmpS] at h1)
  refine wc_seq ?_
  refine wc_region ?_
  refine wl_val (r_assign rfl) (ltn rfl) ?_
  refine wl_val (r_assign rfl) (ltn rfl) ?_
  refine wl_nil ?_
  refine wq_seq ?_
  refine wc_ret ?_
  refine wq_block_ret ?_
  refine wq_then_ret ?_
  refine wq_end2 (.inl rfl) Try.results69 rfl rfl ?_
  exact ⟨rfl, H⟩
theorem ring_rotate_ret {n : Int} (H : Holds w0 w (RingRep p E place • F)) (h0 : 0 < E.length) :
    Ret Try.prog 69 #[.pointer (some ⟨p, 0, none⟩), .int .i64 n] w fun v' w' => ∃ u, v' = .tuple #[u, .int .i64 0] ∧
      Holds w0 w' (RowI 21 .i32 u (E.getD (rotM E.length place n) []) • RingRep p E (rotM E.length place n) • F) := by
  obtain ⟨s, h, hs, hh, hE, hp, hm, ho, H⟩ := H.ring
  have hb := H.get.2
  have hlt := rotM_lt (place := place) (n := n) h0
  have hrot := rot_eq E.length place n h0
  have hb1 := tmod_bd n (show (0 : Int) < E.length by omega)
  have hb2 := tmod_bd ((place : Int) + n.tmod E.length) (show (0 : Int) < E.length by omega)
  refine ret_enter Try.func69 rfl Try.ntmps69 (Nat.le_of_ble_eq_true rfl) ?_
  dsimp only [slots0, Nat.reduceAdd]
  refine wc_seq ?_
  refine wc_region ?_
  refine wl_val (r_assign rfl) (ltn rfl) ?_
  refine wl_val (r_assign rfl) (ltn rfl) ?_
  refine wl_nil ?_
  refine wq_seq ?_
  refine wc_seq ?_
  refine wc_block ?_
  refine wc_seq ?_
  refine wc_region ?_
  refine wl_val (r_move rfl) (ltn rfl) ?_
  refine wl_eff (e_call (r_call rfl Try.func75 rfl rfl) (ring_none_ret _ hb ring_0)) (ltn rfl) ?_
  rintro _ _ ⟨rfl, rfl⟩
  refine wl_val (r_assign rfl) (ltn rfl) ?_
  refine wl_nil ?_
  refine wq_seq ?_
  refine wc_cond_f rfl ?_
  refine wc_seq ?_
  refine wc_region ?_
  refine wl_val (r_move rfl) (ltn rfl) ?_
  refine wl_val (r_nil rfl) (ltn rfl) ?_
  refine wl_val (r_fieldA 62 Try.underlying98 rfl rfl Try.sizeOf3 (by decide) rfl (by first | exact Nat.zero_add _ | rfl)) (ltn rfl) ?_
  refine wl_val (r_load (plain_of Try.underlying3 rfl) rfl (cell_of_blk hb (ring_many hs))) (ltn rfl) ?_
  refine wl_val (r_eql rfl rfl) (ltn rfl) ?_
  refine wl_val (r_assign rfl) (ltn rfl) ?_
  refine wl_nil ?_
  refine wq_seq ?_
  refine wc_cond rfl (fun h => by exfalso; (try simp only [cmpS] at h); first | contradiction | omega | (simp at h <;> omega)) (fun h1 => ?_)
  (try simp only [cmpS] at h1)
  refine wc_skip ?_
  refine wq_block_normal ?_
  refine wq_seq ?_
  refine wc_seq ?_
  refine wd_begin (n := 30) [0, 1, 2, 3, 4, 5, 6, 7, 8, 9, 10, 11, 12, 13, 14, 15, 16, 17, 18, 19, 20, 21, 22, 23, 24, 25, 26, 27, 28, 29] (fun W => W.heap = w.heap) (by kernel_rfl) (by kernel_rfl) rfl ?_
  have hS0 : (fun W => W.heap = w.heap) (w.drew) := rfl
  have H5d := H.drew
  refine wd_takeT 0 rfl (by kernel_rfl) (by kernel_rfl) hS0 (fun _ => r_move rfl) (ltn rfl) ?_
  refine wd_takeT 1 rfl (by kernel_rfl) (by kernel_rfl) hS0 (fun _ => r_move rfl) (ltn rfl) ?_
  refine wd_takeT 2 rfl (by kernel_rfl) (by kernel_rfl) hS0 (fun _ => r_nil rfl) (ltn rfl) ?_
  refine wd_takeT 3 rfl (by kernel_rfl) (by kernel_rfl) hS0 (fun _ => r_fieldA 63 Try.underlying98 rfl rfl Try.sizeOf3 (by decide) rfl (by first | exact Nat.zero_add _ | rfl)) (ltn rfl) ?_
  refine wd_take 4 rfl (by kernel_rfl) (by kernel_rfl) hS0 (by decide) (fun W hW => r_load (plain_of Try.underlying3 rfl) rfl (cell_of_blk (by rw [hW]; exact hb) (ring_place hs))) (ltn rfl) ?_
  refine wd_takeT 5 rfl (by kernel_rfl) (by kernel_rfl) hS0 (fun _ => r_move rfl) (ltn rfl) ?_
  refine wd_takeT 6 rfl (by kernel_rfl) (by kernel_rfl) hS0 (fun _ => r_move rfl) (ltn rfl) ?_
  refine wd_takeT 7 rfl (by kernel_rfl) (by kernel_rfl) hS0 (fun _ => r_nil rfl) (ltn rfl) ?_
  refine wd_takeT 8 rfl (by kernel_rfl) (by kernel_rfl) hS0 (fun _ => r_fieldA 62 Try.underlying98 rfl rfl Try.sizeOf3 (by decide) rfl (by first | exact Nat.zero_add _ | rfl)) (ltn rfl) ?_
  refine wd_take 9 rfl (by kernel_rfl) (by kernel_rfl) hS0 (by decide) (fun W hW => r_load (plain_of Try.underlying3 rfl) rfl (cell_of_blk (by rw [hW]; exact hb) (ring_many hs))) (ltn rfl) ?_
  refine wd_takeT 10 rfl (by kernel_rfl) (by kernel_rfl) hS0 (fun _ => r_trem rfl rfl (by omega)) (ltn rfl) ?_
  refine wd_takeT 11 rfl (by kernel_rfl) (by kernel_rfl) hS0 (fun _ => r_add rfl rfl (by omega)) (ltn rfl) ?_
  refine wd_takeT 12 rfl (by kernel_rfl) (by kernel_rfl) hS0 (fun _ => r_move rfl) (ltn rfl) ?_
  refine wd_takeT 13 rfl (by kernel_rfl) (by kernel_rfl) hS0 (fun _ => r_nil rfl) (ltn rfl) ?_
  refine wd_takeT 14 rfl (by kernel_rfl) (by kernel_rfl) hS0 (fun _ => r_fieldA 62 Try.underlying98 rfl rfl Try.sizeOf3 (by decide) rfl (by first | exact Nat.zero_add _ | rfl)) (ltn rfl) ?_
  refine wd_take 15 rfl (by kernel_rfl) (by kernel_rfl) hS0 (by decide) (fun W hW => r_load (plain_of Try.underlying3 rfl) rfl (cell_of_blk (by rw [hW]; exact hb) (ring_many hs))) (ltn rfl) ?_
  refine wd_takeT 16 rfl (by kernel_rfl) (by kernel_rfl) hS0 (fun _ => r_trem rfl rfl (by omega)) (ltn rfl) ?_
  refine wd_takeT 17 rfl (by kernel_rfl) (by kernel_rfl) hS0 (fun _ => r_move rfl) (ltn rfl) ?_
  refine wd_takeT 18 rfl (by kernel_rfl) (by kernel_rfl) hS0 (fun _ => r_nil rfl) (ltn rfl) ?_
  refine wd_takeT 19 rfl (by kernel_rfl) (by kernel_rfl) hS0 (fun _ => r_fieldA 62 Try.underlying98 rfl rfl Try.sizeOf3 (by decide) rfl (by first | exact Nat.zero_add _ | rfl)) (ltn rfl) ?_
  refine wd_take 20 rfl (by kernel_rfl) (by kernel_rfl) hS0 (by decide) (fun W hW => r_load (plain_of Try.underlying3 rfl) rfl (cell_of_blk (by rw [hW]; exact hb) (ring_many hs))) (ltn rfl) ?_
  refine wd_takeT 21 rfl (by kernel_rfl) (by kernel_rfl) hS0 (fun _ => r_add rfl rfl (by omega)) (ltn rfl) ?_
  refine wd_takeT 22 rfl (by kernel_rfl) (by kernel_rfl) hS0 (fun _ => r_move rfl) (ltn rfl) ?_
  refine wd_takeT 23 rfl (by kernel_rfl) (by kernel_rfl) hS0 (fun _ => r_nil rfl) (ltn rfl) ?_
  refine wd_takeT 24 rfl (by kernel_rfl) (by kernel_rfl) hS0 (fun _ => r_fieldA 62 Try.underlying98 rfl rfl Try.sizeOf3 (by decide) rfl (by first | exact Nat.zero_add _ | rfl)) (ltn rfl) ?_
  refine wd_take 25 rfl (by kernel_rfl) (by kernel_rfl) hS0 (by decide) (fun W hW => r_load (plain_of Try.underlying3 rfl) rfl (cell_of_blk (by rw [hW]; exact hb) (ring_many hs))) (ltn rfl) ?_
  refine wd_takeT 26 rfl (by kernel_rfl) (by kernel_rfl) hS0 (fun _ => r_trem rfl rfl (by omega)) (ltn rfl) ?_
  refine wd_takeT 27 rfl (by kernel_rfl) (by kernel_rfl) hS0 (fun _ => r_nil rfl) (ltn rfl) ?_
  refine wd_takeT 28 rfl (by kernel_rfl) (by kernel_rfl) hS0 (fun _ => r_fieldA 63 Try.underlying98 rfl rfl Try.sizeOf3 (by decide) rfl (by first | exact Nat.zero_add _ | rfl)) (ltn rfl) ?_
  refine wd_eff0 29 rfl (by kernel_rfl) (e_store H5d Try.sizeOf3 rfl rfl rfl (by rw [ring_size hs]; decide)) ?_
  rintro _ w2 H2
  rw [hrot, ring_set_place hs] at H2
  refine keepE (by kernel_rfl) ?_
  refine wd_done (by kernel_rfl) ?_
  refine wq_seq ?_
  refine wc_seq ?_
  refine wc_region ?_
  refine wl_val (r_move rfl) (ltn rfl) ?_
  refine wl_val (r_move rfl) (ltn rfl) ?_
  refine wl_val (r_nil rfl) (ltn rfl) ?_
  refine wl_val (r_fieldA 63 Try.underlying98 rfl rfl Try.sizeOf3 (by decide) rfl (by first | exact Nat.zero_add _ | rfl)) (ltn rfl) ?_
  refine wl_val (r_load (plain_of Try.underlying3 rfl) rfl (cell_of_blk H2.get.2 (ring_place hs))) (ltn rfl) ?_
  refine wl_eff (e_call (r_call rfl Try.func84 rfl rfl) (ring_at_ret hs hh (by omega) H2.get.2)) (ltn rfl) ?_
  rintro _ w3 ⟨rfl, hD2⟩
  have H3 := H2.drewn hD2
  refine wl_eff (e_call (r_call rfl Try.func12 rfl rfl) (clone_ret H3 (fun W HW => HW.right.slots_rd (i := rotM E.length place n) hlt) (by have := hm (E.getD (rotM E.length place n) []) (by rw [List.getD_eq_getElem?_getD, List.getElem?_eq_getElem hlt]; simp); omega))) (ltn rfl) ?_
  rintro u w4 H4
  refine wl_val (r_assign rfl) (ltn rfl) ?_
  refine wl_val (r_assign rfl) (ltn rfl) ?_
  refine wl_nil ?_
  refine wq_seq ?_
  refine wc_ret ?_
  refine wq_end2 (.inl rfl) Try.results69 rfl rfl ?_
  exact ⟨u, rfl, (Holds.mk_ring hs hh hE (.inl hlt) hm ho H4.d3).swap⟩

theorem ring_yank_bell (H : Holds w0 w (RingRep p [] place • F)) :
    Ret Try.prog 42 #[.pointer (some ⟨p, 0, none⟩)] w fun v' w' => v' = .tuple #[.slice none 0 0, .int .i64 6] ∧ Holds w0 w' (RingRep p [] place • F) := by
  refine ret_enter Try.func42 rfl Try.ntmps42 (Nat.le_of_ble_eq_true rfl) ?_
  dsimp only [slots0, Nat.reduceAdd]
  refine wc_seq ?_
  refine wc_region ?_
  refine wl_val (r_assign rfl) (ltn rfl) ?_
  refine wl_val (r_assign rfl) (ltn rfl) ?_
  refine wl_nil ?_
  refine wq_seq ?_
  refine wc_seq ?_
  refine wc_region ?_
  refine wl_val (r_move rfl) (ltn rfl) ?_
  refine wl_eff (e_call (r_call rfl Try.func69 rfl rfl) (ring_rotate_bell H)) (ltn rfl) ?_
  rintro _ w1 ⟨rfl, H1⟩
  refine wl_val (r_extract rfl rfl) (ltn rfl) ?_
  refine wl_val (r_extract rfl rfl) (ltn rfl) ?_
  refine wl_val (r_assign rfl) (ltn rfl) ?_
  refine wl_val (r_assign rfl) (ltn rfl) ?_
  refine wl_nil ?_
  refine wq_seq ?_
  refine wc_ret ?_
  refine wq_end2 (.inl rfl) Try.results42 rfl rfl ?_
  exact ⟨rfl, H1⟩
theorem rotM_zero {m place : Nat} (h : place < m) : rotM m place 0 = place := by
  unfold rotM
  rw [Int.add_zero, Int.emod_eq_of_lt (by omega) (by omega)]
  omega
theorem ring_yank_ret (H : Holds w0 w (RingRep p E place • F)) (h0 : 0 < E.length) :
    Ret Try.prog 42 #[.pointer (some ⟨p, 0, none⟩)] w fun v' w' => ∃ u, v' = .tuple #[u, .int .i64 0] ∧
      Holds w0 w' (RowI 21 .i32 u (E.getD place []) • RingRep p E place • F) := by
  obtain ⟨s, h, hs, hh, hE, hp, hm, ho, H1⟩ := H.ring
  have hpl : rotM E.length place 0 = place := rotM_zero (by omega)
  refine ret_enter Try.func42 rfl Try.ntmps42 (Nat.le_of_ble_eq_true rfl) ?_
  dsimp only [slots0, Nat.reduceAdd]
  refine wc_seq ?_
  refine wc_region ?_
  refine wl_val (r_assign rfl) (ltn rfl) ?_
  refine wl_val (r_assign rfl) (ltn rfl) ?_
  refine wl_nil ?_
  refine wq_seq ?_
  refine wc_seq ?_
  refine wc_region ?_
  refine wl_val (r_move rfl) (ltn rfl) ?_
  refine wl_eff (e_call (r_call rfl Try.func69 rfl rfl) (ring_rotate_ret H h0)) (ltn rfl) ?_
  rintro _ w1 ⟨u, rfl, H1⟩
  refine wl_val (r_extract rfl rfl) (ltn rfl) ?_
  refine wl_val (r_extract rfl rfl) (ltn rfl) ?_
  refine wl_val (r_assign rfl) (ltn rfl) ?_
  refine wl_val (r_assign rfl) (ltn rfl) ?_
  refine wl_nil ?_
  refine wq_seq ?_
  refine wc_ret ?_
  refine wq_end2 (.inl rfl) Try.results42 rfl rfl ?_
  rw [hpl] at H1; exact ⟨u, rfl, H1⟩

theorem Holds.slots_dup {s : List Value} {h : Nat} (H : Holds w0 w (slotsHP s h E • F)) : Holds w0 w (slotsHP s h E • slotsHP s h E • F) := H.dup_know
theorem ring_ones {s : List Value} {h n p : Nat} (ho : ∀ v ∈ s, v.oneCell' = true) : ∀ v ∈ (ringCells s h n p).toList, v.oneCell' = true := by
  intro v hv
  simp [ringCells] at hv
  rcases hv with rfl | hv | rfl | rfl | rfl <;> first | rfl | exact ho v hv
theorem ring_clone_ret (H : Holds w0 w (RingRep p E place • F)) :
    Ret Try.prog 50 #[.pointer (some ⟨p, 0, none⟩)] w fun v' w' => ∃ q, v' = .pointer (some ⟨q, 0, none⟩) ∧ Holds w0 w' (RingRep q E place • RingRep p E place • F) := by
  obtain ⟨s, h, hs, hh, hE, hp, hm, ho, H⟩ := H.ring
  have hb := H.get.2
  refine ret_enter Try.func50 rfl Try.ntmps50 (Nat.le_of_ble_eq_true rfl) ?_
  dsimp only [slots0, Nat.reduceAdd]
  refine wc_seq ?_
  refine wc_region ?_
  refine wl_val (r_assign rfl) (ltn rfl) ?_
  refine wl_nil ?_
  refine wq_seq ?_
  refine wc_seq ?_
  refine wc_seq ?_
  refine wc_region ?_
  refine wl_val (r_move rfl) (ltn rfl) ?_
  refine wl_eff (e_call (r_call rfl Try.func75 rfl rfl) (ring_none_ret _ hb ring_0)) (ltn rfl) ?_
  rintro _ _ ⟨rfl, rfl⟩
  refine wl_nil ?_
  refine wq_seq ?_
  refine wc_cond_f rfl ?_
  refine wc_skip ?_
  refine wq_seq ?_
  refine wc_seq ?_
  refine wc_region ?_
  refine wl_val (r_move rfl) (ltn rfl) ?_
  refine wl_val (r_nil rfl) (ltn rfl) ?_
  refine wl_val (r_load_whole Try.underlying98 rfl Try.sizeOf98 (ring_size hs) rfl hb) (ltn rfl) ?_
  refine wl_eff (e_alloc H Try.zeroValue98) (ltn rfl) ?_
  rintro _ w2 ⟨b2, rfl, H2⟩
  refine wl_eff0 (e_store_whole H2 Try.sizeOf98 (ring_size hs) rfl rfl rfl (ring_ones ho)) ?_
  rintro _ w3 H3
  refine wl_nil ?_
  refine wq_seq ?_
  refine wc_seq ?_
  refine wc_region ?_
  refine wl_val (r_assign rfl) (ltn rfl) ?_
  refine wl_nil ?_
  refine wq_seq ?_
  refine wc_ret ?_
  refine wq_end1 (.inl rfl) Try.results50 rfl ?_
  exact ⟨_, rfl, Holds.mk_ring hs hh hE hp hm ho (Holds.mk_ring hs hh hE hp hm ho (H3.rot.slots_dup.r4)).swap.rot⟩
end
end Go.Proofs.Ytgmpclifphbjkaa
end
section
/- The kill ring's Yank and Rotate, each as one law. -/
set_option linter.unusedSimpArgs false
set_option linter.unusedVariables false
namespace Go.Proofs.Ytgmpclifphbjkaa
open Go.RowKit
section
variable {w0 w : World} {F : HP} {p place : Nat} {E : List (List Int)}
theorem ring_facts (H : Holds w0 w (RingRep p E place • F)) : E.length ≤ 60 ∧ (place < E.length ∨ place = 0) ∧ ∀ e ∈ E, e.length ≤ 1024 := by
  obtain ⟨s, h, hs, hh, hE, hpl, hE2, hs1, H1⟩ := H.ring
  exact ⟨hE, hpl, hE2⟩
theorem ring_yank_any (H : Holds w0 w (RingRep p E place • F)) : Ret Try.prog 42 #[.pointer (some ⟨p, 0, none⟩)] w fun v w' => ∃ u, v = .tuple #[u, .int .i64 (if E.length = 0 then 6 else 0)] ∧ Holds w0 w' (RowI 21 .i32 u (E.getD place []) • RingRep p E place • F) := by
  by_cases h0 : E.length = 0
  · obtain rfl := List.eq_nil_of_length_eq_zero h0
    exact (ring_yank_bell H).mono fun v w' h => ⟨_, h.1, h.2.row_nil none⟩
  · rw [if_neg h0]
    exact (ring_yank_ret H (by omega)).mono fun v w' h => h
theorem ring_rotate_any {n : Int} (H : Holds w0 w (RingRep p E place • F)) : Ret Try.prog 69 #[.pointer (some ⟨p, 0, none⟩), .int .i64 n] w fun v w' => ∃ u, v = .tuple #[u, .int .i64 (if E.length = 0 then 6 else 0)] ∧
    Holds w0 w' (RowI 21 .i32 u (if E.length = 0 then [] else E.getD (rotM E.length place n) []) • RingRep p E (if E.length = 0 then place else rotM E.length place n) • F) := by
  by_cases h0 : E.length = 0
  · obtain rfl := List.eq_nil_of_length_eq_zero h0
    simp only [List.length_nil, if_true]
    exact (ring_rotate_bell H).mono fun v w' h => ⟨_, h.1, h.2.row_nil none⟩
  · simp only [if_neg h0]
    exact (ring_rotate_ret H (by omega)).mono fun v w' h => h
end
end Go.Proofs.Ytgmpclifphbjkaa
end
section
/- What a row hands its call, opened by type; a law's row, of what its walk shows. -/
set_option linter.unusedSimpArgs false
set_option linter.unusedVariables false
namespace Go.Proofs.Ytgmpclifphbjkaa
open Go.ChangeShapes Go.WideShapes Go.ChangeAt Go.RowKit

section
variable {H : Type} {enc : TypeId × Value → H} {P : Program} {W : World} {B : Nat}

/-- These cells read as a value of type t, no slice of it beyond the reach. -/
def InB (B : Nat) (enc : TypeId × Value → H) (P : Program) (W : World) (t : TypeId) (cs : List Value) : Prop :=
  ∃ fuel d p, DataW.trod enc P W 0 (fun _ => true) true fuel t cs = some (d, p) ∧ ∀ n ∈ d.weights P t, n ≤ B

abbrev In (enc : TypeId × Value → H) (P : Program) (W : World) (t : TypeId) (cs : List Value) : Prop := InB reachBytes enc P W t cs
theorem InB.bool {t : TypeId} {cs : List Value} (ht : P.underlying t = some .bool) (h : InB B enc P W t cs) : ∃ b, cs = [.bool b] := by
  obtain ⟨fuel, d, p, h1, -⟩ := h; obtain ⟨b, e, -⟩ := DataW.trod_bool ht h1; exact ⟨b, e⟩
theorem InB.int {t : TypeId} {cs : List Value} {k : IntKind} (ht : P.underlying t = some (.int k)) (h : InB B enc P W t cs) : ∃ n, cs = [.int k n] ∧ (Lit.int k n).wf = true := by
  obtain ⟨fuel, d, p, h1, -⟩ := h; obtain ⟨n, e, -, hw⟩ := DataW.trod_int ht h1; exact ⟨n, e, hw⟩
theorem InB.string {t : TypeId} {cs : List Value} (ht : P.underlying t = some .string) (h : InB B enc P W t cs) : ∃ s : ByteArray, cs = [.string s] ∧ s.size ≤ B := by
  obtain ⟨fuel, d, p, h1, hw⟩ := h; obtain ⟨s, e, hx, hm⟩ := DataW.trod_string ht h1
  simp only [Prod.mk.injEq] at hx
  obtain ⟨rfl, -⟩ := hx
  have h2 := hw s.data.toList.length (by simp only [DataW.weights, List.mem_singleton])
  rw [Array.length_toList] at h2
  exact ⟨s, e, h2⟩
theorem weightsEach_get {ts : List TypeId} {ds : List (DataW H)} {j : Nat} {t : TypeId} {d : DataW H} (ht : ts[j]? = some t) (hd : ds[j]? = some d) (h : ∀ n ∈ DataW.weightsEach P ts ds, n ≤ B) : ∀ n ∈ d.weights P t, n ≤ B :=
  fun n hn => h n (DataW.weights_mem_each ht hd n hn)
theorem weightsAll_get {e : TypeId} {ds : List (DataW H)} {d : DataW H} (hd : d ∈ ds) (h : ∀ n ∈ DataW.weightsAll P e ds, n ≤ B) : ∀ n ∈ d.weights P e, n ≤ B := by
  intro n hn
  induction ds with
  | nil => cases hd
  | cons x r ih =>
    simp only [DataW.weightsAll, List.mem_append] at h
    rcases List.mem_cons.1 hd with rfl | hd
    · exact h n (.inl hn)
    · exact ih hd fun n hn => h n (.inr hn)
theorem InB.struct {t : TypeId} {fs : Array Field} {cs : List Value} (ht : P.underlying t = some (.struct fs)) (h : InB B enc P W t cs) :
    cs.length = P.cellsOf t ∧ ∀ (i : Nat) (f : Field), fs[i]? = some f → InB B enc P W f.type ((cs.drop f.offset).take (P.cellsOf f.type)) := by
  obtain ⟨fuel, d, p, h1, hw⟩ := h
  obtain ⟨xs, n, -, hx, hl, hl2, hf⟩ := DataW.trod_struct ht h1
  simp only [Prod.mk.injEq] at hx
  obtain ⟨rfl, -⟩ := hx
  refine ⟨hl, fun i f hi => ?_⟩
  have hlt : i < xs.length := by rw [hl2]; exact (Array.getElem?_eq_some_iff.1 hi).1
  refine ⟨n, xs[i].1, xs[i].2, by rw [hf i f hi, List.getElem?_eq_getElem hlt], ?_⟩
  simp only [DataW.weights, ht] at hw
  exact weightsEach_get (ts := fs.toList.map (·.type)) (ds := xs.map (·.1)) (j := i) (by simp [hi]) (by simp [List.getElem?_eq_getElem hlt]) hw
theorem InB.slice {t e : TypeId} {cs : List Value} (ht : P.underlying t = some (.slice e)) (hz : 0 < P.cellsOf e) (h : InB B enc P W t cs) :
    ∃ v n xs, cs = [v] ∧ Rd W (P.cellsOf e) v n xs ∧ n * P.bytesOf e ≤ B ∧ ∀ k, k < n → InB B enc P W e ((xs.drop (k * P.cellsOf e)).take (P.cellsOf e)) := by
  obtain ⟨fuel, d, p, h1, hw⟩ := h
  rcases DataW.trod_slice ht h1 with ⟨rfl, hx⟩ | ⟨a, len, cap, elems, rest, n, -, rfl, hx, -, hl, hm, hel, hget, -⟩
  · exact ⟨_, 0, [], rfl, ⟨by simp, none, 0, rfl, by simp, by decide, fun h => absurd h (by decide)⟩, by simp, fun k hk => absurd hk (by omega)⟩
  simp only [Prod.mk.injEq] at hx
  obtain ⟨rfl, -⟩ := hx
  simp only [DataW.weights, ht, List.mem_cons, List.mem_append] at hw
  have h2 := hw _ (.inl rfl)
  simp only [List.length_map] at h2
  have key : ∀ i, i < len → ∃ cs, W.cells? 0 (a.add (i * P.cellsOf e)) (P.cellsOf e) = some cs ∧ InB B enc P W e cs := by
    intro i hi
    have h3 := hget i hi
    have hi2 : i < elems.length := by omega
    rw [List.getElem?_eq_getElem hi2] at h3
    obtain ⟨cs, e1, e2⟩ := Option.bind_eq_some_iff.1 h3
    exact ⟨cs, e1, n, elems[i].1, elems[i].2, e2, fun m hm => weightsAll_get (ds := elems.map (·.1)) (List.mem_map.2 ⟨elems[i], List.getElem_mem hi2, rfl⟩) (fun n hn => hw n (.inr (.inl hn))) m hm⟩
  obtain ⟨C, hC⟩ : ∃ C : Nat → List Value, ∀ i, i < len → W.cells? 0 (a.add (i * P.cellsOf e)) (P.cellsOf e) = some (C i) ∧ InB B enc P W e (C i) := by
    classical
    exact ⟨fun i => if hi : i < len then Classical.choose (key i hi) else [], fun i hi => by simp only [dif_pos hi]; exact Classical.choose_spec (key i hi)⟩
  have spot : 0 < len → a.spot = none := by
    intro hp
    obtain ⟨-, -, hc⟩ := World.cells?_some (hC 0 hp).1
    have h3 := hc 0 hz
    have hlen := (World.cells?_some (hC 0 hp).1).2.1
    rw [List.getElem?_eq_getElem (by omega)] at h3
    simp only [Nat.zero_mul, Addr.add, if_true] at h3
    unfold World.cell? at h3
    cases hs : a.spot with
    | none => rfl
    | some q => rw [hs] at h3; split at h3 <;> simp at h3
  let xs : List Value := (List.range len).flatMap C
  have hlC : ∀ i, i < len → (C i).length = P.cellsOf e := fun i hi => (World.cells?_some (hC i hi).1).2.1
  have hflat : ∀ m, m ≤ len → ((List.range m).flatMap C).length = m * P.cellsOf e := by
    intro m hm
    induction m with
    | zero => simp
    | succ m ih => rw [List.range_succ, List.flatMap_append, List.length_append, ih (by omega)]; simp [hlC m (by omega), Nat.succ_mul]
  have hcut : ∀ k, k < len → ((xs.drop (k * P.cellsOf e)).take (P.cellsOf e)) = C k := by
    intro k hk
    show ((((List.range len).flatMap C).drop (k * P.cellsOf e)).take (P.cellsOf e)) = C k
    have e1 : List.range len = List.range k ++ [k] ++ (List.range (len - (k + 1))).map ((k + 1) + ·) := by
      have := @List.range_add (k + 1) (len - (k + 1))
      rw [show k + 1 + (len - (k + 1)) = len by omega] at this
      rw [this, List.range_succ]
    have hk1 := hflat k (by omega)
    have hck := hlC k hk
    rw [e1, List.flatMap_append, List.flatMap_append, List.append_assoc]
    rw [List.drop_append, hk1]
    simp [hk1, List.take_append, hck]
  refine ⟨_, len, xs, rfl, ⟨hflat len (Nat.le_refl _), some a, cap, rfl, hl, by unfold maxLen at hm; omega, fun hp => ⟨a.block, a.off, ?_, fun j hj => ?_⟩⟩, ?_, fun k hk => ?_⟩
  · have := spot hp; cases a; simp_all
  · have hk : j / P.cellsOf e < len := Nat.div_lt_of_lt_mul (by rw [Nat.mul_comm]; exact hj)
    have hr : j % P.cellsOf e < P.cellsOf e := Nat.mod_lt _ hz
    have hc := (World.cells?_some (hC _ hk).1).2.2 _ hr
    have e0 : a = ⟨a.block, a.off, none⟩ := by have := spot hp; cases a; simp_all
    have ej : j / P.cellsOf e * P.cellsOf e + j % P.cellsOf e = j := by rw [Nat.mul_comm]; exact Nat.div_add_mod ..
    rw [e0, add_at, add_at, Nat.add_assoc, ej] at hc
    rw [hc, ← hcut _ hk, List.getElem?_take_of_lt hr, List.getElem?_drop, ej, List.getD_eq_getElem?_getD, List.getElem?_eq_getElem (by show j < ((List.range len).flatMap C).length; rw [hflat len (Nat.le_refl _)]; exact hj)]
    rfl
  · have : len * P.bytesOf e ≤ (elems.length + rest.length) * P.bytesOf e := Nat.mul_le_mul_right _ (by omega)
    omega
  · rw [hcut k hk]; exact (hC k hk).2
theorem InB.ints {t e : TypeId} {k : IntKind} {cs : List Value} (ht : P.underlying t = some (.slice e)) (he : P.underlying e = some (.int k)) (hc : P.cellsOf e = 1) (h : InB B enc P W t cs) :
    ∃ v l, cs = [v] ∧ RdI W k v l ∧ l.length * P.bytesOf e ≤ B ∧ ∀ n ∈ l, (Lit.int k n).wf = true := by
  obtain ⟨v, n, xs, e1, h1, h2, h3⟩ := h.slice ht (by omega)
  rw [hc] at h1 h3
  have hx : ∀ i, i < n → ∃ m, xs[i]? = some (.int k m) ∧ (Lit.int k m).wf = true := by
    intro i hi
    obtain ⟨m, e2, hw⟩ := (h3 i hi).int he
    have hl := h1.len
    refine ⟨m, ?_, hw⟩
    have := congrArg (fun l => l[0]?) e2
    simpa [List.getElem?_take, List.getElem?_drop] using this
  let l := xs.map fun | .int _ m => m | _ => 0
  have hl : l.length = n := by simp only [l, List.length_map]; have := h1.len; omega
  have hxs : xs = l.map (Value.int k) := by
    apply List.ext_getElem?
    intro i
    by_cases hi : i < n
    · obtain ⟨m, e2, -⟩ := hx i hi
      simp [l, e2]
    · have : xs.length ≤ i := by have := h1.len; omega
      simp [l, List.getElem?_eq_none this]
  refine ⟨v, l, e1, by rw [RdI, hl, ← hxs]; exact h1, by rw [hl]; exact h2, fun m hm => ?_⟩
  obtain ⟨i, hi⟩ := List.getElem?_of_mem hm
  have hi2 : i < n := by have := (List.getElem?_eq_some_iff.1 hi).1; omega
  obtain ⟨m', e2, hw⟩ := hx i hi2
  simp only [l, List.getElem?_map, e2, Option.map_some, Option.some.injEq] at hi
  subst hi
  exact hw

/-- Of n readings, one list. -/
theorem list_of {α : Type _} [Inhabited α] {n : Nat} {p : Nat → α → Prop} (h : ∀ k, k < n → ∃ l, p k l) (d : α) : ∃ ls : List α, ls.length = n ∧ ∀ k, k < n → p k (ls.getD k d) := by
  induction n with
  | zero => exact ⟨[], rfl, fun k hk => absurd hk (by omega)⟩
  | succ n ih =>
    obtain ⟨ls, h1, h2⟩ := ih fun k hk => h k (by omega)
    obtain ⟨l, hl⟩ := h n (by omega)
    refine ⟨ls ++ [l], by simp [h1], fun k hk => ?_⟩
    by_cases hkn : k < n
    · rw [List.getD_eq_getElem?_getD, List.getElem?_append_left (by omega), ← List.getD_eq_getElem?_getD]; exact h2 k hkn
    · obtain rfl : k = n := by omega
      rw [List.getD_eq_getElem?_getD, List.getElem?_append_right (by omega), h1, Nat.sub_self]; exact hl
theorem InB.row {t e q : TypeId} {k : IntKind} {cs : List Value} (ht : P.underlying t = some (.slice e)) (he : P.underlying e = some (.slice q)) (hq : P.underlying q = some (.int k)) (ce : P.cellsOf e = 1) (cq : P.cellsOf q = 1) (h : InB B enc P W t cs) :
    ∃ (v : Value) (vs : List Value) (ls : List (List Int)), cs = [v] ∧ Rd W 1 v ls.length vs ∧ ls.length * P.bytesOf e ≤ B ∧ ∀ j, j < ls.length → RdI W k (vs.getD j undef) (ls.getD j []) ∧ (ls.getD j []).length * P.bytesOf q ≤ B ∧ ∀ n ∈ ls.getD j [], (Lit.int k n).wf = true := by
  obtain ⟨v, n, vs, e1, h1, h2, h3⟩ := h.slice ht (by omega)
  rw [ce] at h1 h3
  obtain ⟨ls, rfl, hls⟩ := list_of (n := n) (p := fun j l => RdI W k (vs.getD j undef) l ∧ l.length * P.bytesOf q ≤ B ∧ ∀ n ∈ l, (Lit.int k n).wf = true) (fun j hj => by
    obtain ⟨u, l, e3, g4, hb4, hw⟩ := (h3 j hj).ints he hq cq
    obtain rfl : vs.getD j undef = u := by
      have := congrArg (fun l => l[0]?) e3
      simp [List.getElem?_drop] at this
      rw [List.getD_eq_getElem?_getD, this]; rfl
    exact ⟨l, g4, hb4, hw⟩) []
  exact ⟨v, vs, ls, e1, h1, h2, hls⟩

theorem trodAll_ins : ∀ {ts : List TypeId} {vs : List Value} {ds : List (DataW H)} {p : List MemPlace}, DataW.TrodAll enc P W 0 (fun _ => true) true ts vs ds p → (∀ n ∈ DataW.weightsEach P ts ds, n ≤ B) →
    vs.length = ts.length ∧ ds.length = ts.length ∧ ∀ (j : Nat) t v, ts[j]? = some t → vs[j]? = some v → InB B enc P W t v.cells.toList
  | [], _, _, _, h, _ => by obtain ⟨rfl, rfl, rfl⟩ := trodAll_nil h; simp
  | t :: ts, _, _, _, h, hw => by
    obtain ⟨v, vs1, d, ds1, a, b, rfl, rfl, rfl, ⟨fuel, h1⟩, h2⟩ := trodAll_cons h
    simp only [DataW.weightsEach, List.mem_append] at hw
    obtain ⟨i1, i2, i3⟩ := trodAll_ins h2 fun n hn => hw n (.inr hn)
    refine ⟨by simp [i1], by simp [i2], fun j t' v' ht hv => ?_⟩
    cases j with
    | zero =>
      simp only [List.getElem?_cons_zero, Option.some.injEq] at ht hv
      subst ht; subst hv
      exact ⟨fuel, d, a, h1, fun n hn => hw n (.inl hn)⟩
    | succ j => exact i3 j t' v' (by simpa using ht) (by simpa using hv)

/-- Each argument has its outer form, and reads. -/
def InsB (B : Nat) (enc : TypeId × Value → H) (P : Program) (W : World) : List TypeId → List Value → Prop
  | [], [] => True
  | t :: ts, v :: vs => (∃ base, Value.okWide P W .any base t v) ∧ InB B enc P W t v.cells.toList ∧ InsB B enc P W ts vs
  | _, _ => False
abbrev Ins (enc : TypeId × Value → H) (P : Program) (W : World) (ts : List TypeId) (vs : List Value) : Prop := InsB reachBytes enc P W ts vs
theorem InsB.mk : ∀ {ts : List TypeId} {vs : List Value}, vs.length = ts.length → (∀ (j : Nat) t v, ts[j]? = some t → vs[j]? = some v → (∃ base, Value.okWide P W .any base t v) ∧ InB B enc P W t v.cells.toList) → InsB B enc P W ts vs
  | [], [], _, _ => trivial
  | t :: ts, v :: vs, h, k => ⟨(k 0 t v rfl rfl).1, (k 0 t v rfl rfl).2, InsB.mk (by simpa using h) fun j t' v' ht hv => k (j + 1) t' v' (by simpa using ht) (by simpa using hv)⟩
  | [], _ :: _, h, _ => by simp at h
  | _ :: _, [], h, _ => by simp at h
theorem InsB.nil {args : Array Value} (h : InsB B enc P W [] args.toList) : args = #[] := by rcases args with ⟨_ | ⟨_, _⟩⟩ <;> simp_all [InsB]
theorem InsB.cons {t : TypeId} {ts : List TypeId} {vs : List Value} (h : InsB B enc P W (t :: ts) vs) : ∃ v vs', vs = v :: vs' ∧ (∃ base, Value.okWide P W .any base t v) ∧ InB B enc P W t v.cells.toList ∧ InsB B enc P W ts vs' := by
  cases vs with
  | nil => exact h.elim
  | cons v vs' => exact ⟨v, vs', rfl, h⟩
theorem InsB.nil' {vs : List Value} (h : InsB B enc P W [] vs) : vs = [] := by cases vs with | nil => rfl | cons _ _ => exact h.elim
theorem InsB.one {args : Array Value} {t : TypeId} (h : InsB B enc P W [t] args.toList) : ∃ v, args = #[v] ∧ (∃ base, Value.okWide P W .any base t v) ∧ InB B enc P W t v.cells.toList := by
  obtain ⟨v, vs, e, h1, h2, h3⟩ := h.cons; obtain rfl := h3.nil'; exact ⟨v, by cases args; simp_all, h1, h2⟩
theorem InsB.two {args : Array Value} {t t' : TypeId} (h : InsB B enc P W [t, t'] args.toList) : ∃ v v', args = #[v, v'] ∧ ((∃ base, Value.okWide P W .any base t v) ∧ InB B enc P W t v.cells.toList) ∧ ((∃ base, Value.okWide P W .any base t' v') ∧ InB B enc P W t' v'.cells.toList) := by
  obtain ⟨v, vs, e, h1, h2, h3⟩ := h.cons; obtain ⟨v', vs', rfl, h1', h2', h3'⟩ := h3.cons; obtain rfl := h3'.nil'
  exact ⟨v, v', by cases args; simp_all, ⟨h1, h2⟩, ⟨h1', h2'⟩⟩
theorem InsB.three {args : Array Value} {t t' t'' : TypeId} (h : InsB B enc P W [t, t', t''] args.toList) : ∃ v v' v'', args = #[v, v', v''] ∧ ((∃ base, Value.okWide P W .any base t v) ∧ InB B enc P W t v.cells.toList) ∧ ((∃ base, Value.okWide P W .any base t' v') ∧ InB B enc P W t' v'.cells.toList) ∧ ((∃ base, Value.okWide P W .any base t'' v'') ∧ InB B enc P W t'' v''.cells.toList) := by
  obtain ⟨v, vs, e, h1, h2, h3⟩ := h.cons; obtain ⟨v', vs', rfl, h1', h2', h3'⟩ := h3.cons; obtain ⟨v'', vs'', rfl, h1'', h2'', h3''⟩ := h3'.cons; obtain rfl := h3''.nil'
  exact ⟨v, v', v'', by cases args; simp_all, ⟨h1, h2⟩, ⟨h1', h2'⟩, ⟨h1'', h2''⟩⟩

theorem trodAll_len {base : Nat} {sp : Nat → Bool} {held : Bool} : ∀ {ts : List TypeId} {vs : List Value} {ds : List (DataW H)} {p : List MemPlace}, DataW.TrodAll enc P W base sp held ts vs ds p → vs.length = ts.length ∧ ds.length = ts.length
  | [], _, _, _, h => by obtain ⟨rfl, rfl, rfl⟩ := trodAll_nil h; simp
  | t :: ts, _, _, _, h => by
    obtain ⟨v, vs1, d, ds1, a, b, rfl, rfl, rfl, _, h2⟩ := trodAll_cons h
    obtain ⟨i1, i2⟩ := trodAll_len h2
    simp [i1, i2]
/-- Of what came in nothing has turned: it reads as it did. -/
theorem trodAll_stay (hl : laidOutB P = true) {W' : World} (hb : Below W.heap.size W W') : ∀ {ts : List TypeId} {vs : List Value} {ds : List (DataW H)} {p : List MemPlace}, (∀ t ∈ ts, P.readableRec t = true ∧ t < P.types.size) →
    DataW.TrodAll enc P W 0 (fun _ => true) true ts vs ds p → (∀ x ∈ p, x.block < W.heap.size) → DataW.TrodAll enc P W' 0 (fun b => decide (b < W.heap.size)) true ts vs ds p
  | [], _, _, _, _, h, _ => by obtain ⟨rfl, rfl, rfl⟩ := trodAll_nil h; exact trodAll_mk0
  | t :: ts, _, _, _, ht, h, hp => by
    obtain ⟨v, vs1, d, ds1, a, b, rfl, rfl, rfl, h1, h2⟩ := trodAll_cons h
    have hq := ht t (by simp)
    exact ⟨a, b, Below.trod hl hq.1 hq.2 h1 hb (fun x hx => hp x (by simp [hx])), trodAll_stay hl hb (fun t' h' => ht t' (by simp [h'])) h2 (fun x hx => hp x (by simp [hx])), rfl⟩
end

theorem len_one {α : Type _} {l : List α} (h : l.length = 1) : ∃ a, l = [a] := by match l, h with | [a], _ => exact ⟨a, rfl⟩
theorem len_two {α : Type _} {l : List α} (h : l.length = 2) : ∃ a b, l = [a, b] := by match l, h with | [a, b], _ => exact ⟨a, b, rfl⟩
theorem len_three {α : Type _} {l : List α} (h : l.length = 3) : ∃ a b c, l = [a, b, c] := by match l, h with | [a, b, c], _ => exact ⟨a, b, c, rfl⟩

/-- What a law's row asks of a call's end, of what its walk shows. -/
theorem law_post {H : Type} {enc : TypeId × Value → H} {P : Program} {fn : Func} {s : ChangeSpec} {tb : TypeId} {ts : List TypeId} (laid : laidOutB P = true) (hpn : fn.params.toList = ts) (hres : fn.resultTypes = #[tb]) (htb : P.underlying tb = some .bool) (hvars : s.vars = [])
    (hts : ts.all (fun t => P.readableRec t && decide (t < P.types.size)) = true) (hspec : ∀ ds : List (DataW H), ds.length = ts.length → s.fn H ds = { results := [.lit (.bool true)], args := ds })
    {W W' : World} {args : Array Value} {ds gs : List (DataW H)} {before : List MemPlace} (hW : DataW.Whole enc P fn.params.toList s.vars false W args.toList ds gs before) (hb : Below W.heap.size W W') :
    s.post enc P fn false true false false W args (.bool true) W' := by
  have hW' := hW
  obtain ⟨p, q, hA, hV, rfl, hfz, hnd⟩ := hW
  rw [hvars] at hV
  obtain ⟨rfl, rfl⟩ : gs = [] ∧ q = [] := by cases gs <;> simp_all [DataW.TrodVars]
  have hn2 : ds.length = ts.length := by rw [← hpn]; exact (trodAll_len hA).2
  have hlt : ∀ x ∈ p, x.block < W.heap.size := fun x hx => by simpa using hW'.lt x (by simpa using hx)
  have hl := hspec ds hn2
  refine ⟨ds, [], p ++ [], [], p, [], hW', ?_, ?_, ?_, hb.frame _, fun h => by cases h⟩
  · rw [hres, List.append_nil, hl]
    exact trodAll_mk1 (shut_bool htb true)
  · rw [List.append_nil, hl]
    exact trodAll_stay laid hb (fun t ht => by simpa using List.all_eq_true.1 hts t (by rw [← hpn]; exact ht)) hA hlt
  · rw [hvars, List.append_nil, hl]
    rfl
/-- What a law's call is handed. -/
theorem law_ins {H : Type} {enc : TypeId × Value → H} {P : Program} {fn : Func} {s : ChangeSpec} {ts : List TypeId} (hpn : fn.params.toList = ts) (hvars : s.vars = []) {W : World} {base : Nat} {args : Array Value} {ds gs : List (DataW H)} {before : List MemPlace}
    (hval : ∀ (j : Nat) t v, fn.params[j]? = some t → args[j]? = some v → Value.okWide P W .any base t v) (hW : DataW.Whole enc P fn.params.toList s.vars false W args.toList ds gs before)
    (hwt : (DataW.weightsEach P (fn.params.toList ++ s.plain.varTypes P) (ds ++ gs)).all (· ≤ reachBytes) = true) : Ins enc P W ts args.toList := by
  obtain ⟨p, q, hA, hV, rfl, hfz, hnd⟩ := hW
  rw [hvars] at hV
  obtain ⟨rfl, rfl⟩ : gs = [] ∧ q = [] := by cases gs <;> simp_all [DataW.TrodVars]
  have hw2 : ∀ n ∈ DataW.weightsEach P fn.params.toList ds, n ≤ reachBytes := by
    have e0 : s.plain.varTypes P = [] := by simp [ChangeSpec.plain, DataSpec.varTypes, hvars]
    rw [e0, List.append_nil, List.append_nil] at hwt
    simpa using hwt
  obtain ⟨hn1, hn2, hin⟩ := trodAll_ins hA hw2
  rw [← hpn]
  exact InsB.mk hn1 fun j t v ht hv => ⟨⟨base, hval j t v (by simpa using ht) (by simpa using hv)⟩, hin j t v ht hv⟩

/-- A law's row, of its walk: it answers true, and of what it was handed nothing turns. -/
theorem law_lift {H : Type} {enc : TypeId × Value → H} {a : Assume} {C : Checked} {os : Os} {f : FuncId} {fn : Func} {s : ChangeSpec} {conds : List PathCond} {tb : TypeId} (ts : List TypeId)
    (own : ownKnob C.prog.godebug = none) (laid : laidOutB C.prog = true) (started : os.Started) (noInit : C.prog.inits.idxOf? f = none) (hfn : C.prog.funcs[f]? = some fn)
    (hpn : fn.params.toList = ts) (hres : fn.resultTypes = #[tb]) (htb : C.prog.underlying tb = some .bool) (hvars : s.vars = [])
    (hts : ts.all (fun t => C.prog.readableRec t && decide (t < C.prog.types.size)) = true)
    (hspec : ∀ ds : List (DataW H), ds.length = ts.length → s.fn H ds = { results := [.lit (.bool true)], args := ds })
    (witness : ∃ (w : World) (tape : Tape) (i : Input), w.os = os ∧ (w.forCall tape i).Shaped C.prog ∧ i.vars = [] ∧ Input.okWide C.prog (w.forCall tape i) .any w.heap.size f i ∧
      s.pre6 enc C.prog fn conds false (w.forCall tape i).memory i.args ∧ a.holds C.prog (lone (Frame.enter C.prog f i.args .normal) [] (w.forCall tape i)))
    (walk : ∀ (W : World) (args : Array Value), Ins enc C.prog W ts args.toList → Ret C.prog f args W fun v W' => v = .bool true ∧ Below W.heap.size W W') :
    ReturnsInHanded a C os f .any (s.pre6 enc C.prog fn conds false) (s.post enc C.prog fn false true false false) := by
  refine returnsInHanded_of_change_sized own started noInit hfn witness ?_
  intro W base args ds gs before hval hW hcnd hwt hh
  exact Calls.mono (walk W args (law_ins hpn hvars hval hW hwt)) fun e W' ⟨v, he, hv, hb⟩ => ⟨v, he, by subst hv; exact law_post laid hpn hres htb hvars hts hspec hW hb⟩
/-- The same of a row that lists package-level variables. -/
theorem law_lift_laid {H : Type} {enc : TypeId × Value → H} {a : Assume} {C : Checked} {os : Os} {f : FuncId} {fn : Func} {s : ChangeSpec} {conds : List PathCond} {tb : TypeId} (ts : List TypeId) {lay : List (String × DataW Unit)}
    (own : ownKnob C.prog.godebug = none) (laid : laidOutB C.prog = true) (started : os.Started) (noInit : C.prog.inits.idxOf? f = none) (hfn : C.prog.funcs[f]? = some fn)
    (hpn : fn.params.toList = ts) (hres : fn.resultTypes = #[tb]) (htb : C.prog.underlying tb = some .bool) (hvars : s.vars = [])
    (hts : ts.all (fun t => C.prog.readableRec t && decide (t < C.prog.types.size)) = true)
    (hspec : ∀ ds : List (DataW H), ds.length = ts.length → s.fn H ds = { results := [.lit (.bool true)], args := ds })
    (witness : ∃ (w : World) (tape : Tape) (i : Input), w.os = os ∧ (w.forCall tape i).Shaped C.prog ∧ i.vars = [] ∧ Input.okWide C.prog (w.forCall tape i) .any w.heap.size f i ∧
      ((s.pre enc C.prog fn conds false (w.forCall tape i).memory i.args ∧ laidMetH C.prog lay (w.forCall tape i).memory) ∧ sizedMet enc C.prog fn (OpenSpec.ofChange s) false (w.forCall tape i).memory i.args) ∧ a.holds C.prog (lone (Frame.enter C.prog f i.args .normal) [] (w.forCall tape i)))
    (walk : ∀ (W : World) (args : Array Value), laidMetH C.prog lay W → Ins enc C.prog W ts args.toList → Ret C.prog f args W fun v W' => v = .bool true ∧ Below W.heap.size W W') :
    ReturnsInHanded a C os f .any (fun w args => (s.pre enc C.prog fn conds false w args ∧ laidMetH C.prog lay w) ∧ sizedMet enc C.prog fn (OpenSpec.ofChange s) false w args) (s.post enc C.prog fn false true false false) := by
  refine returnsInHanded_of_change_and (X := fun w _ => laidMetH C.prog lay w) (fun _ _ _ hh h => h.of_heap hh) own started noInit hfn witness ?_
  intro W base args ds gs before hval hW hcnd hwt hL hh
  exact Calls.mono (walk W args hL (law_ins hpn hvars hval hW hwt)) fun e W' ⟨v, he, hv, hb⟩ => ⟨v, he, by subst hv; exact law_post laid hpn hres htb hvars hts hspec hW hb⟩
end Go.Proofs.Ytgmpclifphbjkaa
end
section
/- The program's own knob, its types laid. -/
namespace Go.Proofs.Ytgmpclifphbjkaa
theorem own : ownKnob Try.prog.godebug = none := by kernel_rfl
theorem laid : laidOutB Try.prog = true := by kernel_rfl
end Go.Proofs.Ytgmpclifphbjkaa
end
section
/- Lists of lists of numbers, the inner ones in memory that is never written any more. -/
set_option linter.unusedSimpArgs false
set_option linter.unusedVariables false
namespace Go.Proofs.Ytgmpclifphbjkaa
open Go.RowKit
/-- Each of these slices reads so. -/
def ImmsI (I : Hp) (k : IntKind) (vs : List Value) (ls : List (List Int)) : Prop := vs.length = ls.length ∧ ∀ j, j < ls.length → ImmI I k (vs.getD j undef) (ls.getD j [])
def immsI (k : IntKind) (vs : List Value) (ls : List (List Int)) : HP := know (fun I => ImmsI I k vs ls) fun _ _ hl h => ⟨h.1, fun j hj => (h.2 j hj).mono hl⟩
/-- A slice of one's own of such slices. -/
def LL (e : TypeId) (k : IntKind) (v : Value) (ls : List (List Int)) : HP := exHP fun vs => Row e 1 v ls.length vs • immsI k vs ls
theorem getD_app_left {α : Type _} {l m : List α} {j : Nat} {d : α} (h : j < l.length) : (l ++ m).getD j d = l.getD j d := by simp [List.getD_eq_getElem?_getD, List.getElem?_append_left h]
theorem getD_app_right {α : Type _} {l m : List α} {j : Nat} {d : α} (h : l.length ≤ j) : (l ++ m).getD j d = m.getD (j - l.length) d := by simp [List.getD_eq_getElem?_getD, List.getElem?_append_right h]
theorem getD_drop {α : Type _} {l : List α} {i j : Nat} {d : α} : (l.drop i).getD j d = l.getD (i + j) d := by simp [List.getD_eq_getElem?_getD]
theorem getD_take {α : Type _} {l : List α} {i j : Nat} {d : α} (h : j < i) : (l.take i).getD j d = l.getD j d := by simp [List.getD_eq_getElem?_getD, List.getElem?_take, h]
theorem getD_mem' {α : Type _} {l : List α} {j : Nat} {d : α} (h : j < l.length) : l.getD j d ∈ l := by rw [List.getD_eq_getElem?_getD, List.getElem?_eq_getElem h]; exact List.getElem_mem h
theorem ImmsI.app {I : Hp} {k : IntKind} {vs us : List Value} {ls ms : List (List Int)} (h : ImmsI I k vs ls) (g : ImmsI I k us ms) : ImmsI I k (vs ++ us) (ls ++ ms) := by
  refine ⟨by simp [h.1, g.1], fun j hj => ?_⟩
  by_cases hl : j < ls.length
  · rw [getD_app_left (by rw [h.1]; exact hl), getD_app_left hl]; exact h.2 j hl
  · have hj' : j - ls.length < ms.length := by simp at hj; omega
    rw [getD_app_right (by rw [h.1]; omega), getD_app_right (by omega), h.1]; exact g.2 _ hj'
theorem ImmsI.drop {I : Hp} {k : IntKind} {vs : List Value} {ls : List (List Int)} (h : ImmsI I k vs ls) (i : Nat) : ImmsI I k (vs.drop i) (ls.drop i) := by
  refine ⟨by simp [h.1], fun j hj => ?_⟩
  rw [getD_drop, getD_drop]
  exact h.2 _ (by simp at hj; omega)
theorem ImmsI.take {I : Hp} {k : IntKind} {vs : List Value} {ls : List (List Int)} (h : ImmsI I k vs ls) (i : Nat) : ImmsI I k (vs.take i) (ls.take i) := by
  refine ⟨by simp [h.1], fun j hj => ?_⟩
  simp at hj
  rw [getD_take (by omega), getD_take (by omega)]
  exact h.2 _ (by omega)
theorem ImmI.one {I : Hp} {k : IntKind} {v : Value} {l : List Int} (h : ImmI I k v l) : ImmsI I k [v] [l] := ⟨rfl, fun j hj => by
  obtain rfl : j = 0 := by simp at hj; omega
  exact h⟩
theorem ImmI.cell1 {I : Hp} {k : IntKind} {v : Value} {l : List Int} (h : ImmI I k v l) : v.oneCell' = true := by obtain ⟨a, c, rfl, _⟩ := h; rfl
section
variable {w0 w : World} {F : HP} {e : TypeId} {k : IntKind} {v : Value} {vs us : List Value} {ls ms : List (List Int)} {l : List Int}
theorem Holds.imms_rd (H : Holds w0 w (immsI k vs ls • F)) {j : Nat} (hj : j < ls.length) : RdI w k (vs.getD j undef) (ls.getD j []) := let ⟨I, h, hI⟩ := H.of_know; (h.2 j hj).rd hI
theorem Holds.imms_len (H : Holds w0 w (immsI k vs ls • F)) : vs.length = ls.length := let ⟨I, h, hI⟩ := H.of_know; h.1
theorem Holds.imms_ones (H : Holds w0 w (immsI k vs ls • F)) : ∀ u ∈ vs, u.oneCell' = true := by
  obtain ⟨I, h, hI⟩ := H.of_know
  intro u hu
  obtain ⟨j, hj, rfl⟩ := List.getElem_of_mem hu
  have := (h.2 j (by rw [← h.1]; exact hj)).cell1
  rwa [List.getD_eq_getElem?_getD, List.getElem?_eq_getElem hj] at this
theorem Holds.imms_nil (H : Holds w0 w F) : Holds w0 w (immsI k [] [] • F) := H.mk_know fun I => ⟨rfl, fun j hj => by simp at hj⟩
theorem Holds.imms_dup (H : Holds w0 w (immsI k vs ls • F)) : Holds w0 w (immsI k vs ls • immsI k vs ls • F) := H.dup_know
theorem Holds.imms_app (H : Holds w0 w (immsI k vs ls • immsI k us ms • F)) : Holds w0 w (immsI k (vs ++ us) (ls ++ ms) • F) := H.ent (know_two (fun I h g => h.app g) F)
theorem Holds.imms_snoc (H : Holds w0 w (immsI k vs ls • immI k v l • F)) : Holds w0 w (immsI k (vs ++ [v]) (ls ++ [l]) • F) := H.ent (know_two (fun I h g => h.app g.one) F)
theorem Holds.imms_cons (H : Holds w0 w (immI k v l • immsI k vs ls • F)) : Holds w0 w (immsI k (v :: vs) (l :: ls) • F) := H.ent (know_two (fun I h g => h.one.app g) F)
theorem Holds.imms_one (H : Holds w0 w (immI k v l • F)) : Holds w0 w (immsI k [v] [l] • F) := H.ent (know_ent (fun I h => h.one) F)
theorem Holds.imms_drop (H : Holds w0 w (immsI k vs ls • F)) (i : Nat) : Holds w0 w (immsI k (vs.drop i) (ls.drop i) • F) := H.ent (know_ent (fun I h => h.drop i) F)
theorem Holds.imms_take (H : Holds w0 w (immsI k vs ls • F)) (i : Nat) : Holds w0 w (immsI k (vs.take i) (ls.take i) • F) := H.ent (know_ent (fun I h => h.take i) F)
theorem Holds.ll (H : Holds w0 w (LL e k v ls • F)) : ∃ vs, Holds w0 w (Row e 1 v ls.length vs • immsI k vs ls • F) := let ⟨vs, h⟩ := H.ex_sep; ⟨vs, h.flat⟩
theorem Holds.mk_ll (H : Holds w0 w (Row e 1 v ls.length vs • immsI k vs ls • F)) : Holds w0 w (LL e k v ls • F) := Holds.mk_ex_sep vs H.deep
theorem Holds.mk_ll' {n : Nat} (H : Holds w0 w (Row e 1 v n vs • immsI k vs ls • F)) : Holds w0 w (LL e k v ls • F) := by
  have h1 := H.row_len
  have h2 := H.swap.imms_len
  obtain rfl : n = ls.length := by omega
  exact H.mk_ll
theorem Holds.ll_nil (H : Holds w0 w F) (a : Option Addr) : Holds w0 w (LL e k (.slice a 0 0) [] • F) := (H.imms_nil.row_nil a).mk_ll
/-- An owned row, the end left off at both sides. -/
theorem Holds.ll_cut0 (H : Holds w0 w (LL e k v ls • F)) {n : Nat} (h : n ≤ ls.length) : Holds w0 w (LL e k (cutV 1 0 n v) (ls.take n) • F) := by
  obtain ⟨vs, H⟩ := H.ll
  have H1 := (H.row_cut0 h).swap.imms_take n |>.swap
  rw [Nat.mul_one] at H1
  exact Holds.mk_ll' H1
theorem Rd.upto1 {n : Nat} {xs : List Value} (hr : Rd w 1 v n xs) {i : Nat} (h : i ≤ n) : Rd w 1 (cutV 1 0 i v) i (xs.take i) := by
  have h1 := hr.cut (Nat.zero_le i) h
  simpa using h1
theorem Rd.from1 {n : Nat} {xs : List Value} (hr : Rd w 1 v n xs) {i : Nat} (h : i ≤ n) : Rd w 1 (cutV 1 i n v) (n - i) (xs.drop i) := by
  have h1 := hr.cut h (Nat.le_refl _)
  rwa [Nat.mul_one, Nat.mul_one, List.take_of_length_le (by simp [hr.len])] at h1
end
end Go.Proofs.Ytgmpclifphbjkaa
end
section
/- Slices of structs that one reads. -/
set_option linter.unusedSimpArgs false
set_option linter.unusedVariables false
namespace Go.Proofs.Ytgmpclifphbjkaa
open Go.RowKit
theorem flat_len {α : Type _} {enc : α → List Value} {sz : Nat} (he : ∀ a, (enc a).length = sz) (l : List α) : (l.flatMap enc).length = l.length * sz := by
  induction l with
  | nil => simp
  | cons a l ih => simp [he, ih, Nat.add_mul, Nat.add_comm]
theorem flat_elem {α : Type _} {enc : α → List Value} {sz : Nat} (he : ∀ a, (enc a).length = sz) {l : List α} {k : Nat} (hk : k < l.length) (d : α) : ((l.flatMap enc).drop (k * sz)).take sz = enc (l.getD k d) := by
  have h1 : l = l.take k ++ l.getD k d :: l.drop (k + 1) := by
    rw [List.getD_eq_getElem?_getD, List.getElem?_eq_getElem hk]
    simp
  have h2 : ((l.take k).flatMap enc).length = k * sz := by rw [flat_len he, List.length_take, Nat.min_eq_left (by omega)]
  conv => lhs; rw [h1]
  rw [List.flatMap_append, List.drop_append, h2]
  simp [h2, List.take_append, he]
theorem rows_of {α : Type _} [Inhabited α] {sz n : Nat} {enc : α → List Value} {xs : List Value} {p : α → Prop} (hx : xs.length = n * sz) (h : ∀ k, k < n → ∃ a, (xs.drop (k * sz)).take sz = enc a ∧ p a) : ∃ l : List α, l.length = n ∧ xs = l.flatMap enc ∧ ∀ k, k < n → p (l.getD k default) := by
  induction n generalizing xs with
  | zero => exact ⟨[], rfl, by simpa using List.eq_nil_of_length_eq_zero (by simpa using hx), fun k hk => by omega⟩
  | succ n ih =>
    obtain ⟨a, h1, h2⟩ := h 0 (by omega)
    rw [Nat.zero_mul, List.drop_zero] at h1
    obtain ⟨l, g1, g2, g3⟩ := ih (xs := xs.drop sz) (by rw [List.length_drop, hx, Nat.succ_mul]; omega) (fun k hk => by
      obtain ⟨b, h3, h4⟩ := h (k + 1) (by omega)
      exact ⟨b, by rw [← h3, List.drop_drop, Nat.succ_mul, Nat.add_comm], h4⟩)
    refine ⟨a :: l, by simp [g1], ?_, fun k hk => ?_⟩
    · rw [List.flatMap_cons, ← g2, ← h1, List.take_append_drop]
    · cases k with
      | zero => exact h2
      | succ k => exact g3 k (by omega)
/-- An element is read whole. -/
theorem r_load_elem {P : Program} {L : List (Nat × Value)} {w : World} {ty : TypeId} {x : Operand} {t : TypeId} {d : TypeDesc} {b o n c sz n' k : Nat} {xs ys : List Value} (hr : Rd w sz (.slice (some ⟨b, o, none⟩) n c) n' xs) (hk : k < n') (hu : P.underlying t = some d) (hd : isRowD d = true) (hs : ∀ w, (sizeOf t).run P w = .ok sz w)
    (hx : ev L x = some (.pointer (some ⟨b, o + (k : Int).toNat * sz, none⟩))) (hy : (xs.drop (k * sz)).take sz = ys) (hl : ys.length = sz) : Val P L (.load t x) ty w (.agg ys.toArray) w :=
  r_load_agg (by rw [hu]; rfl) (plain_row hu hd) hs hl hx (fun j u hj => by
    have hjl : j < sz := by rw [← hl]; exact (List.getElem?_eq_some_iff.1 hj).1
    rw [hr.atS hk hjl, List.getD_eq_getElem?_getD]
    rw [← hy, List.getElem?_take, if_pos hjl, List.getElem?_drop] at hj
    rw [hj]; rfl)
end Go.Proofs.Ytgmpclifphbjkaa
end
