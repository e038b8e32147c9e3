/- The ring's entries, gone through. -/
import Derived.Test.YtkjkfbkapingbaaRing3
import Derived.Test.YtkjkfbkapingbaaRange
set_option linter.unusedSimpArgs false
set_option linter.unusedVariables false
namespace Go.Proofs.Ytkjkfbkapingbaa
open Go.RowKit
theorem info_sl : (Try.prog.info? 22).map (fun i => (i.zero, i.size, i.bytes)) = some (some (.slice none 0 0), 1, 24) := by kernel_rfl
section
variable {w0 w : World} {F : HP} {p : Nat} {E : List (List Int)} {place : Nat}
/-- What stands in the list that is gone through. -/
def slotVs (s : List Value) (h k : Nat) : List Value := (List.range k).map fun j => s.getD ((h + j) % 60) undef
theorem getD_mem {E : List (List Int)} {k : Nat} (h : k < E.length) : E.getD k [] ∈ E := by rw [List.getD_eq_getElem?_getD, List.getElem?_eq_getElem h]; exact List.getElem_mem h
theorem slotVs_succ (s : List Value) (h k : Nat) : slotVs s h (k + 1) = slotVs s h k ++ [s.getD ((h + k) % 60) undef] := by simp [slotVs, List.range_succ]
theorem slotVs_len (s : List Value) (h k : Nat) : (slotVs s h k).length = k := by simp [slotVs]
theorem slotVs_get {s : List Value} {h k j : Nat} (hj : j < k) : (slotVs s h k).getD j undef = s.getD ((h + j) % 60) undef := by simp [slotVs, List.getD_eq_getElem?_getD, hj]
theorem getD_one {s : List Value} (h : ∀ v ∈ s, v.oneCell' = true) {i : Nat} (hi : i < s.length) : (s.getD i undef).oneCell' = true := by
  rw [List.getD_eq_getElem?_getD, List.getElem?_eq_getElem hi]; exact h _ (List.getElem_mem hi)
/-- What the loop over a ring's entries holds. -/
def allHP (b : Nat) (E : List (List Int)) : HP := exHP fun (x : Value × List Value × Nat) => blk b (.cells #[x.1] 23 (0, 0)) • Row 22 1 x.1 E.length (slotVs x.2.1 x.2.2 E.length) • slotsHP x.2.1 x.2.2 E
theorem all_close (b : Nat) (v : Value) (s : List Value) (h : Nat) : Ent (blk b (.cells #[v] 23 (0, 0)) • Row 22 1 v E.length (slotVs s h E.length) • slotsHP s h E) (allHP b E) := fun I x hx => ⟨(v, s, h), hx⟩
theorem all_iter (b : Nat) (hE : ∀ e ∈ E, e.length ≤ 1024) (hE2 : E.length ≤ 60) : Iter Try.prog w0 (.func (.func 29) #[] #[.pointer (some ⟨b, 0, none⟩)]) (allHP b E) E.length
    (fun k vs A => ∃ x, vs = [.int .i64 (k : Int), x] ∧ A = RowI 21 .i32 x (E.getD k [])) := by
  intro l J X w hy H
  refine ⟨29, [], [.pointer (some ⟨b, 0, none⟩)], _, _, rfl, Try.func29, rfl, rfl, ?_⟩
  obtain ⟨⟨v, s, h⟩, H⟩ := H.comm.ex_sep
  have H := H.flat
  have H1 : Holds w0 w (blk b (.cells #[v] 23 (0, 0)) • Row 22 1 v E.length (slotVs s h E.length) • slotsHP s h E • J 0) := H.of_eq (by dsimp only; ac_rfl)
  obtain ⟨a, c, hv, hc1, hc2, _⟩ := (H1.swap.row_rd).form
  subst hv
  simp only [List.nil_append, List.cons_append]
  refine ret_enter Try.func29 rfl Try.ntmps29 (Nat.le_of_ble_eq_true rfl) ?_
  dsimp only [slots0, Nat.reduceAdd]
  refine wc_seq ?_
  refine wc_region ?_
  refine wl_val (r_load (plain_of Try.underlying23 rfl) rfl (cell_of_blk (H1).get.2 rfl)) (ltn rfl) ?_
  refine wl_val (r_lenS ((H1.f2).row_rd) Try.underlying23 rfl) (ltn rfl) ?_
  refine wl_val (r_move rfl) (ltn rfl) ?_
  refine wl_nil ?_
  refine wq_seq ?_
  refine wc_block ?_
  refine wc_loop [(0, _), (5, _), (6, _)] (fun (k : Nat) => [(7, .int .i64 (k : Int))]) (fun (k : Nat) W => k ≤ E.length ∧ Holds w0 W (blk b (.cells #[.slice a E.length c] 23 (0, 0)) • Row 22 1 (.slice a E.length c) E.length (slotVs s h E.length) • slotsHP s h E • J k)) (fun (k : Nat) => E.length - k) (0) (Sub.cons rfl (Sub.cons rfl (Sub.cons rfl (Sub.nil _)))) (Sub.cons rfl (Sub.nil _)) ⟨by omega, H1⟩ ?_
  rintro k w1 ⟨hk, HL⟩
  dsimp only [List.cons_append, List.nil_append]
  refine wc_seq ?_
  refine wc_region ?_
  refine wl_val (r_lss rfl rfl) (ltn rfl) ?_
  refine wl_nil ?_
  refine wq_seq ?_
  refine wc_seq ?_
  refine wc_cond rfl (fun h1 => ?_) (fun h1 => ?_)
  · (try simp only [beq_iff_eq, bne_iff_ne, ne_eq, decide_eq_true_eq, decide_eq_false_iff_not, beq_eq_false_iff_ne, bne_eq_false_iff_eq, Bool.not_eq_true', Bool.not_eq_false', Bool.not_eq_eq_eq_not, Bool.not_true, Bool.not_false, gt_iff_lt, ge_iff_le, Int.not_lt, Int.not_le] at h1)
    try (exfalso; first | contradiction | omega)
    all_goals
      
      refine wc_skip ?_
      refine wq_seq ?_
      refine wc_seq ?_
      refine wc_block ?_
      refine wc_seq ?_
      refine wc_region ?_
      refine wl_val (r_move rfl) (ltn rfl) ?_
      obtain ⟨bv, ov, cv, ev⟩ := Rd.posV ((HL.f2).row_rd) (by omega)
      cases ev
      refine wl_val (r_index Try.underlying23 Try.sizeOf22 rfl rfl (by omega)) (ltn rfl) ?_
      refine wl_val (r_load (plain_of Try.underlying22 rfl) rfl (by first | exact Rd.at1n ((HL.f2).row_rd) (by omega) | exact Rd.at0 ((HL.f2).row_rd) (by omega) | exact Rd.at1 ((HL.f2).row_rd) (by omega))) (ltn rfl) ?_
      rw [slotVs_get (by omega)]
      have hx := fun W (HW : Holds w0 W (slotsHP s h E • J k)) => HW.slots_rd (i := k) (by omega)
      refine wl_val (r_assign rfl) (ltn rfl) ?_
      refine wl_val (r_assign rfl) (ltn rfl) ?_
      refine wl_nil ?_
      refine wq_seq ?_
      refine wc_seq ?_
      refine wc_region ?_
      refine wl_val (r_move rfl) (ltn rfl) ?_
      refine wl_val (r_move rfl) (ltn rfl) ?_
      refine wl_val (r_move rfl) (ltn rfl) ?_
      refine wl_eff (e_call (r_call rfl Try.func28 rfl rfl) (clone_ret HL (fun W HW => hx W HW.right.right) (by have := hE (E.getD k []) (getD_mem (by omega)); omega))) (ltn rfl) ?_
      rintro u w2 H2
      refine wl_eff (e_yield rfl rfl (hy k (by omega) _ _ ⟨u, rfl, rfl⟩ _ _ H2.e3).bool) (ltn rfl) ?_
      rintro _ w3 ⟨t, rfl, ht1, ht2⟩
      refine wl_val (r_not rfl) (ltn rfl) ?_
      refine wl_nil ?_
      refine wq_seq ?_
      refine wc_cond rfl (fun h2 => ?_) (fun h2 => ?_)
      · (try simp only [beq_iff_eq, bne_iff_ne, ne_eq, decide_eq_true_eq, decide_eq_false_iff_not, beq_eq_false_iff_ne, bne_eq_false_iff_eq, Bool.not_eq_true', Bool.not_eq_false', Bool.not_eq_eq_eq_not, Bool.not_true, Bool.not_false, gt_iff_lt, ge_iff_le, Int.not_lt, Int.not_le] at h2)
        try (exfalso; first | contradiction | omega)
        all_goals
          have HX := ht2 (by simpa using h2)
          refine wc_ret ?_
          refine wq_block_ret ?_
          refine wq_then_ret ?_
          refine wq_then_ret ?_
          refine wq_block_ret ?_
          refine wq_end0 (.inl rfl) Try.results29 ?_
          exact .inr (HX.ent ((Ent.refl _).sep (all_close b _ s h)))
      · (try simp only [beq_iff_eq, bne_iff_ne, ne_eq, decide_eq_true_eq, decide_eq_false_iff_not, beq_eq_false_iff_ne, bne_eq_false_iff_eq, Bool.not_eq_true', Bool.not_eq_false', Bool.not_eq_eq_eq_not, Bool.not_true, Bool.not_false, gt_iff_lt, ge_iff_le, Int.not_lt, Int.not_le] at h2)
        try (exfalso; first | contradiction | omega)
        all_goals
          have HN := (ht1 (by simpa using h2)).comm.u3
          refine wc_skip ?_
          refine wq_block_normal ?_
          refine wq_seq ?_
          refine wc_region ?_
          refine wl_val (r_add rfl rfl (by omega)) (ltn rfl) ?_
          refine wl_val (r_move rfl) (ltn rfl) ?_
          refine wl_nil ?_
          refine wq_round (k + 1) ?_ ?_ ?_ ?_
          · exact (Sub.cons rfl (Sub.nil _))
          · exact (Sub.cons rfl (Sub.cons rfl (Sub.cons rfl (Sub.nil _))))
          · (try dsimp only)
            exact ⟨by omega, HN.f3.f3.f3⟩
          · (try dsimp only); omega
  · (try simp only [beq_iff_eq, bne_iff_ne, ne_eq, decide_eq_true_eq, decide_eq_false_iff_not, beq_eq_false_iff_ne, bne_eq_false_iff_eq, Bool.not_eq_true', Bool.not_eq_false', Bool.not_eq_eq_eq_not, Bool.not_true, Bool.not_false, gt_iff_lt, ge_iff_le, Int.not_lt, Int.not_le] at h1)
    try (exfalso; first | contradiction | omega)
    all_goals
      
      refine wc_exit ?_
      refine wq_then_exit ?_
      refine wq_then_exit ?_
      refine wq_block_hit ?_
      refine wq_end0 (.inr rfl) Try.results29 ?_
      obtain rfl : k = E.length := by omega
      exact .inl ((HL.g3).comm.ent ((Ent.refl _).sep (all_close b _ s h)))
theorem ring_all_ret (H : Holds w0 w (RingRep p E place • F)) : Ret Try.prog 17 #[.pointer (some ⟨p, 0, none⟩)] w fun v w' => ∃ b, v = .func (.func 29) #[] #[.pointer (some ⟨b, 0, none⟩)] ∧ (∀ e ∈ E, e.length ≤ 1024) ∧ E.length ≤ 60 ∧ Holds w0 w' (allHP b E • RingRep p E place • F) := by
  refine ret_enter Try.func17 rfl Try.ntmps17 (Nat.le_of_ble_eq_true rfl) ?_
  dsimp only [slots0, Nat.reduceAdd]
  refine wc_seq ?_
  refine wc_region ?_
  refine wl_val (r_assign rfl) (ltn rfl) ?_
  refine wl_nil ?_
  refine wq_seq ?_
  refine wc_seq ?_
  refine wc_region ?_
  refine wl_eff (e_allocL (l := [_]) H Try.zeroValue23 rfl) (ltn rfl) ?_
  rintro _ w1 ⟨b1, rfl, H1⟩
  refine wl_nil ?_
  refine wq_seq ?_
  refine wc_seq ?_
  refine wc_seq ?_
  refine wc_region ?_
  refine wl_val (r_move rfl) (ltn rfl) ?_
  refine wl_eff (e_call (r_call rfl Try.func14 rfl rfl) (ring_len_ret H1.f2)) (ltn rfl) ?_
  rintro _ _ ⟨rfl, rfl⟩
  refine wl_val (r_move rfl) (ltn rfl) ?_
  refine wl_nil ?_
  refine wq_seq ?_
  refine wc_block ?_
  obtain ⟨s, h, hs, hh, hE, hpl, hE2, hs1, HR⟩ := H1.f2.ring
  have Ho3 := HR.f2.f2.f3
  have HS := (Ho3.row_nil (e := 22) (sz := 1) none).swap
  refine wc_loop [(0, _), (3, _), (6, _)] (fun (k : Nat) => [(7, .int .i64 (k : Int))]) (fun (k : Nat) W => k ≤ E.length ∧ ∃ v, Holds w0 W (blk b1 (.cells #[v] 23 (0, 0)) • Row 22 1 v k (slotVs s h k) • blk p (.cells (ringCells s h E.length place) 38 (0, 0)) • slotsHP s h E • F)) (fun (k : Nat) => E.length - k) (0) (Sub.cons rfl (Sub.cons rfl (Sub.cons rfl (Sub.nil _)))) (Sub.cons rfl (Sub.nil _)) ⟨by omega, _, HS⟩ ?_
  rintro k w4 ⟨hk, v, HL⟩
  dsimp only [List.cons_append, List.nil_append]
  obtain ⟨av, cv, rfl, hcv, hcv2, _⟩ := (HL.swap.row_rd).form
  have hone := getD_one hs1 (i := (h + k) % 60) (by omega)
  refine wc_seq ?_
  refine wc_region ?_
  refine wl_val (r_lss rfl rfl) (ltn rfl) ?_
  refine wl_nil ?_
  refine wq_seq ?_
  refine wc_seq ?_
  refine wc_cond rfl (fun h1 => ?_) (fun h1 => ?_)
  · (try simp only [beq_iff_eq, bne_iff_ne, ne_eq, decide_eq_true_eq, decide_eq_false_iff_not, beq_eq_false_iff_ne, bne_eq_false_iff_eq, Bool.not_eq_true', Bool.not_eq_false', Bool.not_eq_eq_eq_not, Bool.not_true, Bool.not_false, gt_iff_lt, ge_iff_le, Int.not_lt, Int.not_le] at h1)
    try (exfalso; first | contradiction | omega)
    all_goals
      
      refine wc_skip ?_
      refine wq_seq ?_
      refine wc_seq ?_
      refine wc_block ?_
      refine wc_seq ?_
      refine wc_region ?_
      refine wl_val (r_move rfl) (ltn rfl) ?_
      refine wl_val (r_assign rfl) (ltn rfl) ?_
      refine wl_nil ?_
      refine wq_seq ?_
      have H5d4 := HL.drew
      have hS5d4 := Holds.kp (H5d4.f4.f4.f4.f4)
      refine wd_beginK [0] hS5d4 (by kernel_rfl) (by kernel_rfl) rfl ?_
      refine wd_take 0 rfl (by kernel_rfl) (by kernel_rfl) hS5d4 (by decide) (fun W hW => r_load (plain_of Try.underlying23 rfl) rfl (cell_of_blk ((Kp.h hW)).get.2 rfl)) (ltn rfl) ?_
      refine wd_takeT 1 rfl (by kernel_rfl) (by kernel_rfl) hS5d4 (fun _ => r_move rfl) (ltn rfl) ?_
      refine wd_takeT 2 rfl (by kernel_rfl) (by kernel_rfl) hS5d4 (fun _ => r_move rfl) (ltn rfl) ?_
      refine wd_eff 3 rfl (by kernel_rfl) (e_call (r_call rfl Try.func25 rfl rfl) (ring_at_ret (k := k) hs hh (by omega) (H5d4.f3.get.2))) (ltn rfl) ?_
      rintro _ w5 ⟨rfl, hD5⟩
      have HA5 := H5d4.drewn hD5
      have hS5n := Holds.kp (HA5.f4.f4.f4.f4)
      refine keepK hS5n (fun W hW => (Kp.h hW).f4.f4.f4.f4) ?_
      refine wd_eff 4 rfl (by kernel_rfl) (e_lit_row (vs := [_]) HA5 Try.underlying23 Try.sizeOf22 Try.zeroValue22 rfl rfl rfl (by decide) (ones_cons (by first | rfl | assumption) ones_nil)) (ltn rfl) ?_
      rintro l6 w6 H6
      have hS6n := Holds.kp (H6.f5.f5.f5.f5.f5)
      refine keepK hS6n (fun W hW => (Kp.h hW).right.f4.f4.f4.f4) ?_
      refine wd_eff 5 rfl (by kernel_rfl) (e_append H6.f3 Try.underlying23 (show (Try.prog.info? 22).map (fun i => (i.zero, i.size, i.bytes)) = some (some (.slice none 0 0), 1, 24) by kernel_rfl) rfl rfl rfl ((H6).row_rd) (ones_cons (by first | rfl | assumption) ones_nil) (by omega) (by omega)) (ltn rfl) ?_
      rintro l7 w7 H7
      have Hd8 := H7.f2.right
      have hS8n := Holds.kp (Hd8.f4.f4.f4.f4)
      refine keepX hS8n (by kernel_rfl) ?_
      refine wd_eff0 6 rfl (by kernel_rfl) (e_storeL 0 (l' := [_]) Hd8.f2 Try.sizeOf23 rfl rfl (by first | rfl | exact Rd.one ((Hd8).row_rd)) rfl rfl) ?_
      rintro _ w9 H9
      have hS9n := Holds.kp (H9.f4.f4.f4.f4)
      refine keepX hS9n (by kernel_rfl) ?_
      refine wd_done (by kernel_rfl) ?_
      refine wq_block_normal ?_
      refine wq_seq ?_
      refine wc_region ?_
      refine wl_val (r_add rfl rfl (by omega)) (ltn rfl) ?_
      refine wl_val (r_move rfl) (ltn rfl) ?_
      refine wl_nil ?_
      refine wq_round (k + 1) ?_ ?_ ?_ ?_
      · exact (Sub.cons rfl (Sub.nil _))
      · exact (Sub.cons rfl (Sub.cons rfl (Sub.cons rfl (Sub.nil _))))
      · (try dsimp only)
        exact ⟨by omega, _, by rw [slotVs_succ]; exact H9.f4.f4.f4.f4⟩
      · (try dsimp only); omega
  · (try simp only [beq_iff_eq, bne_iff_ne, ne_eq, decide_eq_true_eq, decide_eq_false_iff_not, beq_eq_false_iff_ne, bne_eq_false_iff_eq, Bool.not_eq_true', Bool.not_eq_false', Bool.not_eq_eq_eq_not, Bool.not_true, Bool.not_false, gt_iff_lt, ge_iff_le, Int.not_lt, Int.not_le] at h1)
    try (exfalso; first | contradiction | omega)
    all_goals
      
      refine wc_exit ?_
      refine wq_then_exit ?_
      refine wq_then_exit ?_
      refine wq_block_hit ?_
      refine wq_seq ?_
      refine wc_seq ?_
      refine wc_region ?_
      refine wl_val (r_makeFunc rfl rfl) (ltn rfl) ?_
      refine wl_val (r_assign rfl) (ltn rfl) ?_
      refine wl_nil ?_
      refine wq_seq ?_
      refine wc_ret ?_
      refine wq_end1 (.inl rfl) Try.results17 rfl ?_
      obtain rfl : k = E.length := by omega
      refine ⟨b1, rfl, hE2, hE, ?_⟩
      have H1 := Holds.mk_ring hs hh hE hpl hE2 hs1 ((HL.f4.dup_know).f5)
      exact (H1.f4.f4.f4.f3.f3.g3).ent ((all_close b1 _ s h).sep (Ent.refl _))
end
end Go.Proofs.Ytkjkfbkapingbaa
