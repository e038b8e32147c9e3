/- KillringOwn, walked. -/
import Derived.Test.YtkjkfbkapingbaaLawKFrom
import Derived.Test.YtkjkfbkapingbaaOwns
set_option linter.unusedSimpArgs false
set_option linter.unusedVariables false
namespace Go.Proofs.Ytkjkfbkapingbaa
open Go.RowKit
section
variable {w0 w : World} {F : HP} {p place : Nat} {E : List (List Int)}
theorem ring_facts (H : Holds w0 w (RingRep p E place • F)) : E.length ≤ 60 ∧ (place < E.length ∨ place = 0) ∧ ∀ e ∈ E, e.length ≤ 1024 := by
  obtain ⟨s, h, hs, hh, hE, hpl, hE2, hs1, H1⟩ := H.ring
  exact ⟨hE, hpl, hE2⟩
theorem ring_yank_any (H : Holds w0 w (RingRep p E place • F)) : Ret Try.prog 12 #[.pointer (some ⟨p, 0, none⟩)] w fun v w' => ∃ u, v = .tuple #[u, .int .i64 (if E.length = 0 then 6 else 0)] ∧ Holds w0 w' (RowI 21 .i32 u (E.getD place []) • RingRep p E place • F) := by
  by_cases h0 : E.length = 0
  · obtain rfl := List.eq_nil_of_length_eq_zero h0
    exact (ring_yank_bell H).mono fun v w' h => ⟨_, h.1, h.2.row_nil none⟩
  · rw [if_neg h0]
    exact (ring_yank_ret H (by omega)).mono fun v w' h => h
theorem ring_rotate_any {n : Int} (H : Holds w0 w (RingRep p E place • F)) : Ret Try.prog 15 #[.pointer (some ⟨p, 0, none⟩), .int .i64 n] w fun v w' => ∃ u, v = .tuple #[u, .int .i64 (if E.length = 0 then 6 else 0)] ∧
    Holds w0 w' (RowI 21 .i32 u (if E.length = 0 then [] else E.getD (rotM E.length place n) []) • RingRep p E (if E.length = 0 then place else rotM E.length place n) • F) := by
  by_cases h0 : E.length = 0
  · obtain rfl := List.eq_nil_of_length_eq_zero h0
    simp only [List.length_nil, if_true]
    exact (ring_rotate_bell H).mono fun v w' h => ⟨_, h.1, h.2.row_nil none⟩
  · simp only [if_neg h0]
    exact (ring_rotate_ret H (by omega)).mono fun v w' h => h
end
theorem killring_own {w : World} {v tv : Value} {vs : List Value} {ls : List (List Int)} {text : List Int} (g2 : Rd w 1 v ls.length vs) (g3 : ∀ k, k < ls.length → RdI w .i32 (vs.getD k undef) (ls.getD k [])) (gt : RdI w .i32 tv text)
    (hb1 : ls.length * 24 ≤ 140737488351232) (hb2 : ∀ k, k < ls.length → (ls.getD k []).length * 4 ≤ 140737488351232) (hb3 : text.length * 4 ≤ 140737488351232) :
    Ret Try.prog 8 #[v, tv] w fun v w' => v = .bool true ∧ Below w.heap.size w w' := by
  obtain ⟨F, H⟩ : ∃ F, Holds w w F := ⟨_, Holds.start w⟩
  have hv : FRd w F 1 v ls.length vs := FRd.of_start g2 F
  have hls : ∀ k, k < ls.length → FRdI w F .i32 (vs.getD k undef) (ls.getD k []) := fun k hk => FRdI.of_start (g3 k hk) F
  have ht : FRdI w F .i32 tv text := FRdI.of_start gt F
  by_cases hgood : BadFrom ls
  · have hbad := hgood
    refine ret_enter Try.func8 rfl Try.ntmps8 (Nat.le_of_ble_eq_true rfl) ?_
    dsimp only [slots0, Nat.reduceAdd]
    refine wc_seq ?_
    refine wc_region ?_
    refine wl_val (r_assign rfl) (ltn rfl) ?_
    refine wl_nil ?_
    refine wq_seq ?_
    refine wc_seq ?_
    refine wc_region ?_
    refine wl_val (r_assign rfl) (ltn rfl) ?_
    refine wl_nil ?_
    refine wq_seq ?_
    refine wc_seq ?_
    refine wc_seq ?_
    refine wc_region ?_
    refine wl_val (r_move rfl) (ltn rfl) ?_
    refine wl_val (r_lenS (hv _ (H)) Try.underlying23 rfl) (ltn rfl) ?_
    refine wl_val (r_move rfl) (ltn rfl) ?_
    refine wl_nil ?_
    refine wq_seq ?_
    refine wc_block ?_
    refine wc_loop [(0, _), (1, _), (25, _), (26, _)] (fun (⟨k, u⟩ : Nat × Value) => [(5, u), (27, .int .i64 (k : Int))]) (fun (⟨k, u⟩ : Nat × Value) W => k ≤ ls.length ∧ ∃ us, Holds w W (Row 22 1 u k us • Owns 21 .i32 us (ls.take k) • F)) (fun (⟨k, u⟩ : Nat × Value) => ls.length - k) ((0, .slice none 0 0)) (Sub.cons rfl (Sub.cons rfl (Sub.cons rfl (Sub.cons rfl (Sub.nil _))))) (Sub.cons rfl (Sub.cons rfl (Sub.nil _))) ⟨by omega, [], H.owns_nil.row_nil none⟩ ?_
    rintro ⟨k, u⟩ w1 ⟨hk, us, HL⟩
    dsimp only [List.cons_append, List.nil_append]
    refine wc_seq ?_
    refine wc_region ?_
    refine wl_val (r_lss rfl rfl) (ltn rfl) ?_
    refine wl_nil ?_
    refine wq_seq ?_
    refine wc_seq ?_
    refine wc_cond rfl (fun h1 => ?_) (fun h1 => ?_)
    · (try simp only [beq_iff_eq, bne_iff_ne, ne_eq, decide_eq_true_eq, decide_eq_false_iff_not, beq_eq_false_iff_ne, bne_eq_false_iff_eq, Bool.not_eq_true', Bool.not_eq_false', Bool.not_eq_eq_eq_not, Bool.not_true, Bool.not_false, gt_iff_lt, ge_iff_le, Int.not_lt, Int.not_le] at h1)
      try (exfalso; first | contradiction | omega)
      all_goals
        
        refine wc_skip ?_
        refine wq_seq ?_
        refine wc_seq ?_
        refine wc_block ?_
        refine wc_seq ?_
        refine wc_region ?_
        obtain ⟨bv, ov, cv, ev⟩ := Rd.posV (hv _ (HL.right.right)) (by omega)
        cases ev
        refine wl_val (r_index Try.underlying23 Try.sizeOf22 rfl rfl (by omega)) (ltn rfl) ?_
        refine wl_val (r_load (plain_of Try.underlying22 rfl) rfl (by first | exact Rd.at1n (hv _ (HL.right.right)) (by omega) | exact Rd.at0 (hv _ (HL.right.right)) (by omega) | exact Rd.at1 (hv _ (HL.right.right)) (by omega))) (ltn rfl) ?_
        refine wl_gen (fun x30_2 hx30_2 => ?_)
        have hbk := hb2 k (by omega)
        refine wl_val (r_assign rfl) (ltn rfl) ?_
        refine wl_nil ?_
        refine wq_seq ?_
        refine wc_region ?_
        refine wl_val (r_move rfl) (ltn rfl) ?_
        refine wl_eff (e_lit_ints (k := .i32) (l := []) HL Try.underlying22 Try.sizeOf21 Try.zeroValue21 rfl rfl rfl (by decide)) (ltn rfl) ?_
        rintro l3 w3 H3
        refine wl_val (r_move rfl) (ltn rfl) ?_
        refine wl_eff (e_append_ints H3 ((by rw [hx30_2]; exact hls _ (by omega) _ (H3.right.right.right))) Try.underlying22 (show (Try.prog.info? 21).map (fun i => (i.zero, i.size, i.bytes)) = some (some (.int .i32 0), 1, 4) by kernel_rfl) rfl rfl (by first | omega | (simp only [List.length_append, List.length_nil, List.length_cons]; omega) | (simp; omega)) (by first | omega | (simp only [List.length_append, List.length_nil, List.length_cons]; omega) | (simp; omega))) (ltn rfl) ?_
        rintro l4 w4 H4
        try simp only [List.nil_append] at H4
        refine wl_eff (e_lit_row (vs := [_]) H4 Try.underlying23 Try.sizeOf22 Try.zeroValue22 rfl rfl rfl (by decide) (ones_cons (by first | rfl | exact Rd.one ((H4).row_rd)) ones_nil)) (ltn rfl) ?_
        rintro l5 w5 H5
        refine wl_eff (e_append H5.f3 Try.underlying23 (show (Try.prog.info? 22).map (fun i => (i.zero, i.size, i.bytes)) = some (some (.slice none 0 0), 1, 24) by kernel_rfl) rfl rfl rfl ((H5).row_rd) (ones_cons (by first | rfl | exact Rd.one ((H5.f2).row_rd)) ones_nil) (by omega) (by omega)) (ltn rfl) ?_
        rintro l6 w6 H6
        have Hd7 := H6.f2.right
        refine wl_val (r_assign rfl) (ltn rfl) ?_
        refine wl_nil ?_
        refine wq_block_normal ?_
        refine wq_seq ?_
        refine wc_region ?_
        refine wl_val (r_add rfl rfl (by omega)) (ltn rfl) ?_
        refine wl_val (r_move rfl) (ltn rfl) ?_
        refine wl_nil ?_
        have HS := (Hd7.f2.f3).owns_snoc.f2
        refine wq_round ((k + 1, l6)) ?_ ?_ ?_ ?_
        · exact (Sub.cons rfl (Sub.cons rfl (Sub.nil _)))
        · exact (Sub.cons rfl (Sub.cons rfl (Sub.cons rfl (Sub.cons rfl (Sub.nil _)))))
        · (try dsimp only)
          exact ⟨by omega, _, by rw [take_succ_getD (d := []) (by omega)]; exact HS⟩
        · (try dsimp only); omega
    · (try simp only [beq_iff_eq, bne_iff_ne, ne_eq, decide_eq_true_eq, decide_eq_false_iff_not, beq_eq_false_iff_ne, bne_eq_false_iff_eq, Bool.not_eq_true', Bool.not_eq_false', Bool.not_eq_eq_eq_not, Bool.not_true, Bool.not_false, gt_iff_lt, ge_iff_le, Int.not_lt, Int.not_le] at h1)
      try (exfalso; first | contradiction | omega)
      all_goals
        
        refine wc_exit ?_
        refine wq_then_exit ?_
        obtain rfl : k = ls.length := by omega
        rw [List.take_length] at HL
        refine wq_then_exit ?_
        refine wq_block_hit ?_
        refine wq_seq ?_
        refine wc_seq ?_
        refine wc_region ?_
        refine wl_val (r_move rfl) (ltn rfl) ?_
        refine wl_eff (e_call (r_call rfl Try.func22 rfl rfl) (ring_from_bad HL (fun W HW => (HW).row_rd) (fun k hk W HW => (HW.f2).owns_rd hk) hbad)) (ltn rfl) ?_
        rintro _ w8 ⟨rfl, H8⟩
        refine wl_val (r_move rfl) (ltn rfl) ?_
        refine wl_val (r_extract rfl rfl) (ltn rfl) ?_
        refine wl_val (r_extract rfl rfl) (ltn rfl) ?_
        refine wl_val (r_assign rfl) (ltn rfl) ?_
        refine wl_val (r_assign rfl) (ltn rfl) ?_
        refine wl_nil ?_
        refine wq_seq ?_
        refine wc_seq ?_
        refine wc_region ?_
        refine wl_val (r_move rfl) (ltn rfl) ?_
        refine wl_eff (e_call (r_call rfl Try.func23 rfl rfl) (rring_from_bad H8 (fun W HW => hv _ (HW.right.right)) (fun k hk W HW => hls k hk _ (HW.right.right)) hbad)) (ltn rfl) ?_
        rintro _ w9 ⟨rfl, H9⟩
        refine wl_val (r_move rfl) (ltn rfl) ?_
        refine wl_val (r_extract rfl rfl) (ltn rfl) ?_
        refine wl_val (r_extract rfl rfl) (ltn rfl) ?_
        refine wl_val (r_assign rfl) (ltn rfl) ?_
        refine wl_val (r_assign rfl) (ltn rfl) ?_
        refine wl_nil ?_
        refine wq_seq ?_
        refine wc_seq ?_
        refine wc_seq ?_
        refine wc_region ?_
        refine wl_val (r_move rfl) (ltn rfl) ?_
        refine wl_val (r_move rfl) (ltn rfl) ?_
        refine wl_val (r_neq rfl rfl) (ltn rfl) ?_
        refine wl_split rfl (ltn rfl) (fun h => by exfalso; (try simp only [beq_iff_eq, bne_iff_ne, ne_eq, decide_eq_true_eq, decide_eq_false_iff_not, beq_eq_false_iff_ne, bne_eq_false_iff_eq, Bool.not_eq_true', Bool.not_eq_false', Bool.not_eq_eq_eq_not, Bool.not_true, Bool.not_false, gt_iff_lt, ge_iff_le, Int.not_lt, Int.not_le] at h); simp at h) (fun h2 => ?_)
        (try simp only [beq_iff_eq, bne_iff_ne, ne_eq, decide_eq_true_eq, decide_eq_false_iff_not, beq_eq_false_iff_ne, bne_eq_false_iff_eq, Bool.not_eq_true', Bool.not_eq_false', Bool.not_eq_eq_eq_not, Bool.not_true, Bool.not_false, gt_iff_lt, ge_iff_le, Int.not_lt, Int.not_le] at h2)
        refine wl_yes rfl rfl ?_
        refine wl_val (r_move rfl) (ltn rfl) ?_
        refine wl_yes rfl rfl ?_
        refine wl_val (r_neq rfl rfl) (ltn rfl) ?_
        refine wl_val (r_pick_f rfl rfl) (ltn rfl) ?_
        refine wl_split rfl (ltn rfl) (fun h3 => ?_) (fun h => by exfalso; (try simp only [beq_iff_eq, bne_iff_ne, ne_eq, decide_eq_true_eq, decide_eq_false_iff_not, beq_eq_false_iff_ne, bne_eq_false_iff_eq, Bool.not_eq_true', Bool.not_eq_false', Bool.not_eq_eq_eq_not, Bool.not_true, Bool.not_false, gt_iff_lt, ge_iff_le, Int.not_lt, Int.not_le] at h); simp at h)
        (try simp only [beq_iff_eq, bne_iff_ne, ne_eq, decide_eq_true_eq, decide_eq_false_iff_not, beq_eq_false_iff_ne, bne_eq_false_iff_eq, Bool.not_eq_true', Bool.not_eq_false', Bool.not_eq_eq_eq_not, Bool.not_true, Bool.not_false, gt_iff_lt, ge_iff_le, Int.not_lt, Int.not_le] at h3)
        refine wl_no rfl rfl rfl (ltn rfl) ?_
        refine wl_no rfl rfl rfl (ltn rfl) ?_
        refine wl_val (r_pick_t rfl rfl) (ltn rfl) ?_
        refine wl_nil ?_
        refine wq_seq ?_
        refine wc_cond_t rfl ?_
        refine wc_seq ?_
        refine wc_region ?_
        refine wl_eff (e_call (r_call rfl Try.func10 rfl rfl) (live_ret H9)) (ltn rfl) ?_
        rintro _ w10 ⟨rfl, H10⟩
        refine wl_val (r_move rfl) (ltn rfl) ?_
        refine wl_yes rfl rfl ?_
        refine wl_val (r_move rfl) (ltn rfl) ?_
        refine wl_yes rfl rfl ?_
        refine wl_val (r_move rfl) (ltn rfl) ?_
        refine wl_yes rfl rfl ?_
        refine wl_val (r_eql rfl rfl) (ltn rfl) ?_
        refine wl_val (r_pick_t rfl rfl) (ltn rfl) ?_
        refine wl_val (r_assign rfl) (ltn rfl) ?_
        refine wl_nil ?_
        refine wq_seq ?_
        refine wc_ret ?_
        refine wq_then_ret ?_
        refine wq_end1 (.inl rfl) Try.results8 rfl ?_
        exact ⟨rfl, H10.base⟩
  · have hmem : ∀ e ∈ ls, e.length ≤ 1024 := fun e he => by
      obtain ⟨j, hj, rfl⟩ := List.getElem_of_mem he
      have := (not_bad hgood).2 j hj
      rwa [List.getD_eq_getElem?_getD, List.getElem?_eq_getElem hj] at this
    refine ret_enter Try.func8 rfl Try.ntmps8 (Nat.le_of_ble_eq_true rfl) ?_
    dsimp only [slots0, Nat.reduceAdd]
    refine wc_seq ?_
    refine wc_region ?_
    refine wl_val (r_assign rfl) (ltn rfl) ?_
    refine wl_nil ?_
    refine wq_seq ?_
    refine wc_seq ?_
    refine wc_region ?_
    refine wl_val (r_assign rfl) (ltn rfl) ?_
    refine wl_nil ?_
    refine wq_seq ?_
    refine wc_seq ?_
    refine wc_seq ?_
    refine wc_region ?_
    refine wl_val (r_move rfl) (ltn rfl) ?_
    refine wl_val (r_lenS (hv _ (H)) Try.underlying23 rfl) (ltn rfl) ?_
    refine wl_val (r_move rfl) (ltn rfl) ?_
    refine wl_nil ?_
    refine wq_seq ?_
    refine wc_block ?_
    refine wc_loop [(0, _), (1, _), (25, _), (26, _)] (fun (⟨k, u⟩ : Nat × Value) => [(5, u), (27, .int .i64 (k : Int))]) (fun (⟨k, u⟩ : Nat × Value) W => k ≤ ls.length ∧ ∃ us, Holds w W (Row 22 1 u k us • Owns 21 .i32 us (ls.take k) • F)) (fun (⟨k, u⟩ : Nat × Value) => ls.length - k) ((0, .slice none 0 0)) (Sub.cons rfl (Sub.cons rfl (Sub.cons rfl (Sub.cons rfl (Sub.nil _))))) (Sub.cons rfl (Sub.cons rfl (Sub.nil _))) ⟨by omega, [], H.owns_nil.row_nil none⟩ ?_
    rintro ⟨k, u⟩ w1 ⟨hk, us, HL⟩
    dsimp only [List.cons_append, List.nil_append]
    refine wc_seq ?_
    refine wc_region ?_
    refine wl_val (r_lss rfl rfl) (ltn rfl) ?_
    refine wl_nil ?_
    refine wq_seq ?_
    refine wc_seq ?_
    refine wc_cond rfl (fun h1 => ?_) (fun h1 => ?_)
    · (try simp only [beq_iff_eq, bne_iff_ne, ne_eq, decide_eq_true_eq, decide_eq_false_iff_not, beq_eq_false_iff_ne, bne_eq_false_iff_eq, Bool.not_eq_true', Bool.not_eq_false', Bool.not_eq_eq_eq_not, Bool.not_true, Bool.not_false, gt_iff_lt, ge_iff_le, Int.not_lt, Int.not_le] at h1)
      try (exfalso; first | contradiction | omega)
      all_goals
        
        refine wc_skip ?_
        refine wq_seq ?_
        refine wc_seq ?_
        refine wc_block ?_
        refine wc_seq ?_
        refine wc_region ?_
        obtain ⟨bv, ov, cv, ev⟩ := Rd.posV (hv _ (HL.right.right)) (by omega)
        cases ev
        refine wl_val (r_index Try.underlying23 Try.sizeOf22 rfl rfl (by omega)) (ltn rfl) ?_
        refine wl_val (r_load (plain_of Try.underlying22 rfl) rfl (by first | exact Rd.at1n (hv _ (HL.right.right)) (by omega) | exact Rd.at0 (hv _ (HL.right.right)) (by omega) | exact Rd.at1 (hv _ (HL.right.right)) (by omega))) (ltn rfl) ?_
        refine wl_gen (fun x30_2 hx30_2 => ?_)
        have hbk := hb2 k (by omega)
        refine wl_val (r_assign rfl) (ltn rfl) ?_
        refine wl_nil ?_
        refine wq_seq ?_
        refine wc_region ?_
        refine wl_val (r_move rfl) (ltn rfl) ?_
        refine wl_eff (e_lit_ints (k := .i32) (l := []) HL Try.underlying22 Try.sizeOf21 Try.zeroValue21 rfl rfl rfl (by decide)) (ltn rfl) ?_
        rintro l3 w3 H3
        refine wl_val (r_move rfl) (ltn rfl) ?_
        refine wl_eff (e_append_ints H3 ((by rw [hx30_2]; exact hls _ (by omega) _ (H3.right.right.right))) Try.underlying22 (show (Try.prog.info? 21).map (fun i => (i.zero, i.size, i.bytes)) = some (some (.int .i32 0), 1, 4) by kernel_rfl) rfl rfl (by first | omega | (simp only [List.length_append, List.length_nil, List.length_cons]; omega) | (simp; omega)) (by first | omega | (simp only [List.length_append, List.length_nil, List.length_cons]; omega) | (simp; omega))) (ltn rfl) ?_
        rintro l4 w4 H4
        try simp only [List.nil_append] at H4
        refine wl_eff (e_lit_row (vs := [_]) H4 Try.underlying23 Try.sizeOf22 Try.zeroValue22 rfl rfl rfl (by decide) (ones_cons (by first | rfl | exact Rd.one ((H4).row_rd)) ones_nil)) (ltn rfl) ?_
        rintro l5 w5 H5
        refine wl_eff (e_append H5.f3 Try.underlying23 (show (Try.prog.info? 22).map (fun i => (i.zero, i.size, i.bytes)) = some (some (.slice none 0 0), 1, 24) by kernel_rfl) rfl rfl rfl ((H5).row_rd) (ones_cons (by first | rfl | exact Rd.one ((H5.f2).row_rd)) ones_nil) (by omega) (by omega)) (ltn rfl) ?_
        rintro l6 w6 H6
        have Hd7 := H6.f2.right
        refine wl_val (r_assign rfl) (ltn rfl) ?_
        refine wl_nil ?_
        refine wq_block_normal ?_
        refine wq_seq ?_
        refine wc_region ?_
        refine wl_val (r_add rfl rfl (by omega)) (ltn rfl) ?_
        refine wl_val (r_move rfl) (ltn rfl) ?_
        refine wl_nil ?_
        have HS := (Hd7.f2.f3).owns_snoc.f2
        refine wq_round ((k + 1, l6)) ?_ ?_ ?_ ?_
        · exact (Sub.cons rfl (Sub.cons rfl (Sub.nil _)))
        · exact (Sub.cons rfl (Sub.cons rfl (Sub.cons rfl (Sub.cons rfl (Sub.nil _)))))
        · (try dsimp only)
          exact ⟨by omega, _, by rw [take_succ_getD (d := []) (by omega)]; exact HS⟩
        · (try dsimp only); omega
    · (try simp only [beq_iff_eq, bne_iff_ne, ne_eq, decide_eq_true_eq, decide_eq_false_iff_not, beq_eq_false_iff_ne, bne_eq_false_iff_eq, Bool.not_eq_true', Bool.not_eq_false', Bool.not_eq_eq_eq_not, Bool.not_true, Bool.not_false, gt_iff_lt, ge_iff_le, Int.not_lt, Int.not_le] at h1)
      try (exfalso; first | contradiction | omega)
      all_goals
        
        refine wc_exit ?_
        refine wq_then_exit ?_
        obtain rfl : k = ls.length := by omega
        rw [List.take_length] at HL
        refine wq_then_exit ?_
        refine wq_block_hit ?_
        refine wq_seq ?_
        refine wc_seq ?_
        refine wc_region ?_
        refine wl_val (r_move rfl) (ltn rfl) ?_
        refine wl_eff (e_call (r_call rfl Try.func22 rfl rfl) (ring_from_good HL (fun W HW => (HW).row_rd) (fun k hk W HW => (HW.f2).owns_rd hk) (not_bad hgood).1 (not_bad hgood).2)) (ltn rfl) ?_
        rintro _ w8 ⟨p8, rfl, H8⟩
        refine wl_val (r_move rfl) (ltn rfl) ?_
        refine wl_val (r_extract rfl rfl) (ltn rfl) ?_
        refine wl_val (r_extract rfl rfl) (ltn rfl) ?_
        refine wl_val (r_assign rfl) (ltn rfl) ?_
        refine wl_val (r_assign rfl) (ltn rfl) ?_
        refine wl_nil ?_
        refine wq_seq ?_
        refine wc_seq ?_
        refine wc_region ?_
        refine wl_val (r_move rfl) (ltn rfl) ?_
        refine wl_eff (e_call (r_call rfl Try.func23 rfl rfl) (rring_from_good H8 (fun W HW => hv _ (HW.right.right.right)) (fun k hk W HW => hls k hk _ (HW.right.right.right)) hgood)) (ltn rfl) ?_
        rintro _ w9 ⟨p9, rfl, H9⟩
        refine wl_val (r_move rfl) (ltn rfl) ?_
        refine wl_val (r_extract rfl rfl) (ltn rfl) ?_
        refine wl_val (r_extract rfl rfl) (ltn rfl) ?_
        refine wl_val (r_assign rfl) (ltn rfl) ?_
        refine wl_val (r_assign rfl) (ltn rfl) ?_
        refine wl_nil ?_
        refine wq_seq ?_
        refine wc_seq ?_
        refine wc_seq ?_
        refine wc_region ?_
        refine wl_val (r_move rfl) (ltn rfl) ?_
        refine wl_val (r_move rfl) (ltn rfl) ?_
        refine wl_val (r_neq rfl rfl) (ltn rfl) ?_
        refine wl_split rfl (ltn rfl) (fun h => by exfalso; (try simp only [beq_iff_eq, bne_iff_ne, ne_eq, decide_eq_true_eq, decide_eq_false_iff_not, beq_eq_false_iff_ne, bne_eq_false_iff_eq, Bool.not_eq_true', Bool.not_eq_false', Bool.not_eq_eq_eq_not, Bool.not_true, Bool.not_false, gt_iff_lt, ge_iff_le, Int.not_lt, Int.not_le] at h); simp at h) (fun h2 => ?_)
        (try simp only [beq_iff_eq, bne_iff_ne, ne_eq, decide_eq_true_eq, decide_eq_false_iff_not, beq_eq_false_iff_ne, bne_eq_false_iff_eq, Bool.not_eq_true', Bool.not_eq_false', Bool.not_eq_eq_eq_not, Bool.not_true, Bool.not_false, gt_iff_lt, ge_iff_le, Int.not_lt, Int.not_le] at h2)
        refine wl_yes rfl rfl ?_
        refine wl_val (r_move rfl) (ltn rfl) ?_
        refine wl_yes rfl rfl ?_
        refine wl_val (r_neq rfl rfl) (ltn rfl) ?_
        refine wl_val (r_pick_f rfl rfl) (ltn rfl) ?_
        refine wl_split rfl (ltn rfl) (fun h => by exfalso; (try simp only [beq_iff_eq, bne_iff_ne, ne_eq, decide_eq_true_eq, decide_eq_false_iff_not, beq_eq_false_iff_ne, bne_eq_false_iff_eq, Bool.not_eq_true', Bool.not_eq_false', Bool.not_eq_eq_eq_not, Bool.not_true, Bool.not_false, gt_iff_lt, ge_iff_le, Int.not_lt, Int.not_le] at h); simp at h) (fun h3 => ?_)
        (try simp only [beq_iff_eq, bne_iff_ne, ne_eq, decide_eq_true_eq, decide_eq_false_iff_not, beq_eq_false_iff_ne, bne_eq_false_iff_eq, Bool.not_eq_true', Bool.not_eq_false', Bool.not_eq_eq_eq_not, Bool.not_true, Bool.not_false, gt_iff_lt, ge_iff_le, Int.not_lt, Int.not_le] at h3)
        refine wl_yes rfl rfl ?_
        refine wl_eff (e_call (r_call rfl Try.func10 rfl rfl) (live_ret H9)) (ltn rfl) ?_
        rintro _ w10 ⟨rfl, H10⟩
        refine wl_yes rfl rfl ?_
        refine wl_val (r_not rfl) (ltn rfl) ?_
        refine wl_val (r_pick_f rfl rfl) (ltn rfl) ?_
        refine wl_nil ?_
        refine wq_seq ?_
        refine wc_cond rfl (fun h4 => ?_) (fun h4 => ?_)
        · (try simp only [beq_iff_eq, bne_iff_ne, ne_eq, decide_eq_true_eq, decide_eq_false_iff_not, beq_eq_false_iff_ne, bne_eq_false_iff_eq, Bool.not_eq_true', Bool.not_eq_false', Bool.not_eq_eq_eq_not, Bool.not_true, Bool.not_false, gt_iff_lt, ge_iff_le, Int.not_lt, Int.not_le] at h4)
          try (exfalso; first | contradiction | omega)
          all_goals
            
            refine wc_seq ?_
            refine wc_region ?_
            refine wl_eff (e_call (r_call rfl Try.func10 rfl rfl) (live_ret H10)) (ltn rfl) ?_
            rintro _ w11 ⟨rfl, H11⟩
            refine wl_split rfl (ltn rfl) (fun h5 => ?_) (fun h5 => ?_)
            · (try simp only [beq_iff_eq, bne_iff_ne, ne_eq, decide_eq_true_eq, decide_eq_false_iff_not, beq_eq_false_iff_ne, bne_eq_false_iff_eq, Bool.not_eq_true', Bool.not_eq_false', Bool.not_eq_eq_eq_not, Bool.not_true, Bool.not_false, gt_iff_lt, ge_iff_le, Int.not_lt, Int.not_le] at h5)
              try (exfalso; first | contradiction | omega)
              all_goals
                refine wl_yes rfl rfl ?_
                refine wl_val (r_move rfl) (ltn rfl) ?_
                refine wl_yes rfl rfl ?_
                refine wl_val (r_move rfl) (ltn rfl) ?_
                refine wl_yes rfl rfl ?_
                refine wl_val (r_eql rfl rfl) (ltn rfl) ?_
                refine wl_val (r_pick_t rfl rfl) (ltn rfl) ?_
                refine wl_val (r_assign rfl) (ltn rfl) ?_
                refine wl_nil ?_
                refine wq_seq ?_
                refine wc_ret ?_
                refine wq_then_ret ?_
                refine wq_end1 (.inl rfl) Try.results8 rfl ?_
                exact ⟨rfl, H11.base⟩
            · (try simp only [beq_iff_eq, bne_iff_ne, ne_eq, decide_eq_true_eq, decide_eq_false_iff_not, beq_eq_false_iff_ne, bne_eq_false_iff_eq, Bool.not_eq_true', Bool.not_eq_false', Bool.not_eq_eq_eq_not, Bool.not_true, Bool.not_false, gt_iff_lt, ge_iff_le, Int.not_lt, Int.not_le] at h5)
              try (exfalso; first | contradiction | omega)
              all_goals
                refine wl_no rfl rfl rfl (ltn rfl) ?_
                refine wl_no rfl rfl rfl (ltn rfl) ?_
                refine wl_no rfl rfl rfl (ltn rfl) ?_
                refine wl_val (r_pick_f rfl rfl) (ltn rfl) ?_
                refine wl_val (r_assign rfl) (ltn rfl) ?_
                refine wl_nil ?_
                refine wq_seq ?_
                refine wc_ret ?_
                refine wq_then_ret ?_
                refine wq_end1 (.inl rfl) Try.results8 rfl ?_
                exact ⟨rfl, H11.base⟩
        · (try simp only [beq_iff_eq, bne_iff_ne, ne_eq, decide_eq_true_eq, decide_eq_false_iff_not, beq_eq_false_iff_ne, bne_eq_false_iff_eq, Bool.not_eq_true', Bool.not_eq_false', Bool.not_eq_eq_eq_not, Bool.not_true, Bool.not_false, gt_iff_lt, ge_iff_le, Int.not_lt, Int.not_le] at h4)
          try (exfalso; first | contradiction | omega)
          all_goals
            
            refine wc_skip ?_
            refine wq_seq ?_
            refine wc_seq ?_
            refine wc_region ?_
            refine wl_eff (e_lit_ints (k := .i32) (l := []) H10 Try.underlying22 Try.sizeOf21 Try.zeroValue21 rfl rfl rfl (by decide)) (ltn rfl) ?_
            rintro l12 w12 H12
            refine wl_val (r_move rfl) (ltn rfl) ?_
            refine wl_eff (e_append_ints H12 (ht _ (H12.right.right.right.right.right)) Try.underlying22 (show (Try.prog.info? 21).map (fun i => (i.zero, i.size, i.bytes)) = some (some (.int .i32 0), 1, 4) by kernel_rfl) rfl rfl (by first | omega | (simp only [List.length_append, List.length_nil, List.length_cons]; omega) | (simp; omega)) (by first | omega | (simp only [List.length_append, List.length_nil, List.length_cons]; omega) | (simp; omega))) (ltn rfl) ?_
            rintro l13 w13 H13
            try simp only [List.nil_append] at H13
            refine wl_val (r_assign rfl) (ltn rfl) ?_
            refine wl_nil ?_
            refine wq_seq ?_
            refine wc_seq ?_
            refine wc_seq ?_
            refine wc_region ?_
            refine wl_val (r_move rfl) (ltn rfl) ?_
            refine wl_val (r_move rfl) (ltn rfl) ?_
            refine wl_eff (e_call (r_call rfl Try.func11 rfl rfl) (ring_kill_ret H13.f3 (fun W HW => (HW).row_rd))) (ltn rfl) ?_
            rintro _ w14 ⟨rfl, H14⟩
            refine wl_val (r_move rfl) (ltn rfl) ?_
            refine wl_val (r_move rfl) (ltn rfl) ?_
            refine wl_eff (e_call (r_call rfl Try.func18 rfl rfl) (rring_kill_ret H14.f3 (fun W HW => ht _ (HW.right.right.right.right)) (not_bad hgood).1 hmem (.inr rfl))) (ltn rfl) ?_
            rintro _ w15 ⟨rfl, H15⟩
            refine wl_val (r_neq rfl rfl) (ltn rfl) ?_
            refine wl_nil ?_
            refine wq_seq ?_
            refine wc_cond rfl (fun h => by exfalso; (try simp only [beq_iff_eq, bne_iff_ne, ne_eq, decide_eq_true_eq, decide_eq_false_iff_not, beq_eq_false_iff_ne, bne_eq_false_iff_eq, Bool.not_eq_true', Bool.not_eq_false', Bool.not_eq_eq_eq_not, Bool.not_true, Bool.not_false, gt_iff_lt, ge_iff_le, Int.not_lt, Int.not_le] at h); simp at h) (fun h6 => ?_)
            (try simp only [beq_iff_eq, bne_iff_ne, ne_eq, decide_eq_true_eq, decide_eq_false_iff_not, beq_eq_false_iff_ne, bne_eq_false_iff_eq, Bool.not_eq_true', Bool.not_eq_false', Bool.not_eq_eq_eq_not, Bool.not_true, Bool.not_false, gt_iff_lt, ge_iff_le, Int.not_lt, Int.not_le] at h6)
            refine wc_skip ?_
            refine wq_seq ?_
            refine wc_seq ?_
            refine wc_seq ?_
            have hone := (H15.f3).row_rd.one
            have HO := (H15.f2.f2.f4.f4.f5).owns_snoc
            have hon := HO.owns_ones
            have hus := HO.owns_len
            refine wc_region ?_
            refine wl_val (r_move rfl) (ltn rfl) ?_
            refine wl_val (r_move rfl) (ltn rfl) ?_
            refine wl_eff (e_lit_row (vs := [_]) HO Try.underlying23 Try.sizeOf22 Try.zeroValue22 rfl rfl rfl (by decide) (ones_cons (by first | rfl | assumption) ones_nil)) (ltn rfl) ?_
            rintro l16 w16 H16
            refine wl_eff (e_append H16.f3 Try.underlying23 (show (Try.prog.info? 22).map (fun i => (i.zero, i.size, i.bytes)) = some (some (.slice none 0 0), 1, 24) by kernel_rfl) rfl rfl rfl ((H16).row_rd) (ones_cons (by first | rfl | assumption) ones_nil) (by omega) (by omega)) (ltn rfl) ?_
            rintro l17 w17 H17
            have Hd18 := H17.f2.right
            refine wl_val (r_lenS ((Hd18).row_rd) Try.underlying23 rfl) (ltn rfl) ?_
            refine wl_val (r_move rfl) (ltn rfl) ?_
            refine wl_nil ?_
            refine wq_seq ?_
            refine wc_block ?_
            obtain ⟨R19, hR19, HR19⟩ := Holds.hide2 (Hd18.f2.f2)
            refine wc_loop [(8, _), (10, _), (78, _), (79, _)] (fun (j : Nat) => [(80, .int .i64 (j : Int))]) (fun (j : Nat) W => j ≤ ls.length + 1 ∧ ∃ ms, ms.length = ls.length + 1 ∧ Holds w W (Row 22 1 l17 (ls.length + 1) (us ++ [l13]) • Owns 21 .i32 (us ++ [l13]) ms • R19)) (fun (j : Nat) => ls.length + 1 - j) (0) (Sub.cons rfl (Sub.cons rfl (Sub.cons rfl (Sub.cons rfl (Sub.nil _))))) (Sub.cons rfl (Sub.nil _)) ⟨by omega, _, by simp, HR19⟩ ?_
            rintro j w20 ⟨hj, ms, hms, HL⟩
            dsimp only [List.cons_append, List.nil_append]
            refine wc_seq ?_
            refine wc_region ?_
            refine wl_val (r_lss rfl rfl) (ltn rfl) ?_
            refine wl_nil ?_
            refine wq_seq ?_
            refine wc_seq ?_
            refine wc_cond rfl (fun h7 => ?_) (fun h7 => ?_)
            · (try simp only [beq_iff_eq, bne_iff_ne, ne_eq, decide_eq_true_eq, decide_eq_false_iff_not, beq_eq_false_iff_ne, bne_eq_false_iff_eq, Bool.not_eq_true', Bool.not_eq_false', Bool.not_eq_eq_eq_not, Bool.not_true, Bool.not_false, gt_iff_lt, ge_iff_le, Int.not_lt, Int.not_le] at h7)
              try (exfalso; first | contradiction | omega)
              all_goals
                
                refine wc_skip ?_
                refine wq_seq ?_
                refine wc_seq ?_
                refine wc_block ?_
                refine wc_seq ?_
                refine wc_region ?_
                obtain ⟨bl17, ol17, cl17, el17⟩ := Rd.posV ((HL).row_rd) (by omega)
                cases el17
                refine wl_val (r_index Try.underlying23 Try.sizeOf22 rfl rfl (by omega)) (ltn rfl) ?_
                refine wl_val (r_load (plain_of Try.underlying22 rfl) rfl (by first | exact Rd.at1n ((HL).row_rd) (by omega) | exact Rd.at0 ((HL).row_rd) (by omega) | exact Rd.at1 ((HL).row_rd) (by omega))) (ltn rfl) ?_
                refine wl_gen (fun x hx => ?_)
                obtain ⟨R2, HT, hback⟩ := (HL.f2).owns_take (j := j) (by omega)
                rw [← hx] at HT hback
                refine wl_val (r_assign rfl) (ltn rfl) ?_
                refine wl_nil ?_
                refine wq_seq ?_
                refine wc_seq ?_
                refine wc_region ?_
                refine wl_val (r_move rfl) (ltn rfl) ?_
                refine wl_val (r_lenR ((HT).row_rd) Try.underlying22 rfl) (ltn rfl) ?_
                refine wl_val (r_move rfl) (ltn rfl) ?_
                refine wl_nil ?_
                refine wq_seq ?_
                refine wc_block ?_
                obtain ⟨n21, R21, ⟨hn21, hb21⟩, hR21, m21, hm21, HR21⟩ := Holds.hideI (HT)
                refine wc_loop [(8, _), (10, _), (14, _), (78, _), (79, _), (80, _), (85, _)] (fun (i : Nat) => [(86, .int .i64 (i : Int))]) (fun (i : Nat) W => i ≤ n21 ∧ ∃ m, m.length = n21 ∧ Holds w W (RowI 21 .i32 x m • R21)) (fun (i : Nat) => n21 - i) (0) (Sub.cons rfl (Sub.cons rfl (Sub.cons rfl (Sub.cons rfl (Sub.cons rfl (Sub.cons rfl (Sub.cons rfl (Sub.nil _)))))))) (Sub.cons rfl (Sub.nil _)) ⟨by omega, m21, by omega, HR21⟩ ?_
                rintro i w22 ⟨hi, m, hm, HL⟩
                dsimp only [List.cons_append, List.nil_append]
                refine wc_seq ?_
                refine wc_region ?_
                refine wl_val (r_lss rfl rfl) (ltn rfl) ?_
                refine wl_nil ?_
                refine wq_seq ?_
                refine wc_seq ?_
                refine wc_cond rfl (fun h8 => ?_) (fun h8 => ?_)
                · (try simp only [beq_iff_eq, bne_iff_ne, ne_eq, decide_eq_true_eq, decide_eq_false_iff_not, beq_eq_false_iff_ne, bne_eq_false_iff_eq, Bool.not_eq_true', Bool.not_eq_false', Bool.not_eq_eq_eq_not, Bool.not_true, Bool.not_false, gt_iff_lt, ge_iff_le, Int.not_lt, Int.not_le] at h8)
                  try (exfalso; first | contradiction | omega)
                  all_goals
                    
                    refine wc_skip ?_
                    refine wq_seq ?_
                    refine wc_seq ?_
                    refine wc_block ?_
                    refine wc_seq ?_
                    refine wc_region ?_
                    refine wl_val (r_move rfl) (ltn rfl) ?_
                    refine wl_val (r_assign rfl) (ltn rfl) ?_
                    refine wl_nil ?_
                    refine wq_seq ?_
                    refine wc_region ?_
                    refine wl_val (r_move rfl) (ltn rfl) ?_
                    refine wl_val (r_move rfl) (ltn rfl) ?_
                    obtain ⟨bx, ox, cx, ex⟩ := RdI.posV ((HL).row_rd) (by omega)
                    cases ex
                    refine wl_val (r_index Try.underlying22 Try.sizeOf21 rfl rfl (by omega)) (ltn rfl) ?_
                    refine wl_eff0 (e_store_elem HL Try.sizeOf21 rfl rfl (by first | exact rfl | omega | simp) (by omega)) ?_
                    rintro _ w23 H23
                    refine wl_nil ?_
                    refine wq_block_normal ?_
                    refine wq_seq ?_
                    refine wc_region ?_
                    refine wl_val (r_add rfl rfl (by omega)) (ltn rfl) ?_
                    refine wl_val (r_move rfl) (ltn rfl) ?_
                    refine wl_nil ?_
                    refine wq_round (i + 1) ?_ ?_ ?_ ?_
                    · exact (Sub.cons rfl (Sub.nil _))
                    · exact (Sub.cons rfl (Sub.cons rfl (Sub.cons rfl (Sub.cons rfl (Sub.cons rfl (Sub.cons rfl (Sub.cons rfl (Sub.nil _))))))))
                    · (try dsimp only)
                      exact ⟨by omega, _, by simp [hm], H23⟩
                    · (try dsimp only); omega
                · (try simp only [beq_iff_eq, bne_iff_ne, ne_eq, decide_eq_true_eq, decide_eq_false_iff_not, beq_eq_false_iff_ne, bne_eq_false_iff_eq, Bool.not_eq_true', Bool.not_eq_false', Bool.not_eq_eq_eq_not, Bool.not_true, Bool.not_false, gt_iff_lt, ge_iff_le, Int.not_lt, Int.not_le] at h8)
                  try (exfalso; first | contradiction | omega)
                  all_goals
                    
                    refine wc_exit ?_
                    refine wq_then_exit ?_
                    subst hR21
                    refine wq_then_exit ?_
                    refine wq_block_hit ?_
                    refine wq_block_normal ?_
                    refine wq_seq ?_
                    refine wc_region ?_
                    refine wl_val (r_add rfl rfl (by omega)) (ltn rfl) ?_
                    refine wl_val (r_move rfl) (ltn rfl) ?_
                    refine wl_nil ?_
                    have HB := hback _ _ _ HL.f3.f3.f3
                    refine wq_round (j + 1) ?_ ?_ ?_ ?_
                    · exact (Sub.cons rfl (Sub.nil _))
                    · exact (Sub.cons rfl (Sub.cons rfl (Sub.cons rfl (Sub.cons rfl (Sub.nil _)))))
                    · (try dsimp only)
                      exact ⟨by omega, _, by simp [hms], HB.f2⟩
                    · (try dsimp only); omega
            · (try simp only [beq_iff_eq, bne_iff_ne, ne_eq, decide_eq_true_eq, decide_eq_false_iff_not, beq_eq_false_iff_ne, bne_eq_false_iff_eq, Bool.not_eq_true', Bool.not_eq_false', Bool.not_eq_eq_eq_not, Bool.not_true, Bool.not_false, gt_iff_lt, ge_iff_le, Int.not_lt, Int.not_le] at h7)
              try (exfalso; first | contradiction | omega)
              all_goals
                
                refine wc_exit ?_
                refine wq_then_exit ?_
                subst hR19
                refine wq_then_exit ?_
                refine wq_block_hit ?_
                refine wq_seq ?_
                refine wc_seq ?_
                refine wc_region ?_
                refine wl_val (r_move rfl) (ltn rfl) ?_
                refine wl_eff (e_call (r_call rfl Try.func12 rfl rfl) (ring_yank_any HL.f4)) (ltn rfl) ?_
                rintro _ w24 ⟨u24, rfl, H24⟩
                refine wl_val (r_move rfl) (ltn rfl) ?_
                refine wl_val (r_extract rfl rfl) (ltn rfl) ?_
                refine wl_val (r_extract rfl rfl) (ltn rfl) ?_
                refine wl_val (r_assign rfl) (ltn rfl) ?_
                refine wl_val (r_assign rfl) (ltn rfl) ?_
                refine wl_nil ?_
                refine wq_seq ?_
                refine wc_seq ?_
                refine wc_region ?_
                refine wl_val (r_move rfl) (ltn rfl) ?_
                refine wl_eff (e_call (r_call rfl Try.func15 rfl rfl) (ring_rotate_any H24.f2)) (ltn rfl) ?_
                rintro _ w25 ⟨u25, rfl, H25⟩
                refine wl_val (r_move rfl) (ltn rfl) ?_
                refine wl_val (r_extract rfl rfl) (ltn rfl) ?_
                refine wl_val (r_extract rfl rfl) (ltn rfl) ?_
                refine wl_val (r_assign rfl) (ltn rfl) ?_
                refine wl_val (r_assign rfl) (ltn rfl) ?_
                refine wl_nil ?_
                refine wq_seq ?_
                refine wc_seq ?_
                refine wc_seq ?_
                refine wc_region ?_
                refine wl_val (r_move rfl) (ltn rfl) ?_
                refine wl_val (r_lenR ((H25.f3).row_rd) Try.underlying22 rfl) (ltn rfl) ?_
                refine wl_val (r_move rfl) (ltn rfl) ?_
                refine wl_nil ?_
                refine wq_seq ?_
                refine wc_block ?_
                obtain ⟨n26, R26, ⟨hn26, hb26⟩, hR26, m26, hm26, HR26⟩ := Holds.hideI (H25.f3)
                refine wc_loop [(8, _), (10, _), (16, _), (18, _), (105, _)] (fun (i : Nat) => [(106, .int .i64 (i : Int))]) (fun (i : Nat) W => i ≤ n26 ∧ ∃ m, m.length = n26 ∧ Holds w W (RowI 21 .i32 u24 m • R26)) (fun (i : Nat) => n26 - i) (0) (Sub.cons rfl (Sub.cons rfl (Sub.cons rfl (Sub.cons rfl (Sub.cons rfl (Sub.nil _)))))) (Sub.cons rfl (Sub.nil _)) ⟨by omega, m26, by omega, HR26⟩ ?_
                rintro i w27 ⟨hi, m, hm, HL⟩
                dsimp only [List.cons_append, List.nil_append]
                refine wc_seq ?_
                refine wc_region ?_
                refine wl_val (r_lss rfl rfl) (ltn rfl) ?_
                refine wl_nil ?_
                refine wq_seq ?_
                refine wc_seq ?_
                refine wc_cond rfl (fun h9 => ?_) (fun h9 => ?_)
                · (try simp only [beq_iff_eq, bne_iff_ne, ne_eq, decide_eq_true_eq, decide_eq_false_iff_not, beq_eq_false_iff_ne, bne_eq_false_iff_eq, Bool.not_eq_true', Bool.not_eq_false', Bool.not_eq_eq_eq_not, Bool.not_true, Bool.not_false, gt_iff_lt, ge_iff_le, Int.not_lt, Int.not_le] at h9)
                  try (exfalso; first | contradiction | omega)
                  all_goals
                    
                    refine wc_skip ?_
                    refine wq_seq ?_
                    refine wc_seq ?_
                    refine wc_block ?_
                    refine wc_seq ?_
                    refine wc_region ?_
                    refine wl_val (r_move rfl) (ltn rfl) ?_
                    refine wl_val (r_assign rfl) (ltn rfl) ?_
                    refine wl_nil ?_
                    refine wq_seq ?_
                    refine wc_region ?_
                    refine wl_val (r_move rfl) (ltn rfl) ?_
                    refine wl_val (r_move rfl) (ltn rfl) ?_
                    obtain ⟨bu24, ou24, cu24, eu24⟩ := RdI.posV ((HL).row_rd) (by omega)
                    cases eu24
                    refine wl_val (r_index Try.underlying22 Try.sizeOf21 rfl rfl (by omega)) (ltn rfl) ?_
                    refine wl_eff0 (e_store_elem HL Try.sizeOf21 rfl rfl (by first | exact rfl | omega | simp) (by omega)) ?_
                    rintro _ w28 H28
                    refine wl_nil ?_
                    refine wq_block_normal ?_
                    refine wq_seq ?_
                    refine wc_region ?_
                    refine wl_val (r_add rfl rfl (by omega)) (ltn rfl) ?_
                    refine wl_val (r_move rfl) (ltn rfl) ?_
                    refine wl_nil ?_
                    refine wq_round (i + 1) ?_ ?_ ?_ ?_
                    · exact (Sub.cons rfl (Sub.nil _))
                    · exact (Sub.cons rfl (Sub.cons rfl (Sub.cons rfl (Sub.cons rfl (Sub.cons rfl (Sub.nil _))))))
                    · (try dsimp only)
                      exact ⟨by omega, _, by simp [hm], H28⟩
                    · (try dsimp only); omega
                · (try simp only [beq_iff_eq, bne_iff_ne, ne_eq, decide_eq_true_eq, decide_eq_false_iff_not, beq_eq_false_iff_ne, bne_eq_false_iff_eq, Bool.not_eq_true', Bool.not_eq_false', Bool.not_eq_eq_eq_not, Bool.not_true, Bool.not_false, gt_iff_lt, ge_iff_le, Int.not_lt, Int.not_le] at h9)
                  try (exfalso; first | contradiction | omega)
                  all_goals
                    
                    refine wc_exit ?_
                    refine wq_then_exit ?_
                    subst hR26
                    refine wq_then_exit ?_
                    refine wq_block_hit ?_
                    refine wq_seq ?_
                    refine wc_seq ?_
                    refine wc_seq ?_
                    refine wc_region ?_
                    refine wl_val (r_move rfl) (ltn rfl) ?_
                    refine wl_val (r_lenR ((HL.f2).row_rd) Try.underlying22 rfl) (ltn rfl) ?_
                    refine wl_val (r_move rfl) (ltn rfl) ?_
                    refine wl_nil ?_
                    refine wq_seq ?_
                    refine wc_block ?_
                    obtain ⟨n29, R29, ⟨hn29, hb29⟩, hR29, m29, hm29, HR29⟩ := Holds.hideI (HL.f2)
                    refine wc_loop [(8, _), (10, _), (18, _), (114, _)] (fun (i : Nat) => [(115, .int .i64 (i : Int))]) (fun (i : Nat) W => i ≤ n29 ∧ ∃ m, m.length = n29 ∧ Holds w W (RowI 21 .i32 u25 m • R29)) (fun (i : Nat) => n29 - i) (0) (Sub.cons rfl (Sub.cons rfl (Sub.cons rfl (Sub.cons rfl (Sub.nil _))))) (Sub.cons rfl (Sub.nil _)) ⟨by omega, m29, by omega, HR29⟩ ?_
                    rintro i w30 ⟨hi, m, hm, HL⟩
                    dsimp only [List.cons_append, List.nil_append]
                    refine wc_seq ?_
                    refine wc_region ?_
                    refine wl_val (r_lss rfl rfl) (ltn rfl) ?_
                    refine wl_nil ?_
                    refine wq_seq ?_
                    refine wc_seq ?_
                    refine wc_cond rfl (fun h10 => ?_) (fun h10 => ?_)
                    · (try simp only [beq_iff_eq, bne_iff_ne, ne_eq, decide_eq_true_eq, decide_eq_false_iff_not, beq_eq_false_iff_ne, bne_eq_false_iff_eq, Bool.not_eq_true', Bool.not_eq_false', Bool.not_eq_eq_eq_not, Bool.not_true, Bool.not_false, gt_iff_lt, ge_iff_le, Int.not_lt, Int.not_le] at h10)
                      try (exfalso; first | contradiction | omega)
                      all_goals
                        
                        refine wc_skip ?_
                        refine wq_seq ?_
                        refine wc_seq ?_
                        refine wc_block ?_
                        refine wc_seq ?_
                        refine wc_region ?_
                        refine wl_val (r_move rfl) (ltn rfl) ?_
                        refine wl_val (r_assign rfl) (ltn rfl) ?_
                        refine wl_nil ?_
                        refine wq_seq ?_
                        refine wc_region ?_
                        refine wl_val (r_move rfl) (ltn rfl) ?_
                        refine wl_val (r_move rfl) (ltn rfl) ?_
                        obtain ⟨bu25, ou25, cu25, eu25⟩ := RdI.posV ((HL).row_rd) (by omega)
                        cases eu25
                        refine wl_val (r_index Try.underlying22 Try.sizeOf21 rfl rfl (by omega)) (ltn rfl) ?_
                        refine wl_eff0 (e_store_elem HL Try.sizeOf21 rfl rfl (by first | exact rfl | omega | simp) (by omega)) ?_
                        rintro _ w31 H31
                        refine wl_nil ?_
                        refine wq_block_normal ?_
                        refine wq_seq ?_
                        refine wc_region ?_
                        refine wl_val (r_add rfl rfl (by omega)) (ltn rfl) ?_
                        refine wl_val (r_move rfl) (ltn rfl) ?_
                        refine wl_nil ?_
                        refine wq_round (i + 1) ?_ ?_ ?_ ?_
                        · exact (Sub.cons rfl (Sub.nil _))
                        · exact (Sub.cons rfl (Sub.cons rfl (Sub.cons rfl (Sub.cons rfl (Sub.nil _)))))
                        · (try dsimp only)
                          exact ⟨by omega, _, by simp [hm], H31⟩
                        · (try dsimp only); omega
                    · (try simp only [beq_iff_eq, bne_iff_ne, ne_eq, decide_eq_true_eq, decide_eq_false_iff_not, beq_eq_false_iff_ne, bne_eq_false_iff_eq, Bool.not_eq_true', Bool.not_eq_false', Bool.not_eq_eq_eq_not, Bool.not_true, Bool.not_false, gt_iff_lt, ge_iff_le, Int.not_lt, Int.not_le] at h10)
                      try (exfalso; first | contradiction | omega)
                      all_goals
                        
                        refine wc_exit ?_
                        refine wq_then_exit ?_
                        subst hR29
                        refine wq_then_exit ?_
                        refine wq_block_hit ?_
                        refine wq_seq ?_
                        refine wc_seq ?_
                        refine wc_seq ?_
                        refine wc_region ?_
                        refine wl_val (r_move rfl) (ltn rfl) ?_
                        refine wl_eff (e_call (r_call rfl Try.func17 rfl rfl) (ring_all_ret HL.f3)) (ltn rfl) ?_
                        rintro _ w32 ⟨bA32, rfl, hE1, hE2, H32⟩
                        refine wl_nil ?_
                        refine wq_seq ?_
                        refine wc_block ?_
                        obtain ⟨R33, hR33, HR33⟩ := Holds.hide1 (H32)
                        refine wc_rangeFunc rfl (all_iter bA32 hE1 hE2) (fun j => R33) (fact False) (fun _ => fact False) (HR33.comm) (by rfl) ?_ ?_ ?_ ?_
                        · rintro l34 j hkR0 vs34 A34 ⟨x34, rfl, rfl⟩ G34 w34 H34
                          try simp only [sep_assoc, emp_sep, sep_emp] at H34
                          refine ⟨rfl, ?_⟩
                          dsimp only [zipL]
                          refine wc_region ?_
                          refine wl_val (r_assign rfl) (ltn rfl) ?_
                          refine wl_nil ?_
                          refine wq_mid (H34.g2) ?_
                          intro G35 w35 H35
                          try simp only [sep_assoc] at H35
                          refine wc_block ?_
                          refine wc_seq ?_
                          refine wc_region ?_
                          refine wl_val (r_move rfl) (ltn rfl) ?_
                          refine wl_val (r_lenR ((H35).row_rd) Try.underlying22 rfl) (ltn rfl) ?_
                          refine wl_val (r_move rfl) (ltn rfl) ?_
                          refine wl_nil ?_
                          refine wq_seq ?_
                          refine wc_block ?_
                          obtain ⟨n36, R36, ⟨hn36, hb36⟩, hR36, m36, hm36, HR36⟩ := Holds.hideI (H35)
                          refine wc_loop [(23, _), (127, _)] (fun (i : Nat) => [(128, .int .i64 (i : Int))]) (fun (i : Nat) W => i ≤ n36 ∧ ∃ m, m.length = n36 ∧ Holds w W (RowI 21 .i32 x34 m • R36)) (fun (i : Nat) => n36 - i) (0) (Sub.cons rfl (Sub.cons rfl (Sub.nil _))) (Sub.cons rfl (Sub.nil _)) ⟨by omega, m36, by omega, HR36⟩ ?_
                          rintro i w37 ⟨hi, m, hm, HL⟩
                          dsimp only [List.cons_append, List.nil_append]
                          refine wc_seq ?_
                          refine wc_region ?_
                          refine wl_val (r_lss rfl rfl) (ltn rfl) ?_
                          refine wl_nil ?_
                          refine wq_seq ?_
                          refine wc_seq ?_
                          refine wc_cond rfl (fun h11 => ?_) (fun h11 => ?_)
                          · (try simp only [beq_iff_eq, bne_iff_ne, ne_eq, decide_eq_true_eq, decide_eq_false_iff_not, beq_eq_false_iff_ne, bne_eq_false_iff_eq, Bool.not_eq_true', Bool.not_eq_false', Bool.not_eq_eq_eq_not, Bool.not_true, Bool.not_false, gt_iff_lt, ge_iff_le, Int.not_lt, Int.not_le] at h11)
                            try (exfalso; first | contradiction | omega)
                            all_goals
                              
                              refine wc_skip ?_
                              refine wq_seq ?_
                              refine wc_seq ?_
                              refine wc_block ?_
                              refine wc_seq ?_
                              refine wc_region ?_
                              refine wl_val (r_move rfl) (ltn rfl) ?_
                              refine wl_val (r_assign rfl) (ltn rfl) ?_
                              refine wl_nil ?_
                              refine wq_seq ?_
                              refine wc_region ?_
                              refine wl_val (r_move rfl) (ltn rfl) ?_
                              refine wl_val (r_move rfl) (ltn rfl) ?_
                              obtain ⟨bx34, ox34, cx34, ex34⟩ := RdI.posV ((HL).row_rd) (by omega)
                              cases ex34
                              refine wl_val (r_index Try.underlying22 Try.sizeOf21 rfl rfl (by omega)) (ltn rfl) ?_
                              refine wl_eff0 (e_store_elem HL Try.sizeOf21 rfl rfl (by first | exact rfl | omega | simp) (by omega)) ?_
                              rintro _ w38 H38
                              refine wl_nil ?_
                              refine wq_block_normal ?_
                              refine wq_seq ?_
                              refine wc_region ?_
                              refine wl_val (r_add rfl rfl (by omega)) (ltn rfl) ?_
                              refine wl_val (r_move rfl) (ltn rfl) ?_
                              refine wl_nil ?_
                              refine wq_round (i + 1) ?_ ?_ ?_ ?_
                              · exact (Sub.cons rfl (Sub.nil _))
                              · exact (Sub.cons rfl (Sub.cons rfl (Sub.nil _)))
                              · (try dsimp only)
                                exact ⟨by omega, _, by simp [hm], H38⟩
                              · (try dsimp only); omega
                          · (try simp only [beq_iff_eq, bne_iff_ne, ne_eq, decide_eq_true_eq, decide_eq_false_iff_not, beq_eq_false_iff_ne, bne_eq_false_iff_eq, Bool.not_eq_true', Bool.not_eq_false', Bool.not_eq_eq_eq_not, Bool.not_true, Bool.not_false, gt_iff_lt, ge_iff_le, Int.not_lt, Int.not_le] at h11)
                            try (exfalso; first | contradiction | omega)
                            all_goals
                              
                              refine wc_exit ?_
                              refine wq_then_exit ?_
                              subst hR36
                              refine wq_then_exit ?_
                              refine wq_block_hit ?_
                              refine wq_block_normal ?_
                              refine wq_rnormal ?_
                              exact HL.right
                        · rintro D39 w39 H39
                          have H39d := H39.ed
                          try simp only [sep_assoc, emp_sep, sep_emp] at H39d
                          have H39m := H39d.mark1
                          subst hR33
                          refine wq_block_normal ?_
                          refine wq_seq ?_
                          refine wc_seq ?_
                          have Ho40 := H39m.f4.right.f4.right.f4.right.f4.right.f4.f4.f4.f4
                          have Ho41 := Ho40.f3.f3.f3
                          obtain ⟨ru, HU⟩ := (Ho41.f4).rring
                          obtain ⟨rus, HU⟩ := HU.swap.ll
                          refine wc_region ?_
                          refine wl_val (r_move rfl) (ltn rfl) ?_
                          refine wl_val (r_move rfl) (ltn rfl) ?_
                          refine wl_val (r_nil rfl) (ltn rfl) ?_
                          refine wl_val ((by first | exact r_field0 0 Try.underlying48 rfl rfl Try.sizeOf23 (by decide) rfl | exact r_field 0 Try.underlying48 rfl rfl Try.sizeOf23 (by decide) rfl)) (ltn rfl) ?_
                          refine wl_val (r_load (plain_of Try.underlying23 rfl) rfl (cell_of_blk (HU.f3).get.2 rfl)) (ltn rfl) ?_
                          refine wl_eff (e_call (r_call rfl Try.func21 rfl rfl) (told_ret HU.f6 (fun W HW => (HW).row_rd) (fun k hk W HW => (HW.f2).imms_rd hk))) (ltn rfl) ?_
                          rintro _ w42 ⟨rfl, H42⟩
                          refine wl_val (r_assign rfl) (ltn rfl) ?_
                          refine wl_nil ?_
                          refine wq_seq ?_
                          refine wc_ret ?_
                          refine wq_endM (.inl rfl) (H42.f5) (fun w43 H43 => ?_)
                          refine ⟨_, res1 Try.results8 rfl, ?_⟩
                          exact ⟨rfl, H43.base⟩
                        · rintro D w H; exact absurd H.swap.fact.1 id
                        · rintro id D w H; exact absurd H.swap.fact.1 fun h => h
end Go.Proofs.Ytkjkfbkapingbaa
