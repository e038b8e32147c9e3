/- KillringJoins, walked. -/
import Derived.Test.YtkjkfbkapingbaaLive
set_option linter.unusedSimpArgs false
set_option linter.unusedVariables false
namespace Go.Proofs.Ytkjkfbkapingbaa
open Go.RowKit
theorem killM_first {l : List Int} (h0 : 0 < l.length) (h : l.length ≤ 1024) : killM [] 0 0 l = (0, [l], 0) := by
  simp [killM, show ¬ 1024 < l.length by omega, show ¬ l = [] by rintro rfl; simp at h0]
theorem killM_on {all l : List Int} {way : Int} (hw : way = 1 ∨ way = 2) (h : all.length + l.length ≤ 1024) : killM [all] 0 way l = (0, [if way = 1 then all ++ l else l ++ all], 0) := by
  rcases hw with rfl | rfl <;> simp [killM, show ¬ 1024 < l.length by omega, show ¬ 1024 < l.length + all.length by omega]
theorem killM_over {all l : List Int} {way : Int} (hw : way = 1 ∨ way = 2) (h : 1024 < all.length + l.length) : killM [all] 0 way l = (3, [all], 0) := by
  rcases hw with rfl | rfl <;> by_cases h1 : 1024 < l.length <;> simp [killM, h1, show 1024 < l.length + all.length by omega]


theorem killring_joins {w : World} {v1 v2 : Value} {l1 : List Int} {vs : List Value} {ls : List (List Int)} (back : Bool) (g1 : RdI w .i32 v1 l1) (hb1 : l1.length * 4 ≤ 140737488355328) (g2 : Rd w 1 v2 ls.length vs) (g3 : ∀ k, k < ls.length → RdI w .i32 (vs.getD k undef) (ls.getD k [])) (g4 : ∀ k, k < ls.length → (ls.getD k []).length * 4 ≤ 140737488355328) :
    Ret Try.prog 3 #[v1, v2, .bool back] w fun v w' => v = .bool true ∧ Below w.heap.size w w' := by
  have H := Holds.start w
  obtain ⟨a1, c1, hv1, _, _, _⟩ := g1.open
  subst hv1
  obtain ⟨a2, c2, hv2, _, _, _⟩ := g2.form
  subst hv2
  cases back
  · skip
    refine ret_enter Try.func3 rfl Try.ntmps3 (Nat.le_of_ble_eq_true rfl) ?_
    dsimp only [slots0, Nat.reduceAdd]
    refine wc_seq ?_
    refine wc_region ?_
    refine wl_val (r_assign rfl) (by decide) ?_
    refine wl_nil ?_
    refine wq_seq ?_
    refine wc_seq ?_
    refine wc_region ?_
    refine wl_eff (e_call (r_call rfl Try.func9 rfl rfl) (ring_new_ret H)) (by decide) ?_
    rintro _ w1 ⟨p, rfl, H1⟩
    refine wl_val (r_assign rfl) (by decide) ?_
    refine wl_nil ?_
    refine wq_seq ?_
    refine wc_seq ?_
    refine wc_seq ?_
    refine wc_region ?_
    refine wl_val (r_move rfl) (by decide) ?_
    refine wl_val (r_ptr_nil Try.underlying24 rfl rfl) (by decide) ?_
    refine wl_split rfl (by decide) (fun h => by exfalso; (try simp only [beq_iff_eq, bne_iff_ne, ne_eq, decide_eq_true_eq, decide_eq_false_iff_not, beq_eq_false_iff_ne, bne_eq_false_iff_eq, Bool.not_eq_true', Bool.not_eq_false', Bool.not_eq_eq_eq_not, Bool.not_true, Bool.not_false, gt_iff_lt, ge_iff_le, Int.not_lt, Int.not_le] at h); simp at h) (fun h1 => ?_)
    (try simp only [beq_iff_eq, bne_iff_ne, ne_eq, decide_eq_true_eq, decide_eq_false_iff_not, beq_eq_false_iff_ne, bne_eq_false_iff_eq, Bool.not_eq_true', Bool.not_eq_false', Bool.not_eq_eq_eq_not, Bool.not_true, Bool.not_false, gt_iff_lt, ge_iff_le, Int.not_lt, Int.not_le] at h1)
    refine wl_yes rfl rfl ?_
    refine wl_eff (e_call (r_call rfl Try.func10 rfl rfl) (live_ret H1)) (by decide) ?_
    rintro _ w2 ⟨rfl, H2⟩
    refine wl_yes rfl rfl ?_
    refine wl_val (r_known_f (r_not rfl) (by rfl)) (by decide) ?_
    refine wl_val (r_pick_f rfl rfl) (by decide) ?_
    refine wl_nil ?_
    refine wq_seq ?_
    refine wc_cond_f rfl ?_
    refine wc_skip ?_
    refine wq_seq ?_
    refine wc_seq ?_
    refine wc_region ?_
    refine wl_eff (e_lit_row (vs := []) H2 Try.underlying22 Try.sizeOf21 Try.zeroValue21 rfl rfl rfl (by decide) (by simp)) (by decide) ?_
    rintro _ w3 H3
    refine wl_val (r_move rfl) (by decide) ?_
    refine wl_eff (e_append_ints (l := []) H3 (Holds.rd H3 g1) Try.underlying22 info_i32 rfl rfl (by simp; omega) (by simpa using hb1)) (by decide) ?_
    rintro ua w4 H4
    refine wl_val (r_assign rfl) (by decide) ?_
    refine wl_nil ?_
    refine wq_seq ?_
    refine wc_seq ?_
    refine wc_seq ?_
    refine wc_region ?_
    refine wl_val (r_move rfl) (by decide) ?_
    refine wl_val (r_len Try.underlying22 rfl) (by decide) ?_
    refine wl_val (r_eql rfl rfl) (by decide) ?_
    refine wl_split rfl (by decide) (fun h2 => ?_) (fun h2 => ?_)
    · (try simp only [beq_iff_eq, bne_iff_ne, ne_eq, decide_eq_true_eq, decide_eq_false_iff_not, beq_eq_false_iff_ne, bne_eq_false_iff_eq, Bool.not_eq_true', Bool.not_eq_false', Bool.not_eq_eq_eq_not, Bool.not_true, Bool.not_false, gt_iff_lt, ge_iff_le, Int.not_lt, Int.not_le] at h2)
      try (exfalso; first | contradiction | omega)
      all_goals
        refine wl_no rfl rfl rfl (by decide) ?_
        refine wl_no rfl rfl rfl (by decide) ?_
        refine wl_no rfl rfl rfl (by decide) ?_
        refine wl_val (r_pick_t rfl rfl) (by decide) ?_
        refine wl_val (r_move rfl) (by decide) ?_
        refine wl_no rfl rfl rfl (by decide) ?_
        refine wl_no rfl rfl rfl (by decide) ?_
        refine wl_no rfl rfl rfl (by decide) ?_
        refine wl_no rfl rfl rfl (by decide) ?_
        refine wl_val (r_pick_t rfl rfl) (by decide) ?_
        refine wl_nil ?_
        refine wq_seq ?_
        refine wc_cond_t rfl ?_
        refine wc_seq ?_
        refine wc_region ?_
        refine wl_val (r_move rfl) (by decide) ?_
        refine wl_val (r_len Try.underlying22 rfl) (by decide) ?_
        refine wl_val (r_eql rfl rfl) (by decide) ?_
        refine wl_split rfl (by decide) (fun h3 => ?_) (fun h3 => ?_)
        · (try simp only [beq_iff_eq, bne_iff_ne, ne_eq, decide_eq_true_eq, decide_eq_false_iff_not, beq_eq_false_iff_ne, bne_eq_false_iff_eq, Bool.not_eq_true', Bool.not_eq_false', Bool.not_eq_eq_eq_not, Bool.not_true, Bool.not_false, gt_iff_lt, ge_iff_le, Int.not_lt, Int.not_le] at h3)
          try (exfalso; first | contradiction | omega)
          all_goals
            refine wl_no rfl rfl rfl (by decide) ?_
            refine wl_no rfl rfl rfl (by decide) ?_
            refine wl_no rfl rfl rfl (by decide) ?_
            refine wl_val (r_pick_t rfl rfl) (by decide) ?_
            refine wl_val (r_assign rfl) (by decide) ?_
            refine wl_nil ?_
            refine wq_seq ?_
            refine wc_ret ?_
            refine wq_then_ret ?_
            refine wq_end1 (.inl rfl) Try.results3 rfl ?_
            exact ⟨by simp; try omega, H4.base⟩
        · (try simp only [beq_iff_eq, bne_iff_ne, ne_eq, decide_eq_true_eq, decide_eq_false_iff_not, beq_eq_false_iff_ne, bne_eq_false_iff_eq, Bool.not_eq_true', Bool.not_eq_false', Bool.not_eq_eq_eq_not, Bool.not_true, Bool.not_false, gt_iff_lt, ge_iff_le, Int.not_lt, Int.not_le] at h3)
          try (exfalso; first | contradiction | omega)
          all_goals
            refine wl_yes rfl rfl ?_
            refine wl_val (r_move rfl) (by decide) ?_
            refine wl_yes rfl rfl ?_
            refine wl_val (r_len Try.underlying22 rfl) (by decide) ?_
            refine wl_yes rfl rfl ?_
            refine wl_val (r_gtr rfl rfl) (by decide) ?_
            refine wl_val (r_pick_f rfl rfl) (by decide) ?_
            refine wl_val (r_assign rfl) (by decide) ?_
            refine wl_nil ?_
            refine wq_seq ?_
            refine wc_ret ?_
            refine wq_then_ret ?_
            refine wq_end1 (.inl rfl) Try.results3 rfl ?_
            exact ⟨by simp; try omega, H4.base⟩
    · (try simp only [beq_iff_eq, bne_iff_ne, ne_eq, decide_eq_true_eq, decide_eq_false_iff_not, beq_eq_false_iff_ne, bne_eq_false_iff_eq, Bool.not_eq_true', Bool.not_eq_false', Bool.not_eq_eq_eq_not, Bool.not_true, Bool.not_false, gt_iff_lt, ge_iff_le, Int.not_lt, Int.not_le] at h2)
      try (exfalso; first | contradiction | omega)
      all_goals
        refine wl_yes rfl rfl ?_
        refine wl_val (r_move rfl) (by decide) ?_
        refine wl_yes rfl rfl ?_
        refine wl_val (r_len Try.underlying22 rfl) (by decide) ?_
        refine wl_yes rfl rfl ?_
        refine wl_val (r_gtr rfl rfl) (by decide) ?_
        refine wl_val (r_pick_f rfl rfl) (by decide) ?_
        refine wl_split rfl (by decide) (fun h4 => ?_) (fun h4 => ?_)
        · (try simp only [beq_iff_eq, bne_iff_ne, ne_eq, decide_eq_true_eq, decide_eq_false_iff_not, beq_eq_false_iff_ne, bne_eq_false_iff_eq, Bool.not_eq_true', Bool.not_eq_false', Bool.not_eq_eq_eq_not, Bool.not_true, Bool.not_false, gt_iff_lt, ge_iff_le, Int.not_lt, Int.not_le] at h4)
          try (exfalso; first | contradiction | omega)
          all_goals
            refine wl_no rfl rfl rfl (by decide) ?_
            refine wl_no rfl rfl rfl (by decide) ?_
            refine wl_no rfl rfl rfl (by decide) ?_
            refine wl_no rfl rfl rfl (by decide) ?_
            refine wl_val (r_pick_t rfl rfl) (by decide) ?_
            refine wl_nil ?_
            refine wq_seq ?_
            refine wc_cond_t rfl ?_
            refine wc_seq ?_
            refine wc_region ?_
            refine wl_val (r_move rfl) (by decide) ?_
            refine wl_val (r_len Try.underlying22 rfl) (by decide) ?_
            refine wl_val (r_eql rfl rfl) (by decide) ?_
            refine wl_split rfl (by decide) (fun h5 => ?_) (fun h5 => ?_)
            · (try simp only [beq_iff_eq, bne_iff_ne, ne_eq, decide_eq_true_eq, decide_eq_false_iff_not, beq_eq_false_iff_ne, bne_eq_false_iff_eq, Bool.not_eq_true', Bool.not_eq_false', Bool.not_eq_eq_eq_not, Bool.not_true, Bool.not_false, gt_iff_lt, ge_iff_le, Int.not_lt, Int.not_le] at h5)
              try (exfalso; first | contradiction | omega)
              all_goals
                refine wl_no rfl rfl rfl (by decide) ?_
                refine wl_no rfl rfl rfl (by decide) ?_
                refine wl_no rfl rfl rfl (by decide) ?_
                refine wl_val (r_pick_t rfl rfl) (by decide) ?_
                refine wl_val (r_assign rfl) (by decide) ?_
                refine wl_nil ?_
                refine wq_seq ?_
                refine wc_ret ?_
                refine wq_then_ret ?_
                refine wq_end1 (.inl rfl) Try.results3 rfl ?_
                exact ⟨by simp; try omega, H4.base⟩
            · (try simp only [beq_iff_eq, bne_iff_ne, ne_eq, decide_eq_true_eq, decide_eq_false_iff_not, beq_eq_false_iff_ne, bne_eq_false_iff_eq, Bool.not_eq_true', Bool.not_eq_false', Bool.not_eq_eq_eq_not, Bool.not_true, Bool.not_false, gt_iff_lt, ge_iff_le, Int.not_lt, Int.not_le] at h5)
              try (exfalso; first | contradiction | omega)
              all_goals
                refine wl_yes rfl rfl ?_
                refine wl_val (r_move rfl) (by decide) ?_
                refine wl_yes rfl rfl ?_
                refine wl_val (r_len Try.underlying22 rfl) (by decide) ?_
                refine wl_yes rfl rfl ?_
                refine wl_val (r_gtr rfl rfl) (by decide) ?_
                refine wl_val (r_pick_f rfl rfl) (by decide) ?_
                refine wl_val (r_assign rfl) (by decide) ?_
                refine wl_nil ?_
                refine wq_seq ?_
                refine wc_ret ?_
                refine wq_then_ret ?_
                refine wq_end1 (.inl rfl) Try.results3 rfl ?_
                exact ⟨by simp; try omega, H4.base⟩
        · (try simp only [beq_iff_eq, bne_iff_ne, ne_eq, decide_eq_true_eq, decide_eq_false_iff_not, beq_eq_false_iff_ne, bne_eq_false_iff_eq, Bool.not_eq_true', Bool.not_eq_false', Bool.not_eq_eq_eq_not, Bool.not_true, Bool.not_false, gt_iff_lt, ge_iff_le, Int.not_lt, Int.not_le] at h4)
          try (exfalso; first | contradiction | omega)
          all_goals
            refine wl_yes rfl rfl ?_
            refine wl_val (r_move rfl) (by decide) ?_
            refine wl_yes rfl rfl ?_
            refine wl_val (r_move rfl) (by decide) ?_
            refine wl_yes rfl rfl ?_
            refine wl_eff (e_call (r_call rfl Try.func11 rfl rfl) (ring_kill_ret H4.swap (FRdI.of_start g1 _))) (by decide) ?_
            rintro _ w5 ⟨hv, H5⟩
            rw [killM_first (by omega) (by omega)] at hv H5
            dsimp only at hv H5
            subst hv
            have HK : Holds w w5 (RingRep p [l1] 0 • RowI 21 .i32 ua l1 • emp) := H5
            have hl1 : l1.length ≤ 1024 := by omega
            have hl0 : 0 < l1.length := by omega
            refine wl_yes rfl rfl ?_
            refine wl_val (r_known_f (r_neq rfl rfl) (by first | (rw [decide_eq_true_eq]; omega) | (rw [decide_eq_false_iff_not]; omega) | (rw [beq_iff_eq]; omega) | (rw [beq_eq_false_iff_ne]; omega) | (rw [bne_iff_ne]; omega) | (rw [bne_eq_false_iff_eq]; omega) | (simp; done) | (simp; omega))) (by decide) ?_
            refine wl_val (r_pick_f rfl rfl) (by decide) ?_
            refine wl_nil ?_
            refine wq_seq ?_
            refine wc_cond_f rfl ?_
            refine wc_skip ?_
            refine wq_seq ?_
            refine wc_seq ?_
            refine wc_seq ?_
            refine wc_region ?_
            refine wl_val (r_move rfl) (by decide) ?_
            refine wl_val (r_len Try.underlying23 rfl) (by decide) ?_
            refine wl_val (r_move rfl) (by decide) ?_
            refine wl_nil ?_
            refine wq_seq ?_
            refine wc_block ?_
            refine wc_loop [(2, _), (7, _), (46, _), (47, _)] (fun (⟨k, all, u⟩ : Nat × List Int × Value) => [(8, u), (48, .int .i64 (k : Int))]) (fun (⟨k, all, u⟩ : Nat × List Int × Value) W => k ≤ ls.length ∧ all.length ≤ 1024 ∧ Holds w W (RingRep p [all] 0 • RowI 21 .i32 u all • emp)) (fun (⟨k, all, u⟩ : Nat × List Int × Value) => ls.length - k) ((0, l1, ua)) (Sub.cons rfl (Sub.cons rfl (Sub.cons rfl (Sub.cons rfl (Sub.nil _))))) (Sub.cons rfl (Sub.cons rfl (Sub.nil _))) ⟨by omega, hl1, HK⟩ ?_
            rintro ⟨k, all, u⟩ w6 ⟨hk, hal, HL⟩
            dsimp only [List.cons_append, List.nil_append]
            refine wc_seq ?_
            refine wc_region ?_
            refine wl_val (r_lss rfl rfl) (by decide) ?_
            refine wl_nil ?_
            refine wq_seq ?_
            refine wc_seq ?_
            refine wc_cond rfl (fun h6 => ?_) (fun h6 => ?_)
            · (try simp only [beq_iff_eq, bne_iff_ne, ne_eq, decide_eq_true_eq, decide_eq_false_iff_not, beq_eq_false_iff_ne, bne_eq_false_iff_eq, Bool.not_eq_true', Bool.not_eq_false', Bool.not_eq_eq_eq_not, Bool.not_true, Bool.not_false, gt_iff_lt, ge_iff_le, Int.not_lt, Int.not_le] at h6)
              try (exfalso; first | contradiction | omega)
              all_goals
                
                refine wc_skip ?_
                refine wq_seq ?_
                refine wc_seq ?_
                refine wc_block ?_
                refine wc_seq ?_
                have hk1 : k < ls.length := by omega
                obtain ⟨b, o, rfl, hc⟩ := (FRd.of_start g2 _).cell HL (j := k) (by omega)
                obtain ⟨ak, ck, ek, _, _, _⟩ := (g3 k hk1).open
                have h3k := g3 k hk1
                have h4k := g4 k hk1
                rw [ek] at hc h3k
                obtain ⟨au, cu, hu, _, _, _⟩ := (RdI.open (HL.right.row_rd))
                subst hu
                refine wc_region ?_
                refine wl_val (r_index Try.underlying23 Try.sizeOf22 rfl rfl (by omega)) (by decide) ?_
                refine wl_val (r_load (plain_of Try.underlying22 rfl) rfl (by rw [show ((k : Int).toNat * 1) = k from by omega]; exact hc)) (by decide) ?_
                refine wl_val (r_assign rfl) (by decide) ?_
                refine wl_nil ?_
                refine wq_seq ?_
                refine wc_seq ?_
                refine wc_region ?_
                refine wl_val (r_assign rfl) (by decide) ?_
                refine wl_nil ?_
                refine wq_seq ?_
                refine wc_seq ?_
                refine wc_seq ?_
                refine wc_region ?_
                refine wl_val (r_move rfl) (by decide) ?_
                refine wl_nil ?_
                refine wq_seq ?_
                refine wc_cond_f rfl ?_
                refine wc_skip ?_
                refine wq_seq ?_
                refine wc_seq ?_
                refine wc_seq ?_
                refine wc_region ?_
                refine wl_val (r_move rfl) (by decide) ?_
                refine wl_val (r_len Try.underlying22 rfl) (by decide) ?_
                refine wl_val (r_move rfl) (by decide) ?_
                refine wl_val (r_len Try.underlying22 rfl) (by decide) ?_
                refine wl_val (r_add rfl rfl (by omega)) (by decide) ?_
                refine wl_val (r_gtr rfl rfl) (by decide) ?_
                refine wl_nil ?_
                refine wq_seq ?_
                refine wc_cond rfl (fun h7 => ?_) (fun h7 => ?_)
                · (try simp only [beq_iff_eq, bne_iff_ne, ne_eq, decide_eq_true_eq, decide_eq_false_iff_not, beq_eq_false_iff_ne, bne_eq_false_iff_eq, Bool.not_eq_true', Bool.not_eq_false', Bool.not_eq_eq_eq_not, Bool.not_true, Bool.not_false, gt_iff_lt, ge_iff_le, Int.not_lt, Int.not_le] at h7)
                  try (exfalso; first | contradiction | omega)
                  all_goals
                    
                    refine wc_seq ?_
                    refine wc_seq ?_
                    refine wc_region ?_
                    refine wl_val (r_move rfl) (by decide) ?_
                    refine wl_val (r_move rfl) (by decide) ?_
                    refine wl_val (r_move rfl) (by decide) ?_
                    refine wl_eff (e_call (r_call rfl Try.func11 rfl rfl) (ring_kill_ret HL (FRdI.of_start h3k _))) (by decide) ?_
                    rintro _ w7 ⟨hv, H7⟩
                    rw [killM_over (by decide) (by omega)] at hv H7
                    dsimp only at hv H7
                    subst hv
                    obtain ⟨all2, hall2⟩ : ∃ x, x = all := ⟨_, rfl⟩
                    obtain ⟨u2, hu2⟩ : ∃ x, x = Value.slice au all.length cu := ⟨_, rfl⟩
                    have HN : Holds w w7 (RingRep p [all2] 0 • RowI 21 .i32 u2 all2 • emp) := by rw [hall2, hu2]; exact H7
                    have hal2 : all2.length ≤ 1024 := by rw [hall2]; exact hal
                    refine wl_val (r_known_f (r_neq rfl rfl) (by first | (rw [decide_eq_true_eq]; omega) | (rw [decide_eq_false_iff_not]; omega) | (rw [beq_iff_eq]; omega) | (rw [beq_eq_false_iff_ne]; omega) | (rw [bne_iff_ne]; omega) | (rw [bne_eq_false_iff_eq]; omega) | (simp; done) | (simp; omega))) (by decide) ?_
                    refine wl_nil ?_
                    refine wq_seq ?_
                    refine wc_cond_f rfl ?_
                    refine wc_skip ?_
                    refine wq_seq ?_
                    refine wc_exit ?_
                    refine wq_then_exit ?_
                    refine wq_block_hit ?_
                    refine wq_seq ?_
                    refine wc_region ?_
                    refine wl_val (r_add rfl rfl (by omega)) (by decide) ?_
                    refine wl_val (r_move rfl) (by decide) ?_
                    refine wl_nil ?_
                    refine wq_round ((k + 1, all2, u2)) ?_ ?_ ?_ ?_
                    · exact (Sub.cons' rfl (by first | rfl | exact hu2.symm) (Sub.cons rfl (Sub.nil _)))
                    · exact (Sub.cons rfl (Sub.cons rfl (Sub.cons rfl (Sub.cons rfl (Sub.nil _)))))
                    · exact ⟨by omega, hal2, HN⟩
                    · (try dsimp only); omega
                · (try simp only [beq_iff_eq, bne_iff_ne, ne_eq, decide_eq_true_eq, decide_eq_false_iff_not, beq_eq_false_iff_ne, bne_eq_false_iff_eq, Bool.not_eq_true', Bool.not_eq_false', Bool.not_eq_eq_eq_not, Bool.not_true, Bool.not_false, gt_iff_lt, ge_iff_le, Int.not_lt, Int.not_le] at h7)
                  try (exfalso; first | contradiction | omega)
                  all_goals
                    
                    refine wc_skip ?_
                    refine wq_seq ?_
                    refine wc_seq ?_
                    refine wc_seq ?_
                    refine wc_region ?_
                    refine wl_val (r_move rfl) (by decide) ?_
                    refine wl_val (r_move rfl) (by decide) ?_
                    refine wl_val (r_move rfl) (by decide) ?_
                    refine wl_eff (e_call (r_call rfl Try.func11 rfl rfl) (ring_kill_ret HL (FRdI.of_start h3k _))) (by decide) ?_
                    rintro _ w8 ⟨hv, H8⟩
                    rw [killM_on (by decide) (by omega)] at hv H8
                    simp only [if_true, show ¬ (2 : Int) = 1 by decide, if_false] at hv H8
                    subst hv
                    refine wl_val (r_known_f (r_neq rfl rfl) (by first | (rw [decide_eq_true_eq]; omega) | (rw [decide_eq_false_iff_not]; omega) | (rw [beq_iff_eq]; omega) | (rw [beq_eq_false_iff_ne]; omega) | (rw [bne_iff_ne]; omega) | (rw [bne_eq_false_iff_eq]; omega) | (simp; done) | (simp; omega))) (by decide) ?_
                    refine wl_nil ?_
                    refine wq_seq ?_
                    refine wc_cond_f rfl ?_
                    refine wc_skip ?_
                    refine wq_seq ?_
                    refine wc_seq ?_
                    refine wc_region ?_
                    refine wl_val (r_move rfl) (by decide) ?_
                    refine wl_nil ?_
                    refine wq_seq ?_
                    refine wc_cond_f rfl ?_
                    refine wc_region ?_
                    refine wl_val (r_move rfl) (by decide) ?_
                    refine wl_val (r_move rfl) (by decide) ?_
                    refine wl_eff (e_append_ints H8.swap (Holds.rd H8 h3k) Try.underlying22 info_i32 rfl rfl (by omega) (by omega)) (by decide) ?_
                    rintro u2 w9 H9
                    have hal2 : (all ++ ls.getD k []).length ≤ 1024 := by rw [List.length_append]; omega
                    obtain ⟨all2, hall2⟩ : ∃ x, x = all ++ ls.getD k [] := ⟨_, rfl⟩
                    have HN : Holds w w9 (RingRep p [all2] 0 • RowI 21 .i32 u2 all2 • emp) := by rw [hall2]; exact H9.swap
                    rw [← hall2] at hal2
                    refine wl_val (r_assign rfl) (by decide) ?_
                    refine wl_nil ?_
                    refine wq_block_normal ?_
                    refine wq_seq ?_
                    refine wc_region ?_
                    refine wl_val (r_add rfl rfl (by omega)) (by decide) ?_
                    refine wl_val (r_move rfl) (by decide) ?_
                    refine wl_nil ?_
                    refine wq_round ((k + 1, all2, u2)) ?_ ?_ ?_ ?_
                    · exact (Sub.cons' rfl (by first | rfl | exact hu2.symm) (Sub.cons rfl (Sub.nil _)))
                    · exact (Sub.cons rfl (Sub.cons rfl (Sub.cons rfl (Sub.cons rfl (Sub.nil _)))))
                    · exact ⟨by omega, hal2, HN⟩
                    · (try dsimp only); omega
            · (try simp only [beq_iff_eq, bne_iff_ne, ne_eq, decide_eq_true_eq, decide_eq_false_iff_not, beq_eq_false_iff_ne, bne_eq_false_iff_eq, Bool.not_eq_true', Bool.not_eq_false', Bool.not_eq_eq_eq_not, Bool.not_true, Bool.not_false, gt_iff_lt, ge_iff_le, Int.not_lt, Int.not_le] at h6)
              try (exfalso; first | contradiction | omega)
              all_goals
                
                refine wc_exit ?_
                refine wq_then_exit ?_
                refine wq_then_exit ?_
                refine wq_block_hit ?_
                refine wq_seq ?_
                refine wc_seq ?_
                refine wc_region ?_
                refine wl_val (r_move rfl) (by decide) ?_
                refine wl_eff (e_call (r_call rfl Try.func12 rfl rfl) (ring_yank_ret HL (by simp))) (by decide) ?_
                rintro _ w10 ⟨y, rfl, H10⟩
                refine wl_val (r_move rfl) (by decide) ?_
                refine wl_val (r_extract rfl rfl) (by decide) ?_
                refine wl_val (r_extract rfl rfl) (by decide) ?_
                refine wl_val (r_assign rfl) (by decide) ?_
                refine wl_val (r_assign rfl) (by decide) ?_
                refine wl_nil ?_
                refine wq_seq ?_
                refine wc_seq ?_
                refine wc_region ?_
                refine wl_val (r_move rfl) (by decide) ?_
                refine wl_val (r_eql rfl rfl) (by decide) ?_
                refine wl_split rfl (by decide) (fun h8 => ?_) (fun h => by exfalso; (try simp only [beq_iff_eq, bne_iff_ne, ne_eq, decide_eq_true_eq, decide_eq_false_iff_not, beq_eq_false_iff_ne, bne_eq_false_iff_eq, Bool.not_eq_true', Bool.not_eq_false', Bool.not_eq_eq_eq_not, Bool.not_true, Bool.not_false, gt_iff_lt, ge_iff_le, Int.not_lt, Int.not_le] at h); first | contradiction | omega | (simp at h <;> omega))
                (try simp only [beq_iff_eq, bne_iff_ne, ne_eq, decide_eq_true_eq, decide_eq_false_iff_not, beq_eq_false_iff_ne, bne_eq_false_iff_eq, Bool.not_eq_true', Bool.not_eq_false', Bool.not_eq_eq_eq_not, Bool.not_true, Bool.not_false, gt_iff_lt, ge_iff_le, Int.not_lt, Int.not_le] at h8)
                refine wl_yes rfl rfl ?_
                refine wl_val (r_move rfl) (by decide) ?_
                refine wl_yes rfl rfl ?_
                refine wl_val (r_move rfl) (by decide) ?_
                refine wl_yes rfl rfl ?_
                refine wl_eff (e_call (r_call rfl Try.func13 rfl rfl) (equal_ret _ _ _ _ _ H10.row_rd H10.rot.row_rd)) (by decide) ?_
                rintro _ w11 ⟨rfl, hD⟩
                have HE := H10.drewn hD
                refine wl_val (r_pick_t rfl rfl) (by decide) ?_
                refine wl_split rfl (by decide) (fun h9 => ?_) (fun h => by exfalso; (try simp only [beq_iff_eq, bne_iff_ne, ne_eq, decide_eq_true_eq, decide_eq_false_iff_not, beq_eq_false_iff_ne, bne_eq_false_iff_eq, Bool.not_eq_true', Bool.not_eq_false', Bool.not_eq_eq_eq_not, Bool.not_true, Bool.not_false, gt_iff_lt, ge_iff_le, Int.not_lt, Int.not_le] at h); simp at h)
                (try simp only [beq_iff_eq, bne_iff_ne, ne_eq, decide_eq_true_eq, decide_eq_false_iff_not, beq_eq_false_iff_ne, bne_eq_false_iff_eq, Bool.not_eq_true', Bool.not_eq_false', Bool.not_eq_eq_eq_not, Bool.not_true, Bool.not_false, gt_iff_lt, ge_iff_le, Int.not_lt, Int.not_le] at h9)
                refine wl_yes rfl rfl ?_
                refine wl_val (r_move rfl) (by decide) ?_
                refine wl_yes rfl rfl ?_
                refine wl_eff (e_call (r_call rfl Try.func14 rfl rfl) (ring_len_ret HE.swap)) (by decide) ?_
                rintro _ _ ⟨rfl, rfl⟩
                refine wl_yes rfl rfl ?_
                refine wl_val (r_known_t (r_eql rfl rfl) (by first | (rw [decide_eq_true_eq]; omega) | (rw [decide_eq_false_iff_not]; omega) | (rw [beq_iff_eq]; omega) | (rw [beq_eq_false_iff_ne]; omega) | (rw [bne_iff_ne]; omega) | (rw [bne_eq_false_iff_eq]; omega) | (simp; done) | (simp; omega))) (by decide) ?_
                refine wl_val (r_pick_t rfl rfl) (by decide) ?_
                refine wl_val (r_assign rfl) (by decide) ?_
                refine wl_nil ?_
                refine wq_seq ?_
                refine wc_ret ?_
                refine wq_end1 (.inl rfl) Try.results3 rfl ?_
                exact ⟨rfl, HE.base⟩
  · skip
    refine ret_enter Try.func3 rfl Try.ntmps3 (Nat.le_of_ble_eq_true rfl) ?_
    dsimp only [slots0, Nat.reduceAdd]
    refine wc_seq ?_
    refine wc_region ?_
    refine wl_val (r_assign rfl) (by decide) ?_
    refine wl_nil ?_
    refine wq_seq ?_
    refine wc_seq ?_
    refine wc_region ?_
    refine wl_eff (e_call (r_call rfl Try.func9 rfl rfl) (ring_new_ret H)) (by decide) ?_
    rintro _ w1 ⟨p, rfl, H1⟩
    refine wl_val (r_assign rfl) (by decide) ?_
    refine wl_nil ?_
    refine wq_seq ?_
    refine wc_seq ?_
    refine wc_seq ?_
    refine wc_region ?_
    refine wl_val (r_move rfl) (by decide) ?_
    refine wl_val (r_ptr_nil Try.underlying24 rfl rfl) (by decide) ?_
    refine wl_split rfl (by decide) (fun h => by exfalso; (try simp only [beq_iff_eq, bne_iff_ne, ne_eq, decide_eq_true_eq, decide_eq_false_iff_not, beq_eq_false_iff_ne, bne_eq_false_iff_eq, Bool.not_eq_true', Bool.not_eq_false', Bool.not_eq_eq_eq_not, Bool.not_true, Bool.not_false, gt_iff_lt, ge_iff_le, Int.not_lt, Int.not_le] at h); simp at h) (fun h1 => ?_)
    (try simp only [beq_iff_eq, bne_iff_ne, ne_eq, decide_eq_true_eq, decide_eq_false_iff_not, beq_eq_false_iff_ne, bne_eq_false_iff_eq, Bool.not_eq_true', Bool.not_eq_false', Bool.not_eq_eq_eq_not, Bool.not_true, Bool.not_false, gt_iff_lt, ge_iff_le, Int.not_lt, Int.not_le] at h1)
    refine wl_yes rfl rfl ?_
    refine wl_eff (e_call (r_call rfl Try.func10 rfl rfl) (live_ret H1)) (by decide) ?_
    rintro _ w2 ⟨rfl, H2⟩
    refine wl_yes rfl rfl ?_
    refine wl_val (r_known_f (r_not rfl) (by rfl)) (by decide) ?_
    refine wl_val (r_pick_f rfl rfl) (by decide) ?_
    refine wl_nil ?_
    refine wq_seq ?_
    refine wc_cond_f rfl ?_
    refine wc_skip ?_
    refine wq_seq ?_
    refine wc_seq ?_
    refine wc_region ?_
    refine wl_eff (e_lit_row (vs := []) H2 Try.underlying22 Try.sizeOf21 Try.zeroValue21 rfl rfl rfl (by decide) (by simp)) (by decide) ?_
    rintro _ w3 H3
    refine wl_val (r_move rfl) (by decide) ?_
    refine wl_eff (e_append_ints (l := []) H3 (Holds.rd H3 g1) Try.underlying22 info_i32 rfl rfl (by simp; omega) (by simpa using hb1)) (by decide) ?_
    rintro ua w4 H4
    refine wl_val (r_assign rfl) (by decide) ?_
    refine wl_nil ?_
    refine wq_seq ?_
    refine wc_seq ?_
    refine wc_seq ?_
    refine wc_region ?_
    refine wl_val (r_move rfl) (by decide) ?_
    refine wl_val (r_len Try.underlying22 rfl) (by decide) ?_
    refine wl_val (r_eql rfl rfl) (by decide) ?_
    refine wl_split rfl (by decide) (fun h2 => ?_) (fun h2 => ?_)
    · (try simp only [beq_iff_eq, bne_iff_ne, ne_eq, decide_eq_true_eq, decide_eq_false_iff_not, beq_eq_false_iff_ne, bne_eq_false_iff_eq, Bool.not_eq_true', Bool.not_eq_false', Bool.not_eq_eq_eq_not, Bool.not_true, Bool.not_false, gt_iff_lt, ge_iff_le, Int.not_lt, Int.not_le] at h2)
      try (exfalso; first | contradiction | omega)
      all_goals
        refine wl_no rfl rfl rfl (by decide) ?_
        refine wl_no rfl rfl rfl (by decide) ?_
        refine wl_no rfl rfl rfl (by decide) ?_
        refine wl_val (r_pick_t rfl rfl) (by decide) ?_
        refine wl_val (r_move rfl) (by decide) ?_
        refine wl_no rfl rfl rfl (by decide) ?_
        refine wl_no rfl rfl rfl (by decide) ?_
        refine wl_no rfl rfl rfl (by decide) ?_
        refine wl_no rfl rfl rfl (by decide) ?_
        refine wl_val (r_pick_t rfl rfl) (by decide) ?_
        refine wl_nil ?_
        refine wq_seq ?_
        refine wc_cond_t rfl ?_
        refine wc_seq ?_
        refine wc_region ?_
        refine wl_val (r_move rfl) (by decide) ?_
        refine wl_val (r_len Try.underlying22 rfl) (by decide) ?_
        refine wl_val (r_eql rfl rfl) (by decide) ?_
        refine wl_split rfl (by decide) (fun h3 => ?_) (fun h3 => ?_)
        · (try simp only [beq_iff_eq, bne_iff_ne, ne_eq, decide_eq_true_eq, decide_eq_false_iff_not, beq_eq_false_iff_ne, bne_eq_false_iff_eq, Bool.not_eq_true', Bool.not_eq_false', Bool.not_eq_eq_eq_not, Bool.not_true, Bool.not_false, gt_iff_lt, ge_iff_le, Int.not_lt, Int.not_le] at h3)
          try (exfalso; first | contradiction | omega)
          all_goals
            refine wl_no rfl rfl rfl (by decide) ?_
            refine wl_no rfl rfl rfl (by decide) ?_
            refine wl_no rfl rfl rfl (by decide) ?_
            refine wl_val (r_pick_t rfl rfl) (by decide) ?_
            refine wl_val (r_assign rfl) (by decide) ?_
            refine wl_nil ?_
            refine wq_seq ?_
            refine wc_ret ?_
            refine wq_then_ret ?_
            refine wq_end1 (.inl rfl) Try.results3 rfl ?_
            exact ⟨by simp; try omega, H4.base⟩
        · (try simp only [beq_iff_eq, bne_iff_ne, ne_eq, decide_eq_true_eq, decide_eq_false_iff_not, beq_eq_false_iff_ne, bne_eq_false_iff_eq, Bool.not_eq_true', Bool.not_eq_false', Bool.not_eq_eq_eq_not, Bool.not_true, Bool.not_false, gt_iff_lt, ge_iff_le, Int.not_lt, Int.not_le] at h3)
          try (exfalso; first | contradiction | omega)
          all_goals
            refine wl_yes rfl rfl ?_
            refine wl_val (r_move rfl) (by decide) ?_
            refine wl_yes rfl rfl ?_
            refine wl_val (r_len Try.underlying22 rfl) (by decide) ?_
            refine wl_yes rfl rfl ?_
            refine wl_val (r_gtr rfl rfl) (by decide) ?_
            refine wl_val (r_pick_f rfl rfl) (by decide) ?_
            refine wl_val (r_assign rfl) (by decide) ?_
            refine wl_nil ?_
            refine wq_seq ?_
            refine wc_ret ?_
            refine wq_then_ret ?_
            refine wq_end1 (.inl rfl) Try.results3 rfl ?_
            exact ⟨by simp; try omega, H4.base⟩
    · (try simp only [beq_iff_eq, bne_iff_ne, ne_eq, decide_eq_true_eq, decide_eq_false_iff_not, beq_eq_false_iff_ne, bne_eq_false_iff_eq, Bool.not_eq_true', Bool.not_eq_false', Bool.not_eq_eq_eq_not, Bool.not_true, Bool.not_false, gt_iff_lt, ge_iff_le, Int.not_lt, Int.not_le] at h2)
      try (exfalso; first | contradiction | omega)
      all_goals
        refine wl_yes rfl rfl ?_
        refine wl_val (r_move rfl) (by decide) ?_
        refine wl_yes rfl rfl ?_
        refine wl_val (r_len Try.underlying22 rfl) (by decide) ?_
        refine wl_yes rfl rfl ?_
        refine wl_val (r_gtr rfl rfl) (by decide) ?_
        refine wl_val (r_pick_f rfl rfl) (by decide) ?_
        refine wl_split rfl (by decide) (fun h4 => ?_) (fun h4 => ?_)
        · (try simp only [beq_iff_eq, bne_iff_ne, ne_eq, decide_eq_true_eq, decide_eq_false_iff_not, beq_eq_false_iff_ne, bne_eq_false_iff_eq, Bool.not_eq_true', Bool.not_eq_false', Bool.not_eq_eq_eq_not, Bool.not_true, Bool.not_false, gt_iff_lt, ge_iff_le, Int.not_lt, Int.not_le] at h4)
          try (exfalso; first | contradiction | omega)
          all_goals
            refine wl_no rfl rfl rfl (by decide) ?_
            refine wl_no rfl rfl rfl (by decide) ?_
            refine wl_no rfl rfl rfl (by decide) ?_
            refine wl_no rfl rfl rfl (by decide) ?_
            refine wl_val (r_pick_t rfl rfl) (by decide) ?_
            refine wl_nil ?_
            refine wq_seq ?_
            refine wc_cond_t rfl ?_
            refine wc_seq ?_
            refine wc_region ?_
            refine wl_val (r_move rfl) (by decide) ?_
            refine wl_val (r_len Try.underlying22 rfl) (by decide) ?_
            refine wl_val (r_eql rfl rfl) (by decide) ?_
            refine wl_split rfl (by decide) (fun h5 => ?_) (fun h5 => ?_)
            · (try simp only [beq_iff_eq, bne_iff_ne, ne_eq, decide_eq_true_eq, decide_eq_false_iff_not, beq_eq_false_iff_ne, bne_eq_false_iff_eq, Bool.not_eq_true', Bool.not_eq_false', Bool.not_eq_eq_eq_not, Bool.not_true, Bool.not_false, gt_iff_lt, ge_iff_le, Int.not_lt, Int.not_le] at h5)
              try (exfalso; first | contradiction | omega)
              all_goals
                refine wl_no rfl rfl rfl (by decide) ?_
                refine wl_no rfl rfl rfl (by decide) ?_
                refine wl_no rfl rfl rfl (by decide) ?_
                refine wl_val (r_pick_t rfl rfl) (by decide) ?_
                refine wl_val (r_assign rfl) (by decide) ?_
                refine wl_nil ?_
                refine wq_seq ?_
                refine wc_ret ?_
                refine wq_then_ret ?_
                refine wq_end1 (.inl rfl) Try.results3 rfl ?_
                exact ⟨by simp; try omega, H4.base⟩
            · (try simp only [beq_iff_eq, bne_iff_ne, ne_eq, decide_eq_true_eq, decide_eq_false_iff_not, beq_eq_false_iff_ne, bne_eq_false_iff_eq, Bool.not_eq_true', Bool.not_eq_false', Bool.not_eq_eq_eq_not, Bool.not_true, Bool.not_false, gt_iff_lt, ge_iff_le, Int.not_lt, Int.not_le] at h5)
              try (exfalso; first | contradiction | omega)
              all_goals
                refine wl_yes rfl rfl ?_
                refine wl_val (r_move rfl) (by decide) ?_
                refine wl_yes rfl rfl ?_
                refine wl_val (r_len Try.underlying22 rfl) (by decide) ?_
                refine wl_yes rfl rfl ?_
                refine wl_val (r_gtr rfl rfl) (by decide) ?_
                refine wl_val (r_pick_f rfl rfl) (by decide) ?_
                refine wl_val (r_assign rfl) (by decide) ?_
                refine wl_nil ?_
                refine wq_seq ?_
                refine wc_ret ?_
                refine wq_then_ret ?_
                refine wq_end1 (.inl rfl) Try.results3 rfl ?_
                exact ⟨by simp; try omega, H4.base⟩
        · (try simp only [beq_iff_eq, bne_iff_ne, ne_eq, decide_eq_true_eq, decide_eq_false_iff_not, beq_eq_false_iff_ne, bne_eq_false_iff_eq, Bool.not_eq_true', Bool.not_eq_false', Bool.not_eq_eq_eq_not, Bool.not_true, Bool.not_false, gt_iff_lt, ge_iff_le, Int.not_lt, Int.not_le] at h4)
          try (exfalso; first | contradiction | omega)
          all_goals
            refine wl_yes rfl rfl ?_
            refine wl_val (r_move rfl) (by decide) ?_
            refine wl_yes rfl rfl ?_
            refine wl_val (r_move rfl) (by decide) ?_
            refine wl_yes rfl rfl ?_
            refine wl_eff (e_call (r_call rfl Try.func11 rfl rfl) (ring_kill_ret H4.swap (FRdI.of_start g1 _))) (by decide) ?_
            rintro _ w5 ⟨hv, H5⟩
            rw [killM_first (by omega) (by omega)] at hv H5
            dsimp only at hv H5
            subst hv
            have HK : Holds w w5 (RingRep p [l1] 0 • RowI 21 .i32 ua l1 • emp) := H5
            have hl1 : l1.length ≤ 1024 := by omega
            have hl0 : 0 < l1.length := by omega
            refine wl_yes rfl rfl ?_
            refine wl_val (r_known_f (r_neq rfl rfl) (by first | (rw [decide_eq_true_eq]; omega) | (rw [decide_eq_false_iff_not]; omega) | (rw [beq_iff_eq]; omega) | (rw [beq_eq_false_iff_ne]; omega) | (rw [bne_iff_ne]; omega) | (rw [bne_eq_false_iff_eq]; omega) | (simp; done) | (simp; omega))) (by decide) ?_
            refine wl_val (r_pick_f rfl rfl) (by decide) ?_
            refine wl_nil ?_
            refine wq_seq ?_
            refine wc_cond_f rfl ?_
            refine wc_skip ?_
            refine wq_seq ?_
            refine wc_seq ?_
            refine wc_seq ?_
            refine wc_region ?_
            refine wl_val (r_move rfl) (by decide) ?_
            refine wl_val (r_len Try.underlying23 rfl) (by decide) ?_
            refine wl_val (r_move rfl) (by decide) ?_
            refine wl_nil ?_
            refine wq_seq ?_
            refine wc_block ?_
            refine wc_loop [(2, _), (7, _), (46, _), (47, _)] (fun (⟨k, all, u⟩ : Nat × List Int × Value) => [(8, u), (48, .int .i64 (k : Int))]) (fun (⟨k, all, u⟩ : Nat × List Int × Value) W => k ≤ ls.length ∧ all.length ≤ 1024 ∧ Holds w W (RingRep p [all] 0 • RowI 21 .i32 u all • emp)) (fun (⟨k, all, u⟩ : Nat × List Int × Value) => ls.length - k) ((0, l1, ua)) (Sub.cons rfl (Sub.cons rfl (Sub.cons rfl (Sub.cons rfl (Sub.nil _))))) (Sub.cons rfl (Sub.cons rfl (Sub.nil _))) ⟨by omega, hl1, HK⟩ ?_
            rintro ⟨k, all, u⟩ w6 ⟨hk, hal, HL⟩
            dsimp only [List.cons_append, List.nil_append]
            refine wc_seq ?_
            refine wc_region ?_
            refine wl_val (r_lss rfl rfl) (by decide) ?_
            refine wl_nil ?_
            refine wq_seq ?_
            refine wc_seq ?_
            refine wc_cond rfl (fun h6 => ?_) (fun h6 => ?_)
            · (try simp only [beq_iff_eq, bne_iff_ne, ne_eq, decide_eq_true_eq, decide_eq_false_iff_not, beq_eq_false_iff_ne, bne_eq_false_iff_eq, Bool.not_eq_true', Bool.not_eq_false', Bool.not_eq_eq_eq_not, Bool.not_true, Bool.not_false, gt_iff_lt, ge_iff_le, Int.not_lt, Int.not_le] at h6)
              try (exfalso; first | contradiction | omega)
              all_goals
                
                refine wc_skip ?_
                refine wq_seq ?_
                refine wc_seq ?_
                refine wc_block ?_
                refine wc_seq ?_
                have hk1 : k < ls.length := by omega
                obtain ⟨b, o, rfl, hc⟩ := (FRd.of_start g2 _).cell HL (j := k) (by omega)
                obtain ⟨ak, ck, ek, _, _, _⟩ := (g3 k hk1).open
                have h3k := g3 k hk1
                have h4k := g4 k hk1
                rw [ek] at hc h3k
                obtain ⟨au, cu, hu, _, _, _⟩ := (RdI.open (HL.right.row_rd))
                subst hu
                refine wc_region ?_
                refine wl_val (r_index Try.underlying23 Try.sizeOf22 rfl rfl (by omega)) (by decide) ?_
                refine wl_val (r_load (plain_of Try.underlying22 rfl) rfl (by rw [show ((k : Int).toNat * 1) = k from by omega]; exact hc)) (by decide) ?_
                refine wl_val (r_assign rfl) (by decide) ?_
                refine wl_nil ?_
                refine wq_seq ?_
                refine wc_seq ?_
                refine wc_region ?_
                refine wl_val (r_assign rfl) (by decide) ?_
                refine wl_nil ?_
                refine wq_seq ?_
                refine wc_seq ?_
                refine wc_seq ?_
                refine wc_region ?_
                refine wl_val (r_move rfl) (by decide) ?_
                refine wl_nil ?_
                refine wq_seq ?_
                refine wc_cond_t rfl ?_
                refine wc_region ?_
                refine wl_val (r_assign rfl) (by decide) ?_
                refine wl_nil ?_
                refine wq_seq ?_
                refine wc_seq ?_
                refine wc_seq ?_
                refine wc_region ?_
                refine wl_val (r_move rfl) (by decide) ?_
                refine wl_val (r_len Try.underlying22 rfl) (by decide) ?_
                refine wl_val (r_move rfl) (by decide) ?_
                refine wl_val (r_len Try.underlying22 rfl) (by decide) ?_
                refine wl_val (r_add rfl rfl (by omega)) (by decide) ?_
                refine wl_val (r_gtr rfl rfl) (by decide) ?_
                refine wl_nil ?_
                refine wq_seq ?_
                refine wc_cond rfl (fun h7 => ?_) (fun h7 => ?_)
                · (try simp only [beq_iff_eq, bne_iff_ne, ne_eq, decide_eq_true_eq, decide_eq_false_iff_not, beq_eq_false_iff_ne, bne_eq_false_iff_eq, Bool.not_eq_true', Bool.not_eq_false', Bool.not_eq_eq_eq_not, Bool.not_true, Bool.not_false, gt_iff_lt, ge_iff_le, Int.not_lt, Int.not_le] at h7)
                  try (exfalso; first | contradiction | omega)
                  all_goals
                    
                    refine wc_seq ?_
                    refine wc_seq ?_
                    refine wc_region ?_
                    refine wl_val (r_move rfl) (by decide) ?_
                    refine wl_val (r_move rfl) (by decide) ?_
                    refine wl_val (r_move rfl) (by decide) ?_
                    refine wl_eff (e_call (r_call rfl Try.func11 rfl rfl) (ring_kill_ret HL (FRdI.of_start h3k _))) (by decide) ?_
                    rintro _ w7 ⟨hv, H7⟩
                    rw [killM_over (by decide) (by omega)] at hv H7
                    dsimp only at hv H7
                    subst hv
                    obtain ⟨all2, hall2⟩ : ∃ x, x = all := ⟨_, rfl⟩
                    obtain ⟨u2, hu2⟩ : ∃ x, x = Value.slice au all.length cu := ⟨_, rfl⟩
                    have HN : Holds w w7 (RingRep p [all2] 0 • RowI 21 .i32 u2 all2 • emp) := by rw [hall2, hu2]; exact H7
                    have hal2 : all2.length ≤ 1024 := by rw [hall2]; exact hal
                    refine wl_val (r_known_f (r_neq rfl rfl) (by first | (rw [decide_eq_true_eq]; omega) | (rw [decide_eq_false_iff_not]; omega) | (rw [beq_iff_eq]; omega) | (rw [beq_eq_false_iff_ne]; omega) | (rw [bne_iff_ne]; omega) | (rw [bne_eq_false_iff_eq]; omega) | (simp; done) | (simp; omega))) (by decide) ?_
                    refine wl_nil ?_
                    refine wq_seq ?_
                    refine wc_cond_f rfl ?_
                    refine wc_skip ?_
                    refine wq_seq ?_
                    refine wc_exit ?_
                    refine wq_then_exit ?_
                    refine wq_block_hit ?_
                    refine wq_seq ?_
                    refine wc_region ?_
                    refine wl_val (r_add rfl rfl (by omega)) (by decide) ?_
                    refine wl_val (r_move rfl) (by decide) ?_
                    refine wl_nil ?_
                    refine wq_round ((k + 1, all2, u2)) ?_ ?_ ?_ ?_
                    · exact (Sub.cons' rfl (by first | rfl | exact hu2.symm) (Sub.cons rfl (Sub.nil _)))
                    · exact (Sub.cons rfl (Sub.cons rfl (Sub.cons rfl (Sub.cons rfl (Sub.nil _)))))
                    · exact ⟨by omega, hal2, HN⟩
                    · (try dsimp only); omega
                · (try simp only [beq_iff_eq, bne_iff_ne, ne_eq, decide_eq_true_eq, decide_eq_false_iff_not, beq_eq_false_iff_ne, bne_eq_false_iff_eq, Bool.not_eq_true', Bool.not_eq_false', Bool.not_eq_eq_eq_not, Bool.not_true, Bool.not_false, gt_iff_lt, ge_iff_le, Int.not_lt, Int.not_le] at h7)
                  try (exfalso; first | contradiction | omega)
                  all_goals
                    
                    refine wc_skip ?_
                    refine wq_seq ?_
                    refine wc_seq ?_
                    refine wc_seq ?_
                    refine wc_region ?_
                    refine wl_val (r_move rfl) (by decide) ?_
                    refine wl_val (r_move rfl) (by decide) ?_
                    refine wl_val (r_move rfl) (by decide) ?_
                    refine wl_eff (e_call (r_call rfl Try.func11 rfl rfl) (ring_kill_ret HL (FRdI.of_start h3k _))) (by decide) ?_
                    rintro _ w8 ⟨hv, H8⟩
                    rw [killM_on (by decide) (by omega)] at hv H8
                    simp only [if_true, show ¬ (2 : Int) = 1 by decide, if_false] at hv H8
                    subst hv
                    refine wl_val (r_known_f (r_neq rfl rfl) (by first | (rw [decide_eq_true_eq]; omega) | (rw [decide_eq_false_iff_not]; omega) | (rw [beq_iff_eq]; omega) | (rw [beq_eq_false_iff_ne]; omega) | (rw [bne_iff_ne]; omega) | (rw [bne_eq_false_iff_eq]; omega) | (simp; done) | (simp; omega))) (by decide) ?_
                    refine wl_nil ?_
                    refine wq_seq ?_
                    refine wc_cond_f rfl ?_
                    refine wc_skip ?_
                    refine wq_seq ?_
                    refine wc_seq ?_
                    refine wc_region ?_
                    refine wl_val (r_move rfl) (by decide) ?_
                    refine wl_nil ?_
                    refine wq_seq ?_
                    refine wc_cond_t rfl ?_
                    refine wc_region ?_
                    refine wl_eff (e_lit_row (vs := []) H8 Try.underlying22 Try.sizeOf21 Try.zeroValue21 rfl rfl rfl (by decide) (by simp)) (by decide) ?_
                    rintro _ w9 H9
                    refine wl_val (r_move rfl) (by decide) ?_
                    refine wl_eff (e_append_ints (l := []) H9 (Holds.rd H9 h3k) Try.underlying22 info_i32 rfl rfl (by simp only [List.length_nil]; omega) (by simp only [List.length_nil]; omega)) (by decide) ?_
                    rintro ub w10 H10
                    refine wl_val (r_move rfl) (by decide) ?_
                    refine wl_eff (e_append_ints H10 H10.rot.row_rd Try.underlying22 info_i32 rfl rfl (by simp only [List.nil_append]; omega) (by simp only [List.nil_append]; omega)) (by decide) ?_
                    rintro u2 w11 H11
                    have hal2 : (ls.getD k [] ++ all).length ≤ 1024 := by rw [List.length_append]; omega
                    obtain ⟨all2, hall2⟩ : ∃ x, x = ls.getD k [] ++ all := ⟨_, rfl⟩
                    have HN : Holds w w11 (RingRep p [all2] 0 • RowI 21 .i32 u2 all2 • emp) := by rw [hall2]; exact H11.swap.rot.right
                    rw [← hall2] at hal2
                    refine wl_val (r_assign rfl) (by decide) ?_
                    refine wl_nil ?_
                    refine wq_block_normal ?_
                    refine wq_seq ?_
                    refine wc_region ?_
                    refine wl_val (r_add rfl rfl (by omega)) (by decide) ?_
                    refine wl_val (r_move rfl) (by decide) ?_
                    refine wl_nil ?_
                    refine wq_round ((k + 1, all2, u2)) ?_ ?_ ?_ ?_
                    · exact (Sub.cons' rfl (by first | rfl | exact hu2.symm) (Sub.cons rfl (Sub.nil _)))
                    · exact (Sub.cons rfl (Sub.cons rfl (Sub.cons rfl (Sub.cons rfl (Sub.nil _)))))
                    · exact ⟨by omega, hal2, HN⟩
                    · (try dsimp only); omega
            · (try simp only [beq_iff_eq, bne_iff_ne, ne_eq, decide_eq_true_eq, decide_eq_false_iff_not, beq_eq_false_iff_ne, bne_eq_false_iff_eq, Bool.not_eq_true', Bool.not_eq_false', Bool.not_eq_eq_eq_not, Bool.not_true, Bool.not_false, gt_iff_lt, ge_iff_le, Int.not_lt, Int.not_le] at h6)
              try (exfalso; first | contradiction | omega)
              all_goals
                
                refine wc_exit ?_
                refine wq_then_exit ?_
                refine wq_then_exit ?_
                refine wq_block_hit ?_
                refine wq_seq ?_
                refine wc_seq ?_
                refine wc_region ?_
                refine wl_val (r_move rfl) (by decide) ?_
                refine wl_eff (e_call (r_call rfl Try.func12 rfl rfl) (ring_yank_ret HL (by simp))) (by decide) ?_
                rintro _ w12 ⟨y, rfl, H12⟩
                refine wl_val (r_move rfl) (by decide) ?_
                refine wl_val (r_extract rfl rfl) (by decide) ?_
                refine wl_val (r_extract rfl rfl) (by decide) ?_
                refine wl_val (r_assign rfl) (by decide) ?_
                refine wl_val (r_assign rfl) (by decide) ?_
                refine wl_nil ?_
                refine wq_seq ?_
                refine wc_seq ?_
                refine wc_region ?_
                refine wl_val (r_move rfl) (by decide) ?_
                refine wl_val (r_eql rfl rfl) (by decide) ?_
                refine wl_split rfl (by decide) (fun h8 => ?_) (fun h => by exfalso; (try simp only [beq_iff_eq, bne_iff_ne, ne_eq, decide_eq_true_eq, decide_eq_false_iff_not, beq_eq_false_iff_ne, bne_eq_false_iff_eq, Bool.not_eq_true', Bool.not_eq_false', Bool.not_eq_eq_eq_not, Bool.not_true, Bool.not_false, gt_iff_lt, ge_iff_le, Int.not_lt, Int.not_le] at h); first | contradiction | omega | (simp at h <;> omega))
                (try simp only [beq_iff_eq, bne_iff_ne, ne_eq, decide_eq_true_eq, decide_eq_false_iff_not, beq_eq_false_iff_ne, bne_eq_false_iff_eq, Bool.not_eq_true', Bool.not_eq_false', Bool.not_eq_eq_eq_not, Bool.not_true, Bool.not_false, gt_iff_lt, ge_iff_le, Int.not_lt, Int.not_le] at h8)
                refine wl_yes rfl rfl ?_
                refine wl_val (r_move rfl) (by decide) ?_
                refine wl_yes rfl rfl ?_
                refine wl_val (r_move rfl) (by decide) ?_
                refine wl_yes rfl rfl ?_
                refine wl_eff (e_call (r_call rfl Try.func13 rfl rfl) (equal_ret _ _ _ _ _ H12.row_rd H12.rot.row_rd)) (by decide) ?_
                rintro _ w13 ⟨rfl, hD⟩
                have HE := H12.drewn hD
                refine wl_val (r_pick_t rfl rfl) (by decide) ?_
                refine wl_split rfl (by decide) (fun h9 => ?_) (fun h => by exfalso; (try simp only [beq_iff_eq, bne_iff_ne, ne_eq, decide_eq_true_eq, decide_eq_false_iff_not, beq_eq_false_iff_ne, bne_eq_false_iff_eq, Bool.not_eq_true', Bool.not_eq_false', Bool.not_eq_eq_eq_not, Bool.not_true, Bool.not_false, gt_iff_lt, ge_iff_le, Int.not_lt, Int.not_le] at h); simp at h)
                (try simp only [beq_iff_eq, bne_iff_ne, ne_eq, decide_eq_true_eq, decide_eq_false_iff_not, beq_eq_false_iff_ne, bne_eq_false_iff_eq, Bool.not_eq_true', Bool.not_eq_false', Bool.not_eq_eq_eq_not, Bool.not_true, Bool.not_false, gt_iff_lt, ge_iff_le, Int.not_lt, Int.not_le] at h9)
                refine wl_yes rfl rfl ?_
                refine wl_val (r_move rfl) (by decide) ?_
                refine wl_yes rfl rfl ?_
                refine wl_eff (e_call (r_call rfl Try.func14 rfl rfl) (ring_len_ret HE.swap)) (by decide) ?_
                rintro _ _ ⟨rfl, rfl⟩
                refine wl_yes rfl rfl ?_
                refine wl_val (r_known_t (r_eql rfl rfl) (by first | (rw [decide_eq_true_eq]; omega) | (rw [decide_eq_false_iff_not]; omega) | (rw [beq_iff_eq]; omega) | (rw [beq_eq_false_iff_ne]; omega) | (rw [bne_iff_ne]; omega) | (rw [bne_eq_false_iff_eq]; omega) | (simp; done) | (simp; omega))) (by decide) ?_
                refine wl_val (r_pick_t rfl rfl) (by decide) ?_
                refine wl_val (r_assign rfl) (by decide) ?_
                refine wl_nil ?_
                refine wq_seq ?_
                refine wc_ret ?_
                refine wq_end1 (.inl rfl) Try.results3 rfl ?_
                exact ⟨rfl, HE.base⟩
end Go.Proofs.Ytkjkfbkapingbaa
