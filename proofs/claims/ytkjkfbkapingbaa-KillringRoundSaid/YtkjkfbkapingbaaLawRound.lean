/- KillringRound, walked. -/
import Derived.Test.YtkjkfbkapingbaaFrom
set_option linter.unusedSimpArgs false
set_option linter.unusedVariables false
namespace Go.Proofs.Ytkjkfbkapingbaa
open Go.RowKit
theorem rot_on {n k : Nat} (hk : k < n) : rotM n (k % n) 1 = (k + 1) % n := by
  unfold rotM
  rw [Nat.mod_eq_of_lt hk, show ((k : Int) + 1) = ((k + 1 : Nat) : Int) from by omega, ← Int.natCast_emod, Int.toNat_natCast]
theorem rot_back {n k : Nat} (hk : k < n) : rotM n ((n - k) % n) (-1) = n - 1 - k := by
  unfold rotM
  by_cases h : k = 0
  · subst h
    simp only [Nat.sub_zero, Nat.mod_self]
    rw [show (((0 : Nat) : Int) + -1) = ((n : Int) - 1) - n * 1 from by omega, Int.sub_mul_emod_self_left, Int.emod_eq_of_lt (by omega) (by omega)]
    omega
  · rw [Nat.mod_eq_of_lt (by omega), Int.emod_eq_of_lt (by omega) (by omega)]
    omega

theorem killring_round_on {w : World} {v : Value} {vs : List Value} {ls : List (List Int)} (g2 : Rd w 1 v ls.length vs) (g3 : ∀ k, k < ls.length → RdI w .i32 (vs.getD k undef) (ls.getD k [])) (hg : ls.length ≤ 60 ∧ ∀ k, k < ls.length → (ls.getD k []).length ≤ 1024) :
    Ret Try.prog 6 #[v, .bool false] w fun v w' => v = .bool true ∧ Below w.heap.size w w' := by
  have H := Holds.start w
  obtain ⟨a1, c1, hv1⟩ := g2.slice_form
  subst hv1
  refine ret_enter Try.func6 rfl Try.ntmps6 (Nat.le_of_ble_eq_true rfl) ?_
  dsimp only [slots0, Nat.reduceAdd]
  refine wc_seq ?_
  refine wc_region ?_
  refine wl_val (r_assign rfl) (by decide) ?_
  refine wl_nil ?_
  refine wq_seq ?_
  refine wc_seq ?_
  refine wc_region ?_
  refine wl_val (r_move rfl) (by decide) ?_
  refine wl_eff (e_call (r_call rfl Try.func22 rfl rfl) (ring_from_good H (FRd.of_start g2 _) (fun k hk => FRdI.of_start (g3 k hk) _) hg.1 hg.2)) (by decide) ?_
  rintro _ w1 ⟨p, rfl, H1⟩
  refine wl_val (r_move rfl) (by decide) ?_
  refine wl_val (r_extract rfl rfl) (by decide) ?_
  refine wl_val (r_extract rfl rfl) (by decide) ?_
  refine wl_val (r_assign rfl) (by decide) ?_
  refine wl_val (r_assign rfl) (by decide) ?_
  refine wl_nil ?_
  refine wq_seq ?_
  refine wc_seq ?_
  refine wc_seq ?_
  refine wc_region ?_
  refine wl_val (r_move rfl) (by decide) ?_
  refine wl_val (r_neq rfl rfl) (by decide) ?_
  refine wl_split rfl (by decide) (fun h => by exfalso; (try simp only [beq_iff_eq, bne_iff_ne, ne_eq, decide_eq_true_eq, decide_eq_false_iff_not, beq_eq_false_iff_ne, bne_eq_false_iff_eq, Bool.not_eq_true', Bool.not_eq_false', Bool.not_eq_eq_eq_not, Bool.not_true, Bool.not_false, gt_iff_lt, ge_iff_le, Int.not_lt, Int.not_le] at h); first | contradiction | omega | (simp at h <;> omega)) (fun h1 => ?_)
  (try simp only [beq_iff_eq, bne_iff_ne, ne_eq, decide_eq_true_eq, decide_eq_false_iff_not, beq_eq_false_iff_ne, bne_eq_false_iff_eq, Bool.not_eq_true', Bool.not_eq_false', Bool.not_eq_eq_eq_not, Bool.not_true, Bool.not_false, gt_iff_lt, ge_iff_le, Int.not_lt, Int.not_le] at h1)
  refine wl_yes rfl rfl ?_
  refine wl_eff (e_call (r_call rfl Try.func10 rfl rfl) (live_ret H1)) (by decide) ?_
  rintro _ w2 ⟨rfl, H2⟩
  refine wl_yes rfl rfl ?_
  refine wl_val (r_not rfl) (by decide) ?_
  refine wl_val (r_pick_f rfl rfl) (by decide) ?_
  refine wl_nil ?_
  refine wq_seq ?_
  refine wc_cond rfl (fun h => by exfalso; (try simp only [beq_iff_eq, bne_iff_ne, ne_eq, decide_eq_true_eq, decide_eq_false_iff_not, beq_eq_false_iff_ne, bne_eq_false_iff_eq, Bool.not_eq_true', Bool.not_eq_false', Bool.not_eq_eq_eq_not, Bool.not_true, Bool.not_false, gt_iff_lt, ge_iff_le, Int.not_lt, Int.not_le] at h); first | contradiction | omega | (simp at h <;> omega)) (fun h2 => ?_)
  (try simp only [beq_iff_eq, bne_iff_ne, ne_eq, decide_eq_true_eq, decide_eq_false_iff_not, beq_eq_false_iff_ne, bne_eq_false_iff_eq, Bool.not_eq_true', Bool.not_eq_false', Bool.not_eq_eq_eq_not, Bool.not_true, Bool.not_false, gt_iff_lt, ge_iff_le, Int.not_lt, Int.not_le] at h2)
  refine wc_skip ?_
  refine wq_seq ?_
  refine wc_seq ?_
  refine wc_seq ?_
  refine wc_region ?_
  refine wl_val (r_move rfl) (by decide) ?_
  refine wl_eff (e_call (r_call rfl Try.func14 rfl rfl) (ring_len_ret H2)) (by decide) ?_
  rintro _ _ ⟨rfl, rfl⟩
  refine wl_val (r_eql rfl rfl) (by decide) ?_
  refine wl_nil ?_
  refine wq_seq ?_
  refine wc_cond rfl (fun h3 => ?_) (fun h3 => ?_)
  · (try simp only [beq_iff_eq, bne_iff_ne, ne_eq, decide_eq_true_eq, decide_eq_false_iff_not, beq_eq_false_iff_ne, bne_eq_false_iff_eq, Bool.not_eq_true', Bool.not_eq_false', Bool.not_eq_eq_eq_not, Bool.not_true, Bool.not_false, gt_iff_lt, ge_iff_le, Int.not_lt, Int.not_le] at h3)
    try (exfalso; first | contradiction | omega)
    all_goals
      
      refine wc_seq ?_
      refine wc_region ?_
      refine wl_val (r_move rfl) (by decide) ?_
      refine wl_eff (e_call (r_call rfl Try.func15 rfl rfl) (ring_rotate_bell (by rw [show ls = [] from List.eq_nil_of_length_eq_zero (by omega)] at H2; exact H2))) (by decide) ?_
      rintro _ w4 ⟨rfl, H4⟩
      refine wl_val (r_move rfl) (by decide) ?_
      refine wl_val (r_extract rfl rfl) (by decide) ?_
      refine wl_val (r_extract rfl rfl) (by decide) ?_
      refine wl_val (r_assign rfl) (by decide) ?_
      refine wl_val (r_assign rfl) (by decide) ?_
      refine wl_nil ?_
      refine wq_seq ?_
      refine wc_seq ?_
      refine wc_region ?_
      refine wl_val (r_move rfl) (by decide) ?_
      refine wl_val (r_eql rfl rfl) (by decide) ?_
      refine wl_val (r_assign rfl) (by decide) ?_
      refine wl_nil ?_
      refine wq_seq ?_
      refine wc_ret ?_
      refine wq_then_ret ?_
      refine wq_end1 (.inl rfl) Try.results6 rfl ?_
      exact ⟨rfl, H4.base⟩
  · (try simp only [beq_iff_eq, bne_iff_ne, ne_eq, decide_eq_true_eq, decide_eq_false_iff_not, beq_eq_false_iff_ne, bne_eq_false_iff_eq, Bool.not_eq_true', Bool.not_eq_false', Bool.not_eq_eq_eq_not, Bool.not_true, Bool.not_false, gt_iff_lt, ge_iff_le, Int.not_lt, Int.not_le] at h3)
    try (exfalso; first | contradiction | omega)
    all_goals
      
      refine wc_skip ?_
      refine wq_seq ?_
      refine wc_seq ?_
      refine wc_region ?_
      refine wl_val (r_assign rfl) (by decide) ?_
      refine wl_nil ?_
      refine wq_seq ?_
      refine wc_seq ?_
      refine wc_seq ?_
      refine wc_region ?_
      refine wl_val (r_move rfl) (by decide) ?_
      refine wl_nil ?_
      refine wq_seq ?_
      refine wc_cond_f rfl ?_
      refine wc_skip ?_
      refine wq_seq ?_
      refine wc_seq ?_
      refine wc_seq ?_
      refine wc_region ?_
      refine wl_val (r_move rfl) (by decide) ?_
      refine wl_val (r_len Try.underlying23 rfl) (by decide) ?_
      refine wl_val (r_move rfl) (by decide) ?_
      refine wl_nil ?_
      refine wq_seq ?_
      refine wc_block ?_
      refine wc_loop [(0, _), (1, _), (5, _), (9, _), (45, _)] (fun (k : Nat) => [(46, .int .i64 (k : Int))]) (fun (k : Nat) W => k ≤ ls.length ∧ Holds w W (RingRep p ls (k % ls.length) • emp)) (fun (k : Nat) => ls.length - k) (0) (Sub.cons rfl (Sub.cons rfl (Sub.cons rfl (Sub.cons rfl (Sub.cons rfl (Sub.nil _)))))) (Sub.cons rfl (Sub.nil _)) ⟨by omega, by simpa using H2⟩ ?_
      rintro k w5 ⟨hk, HL⟩
      dsimp only [List.cons_append, List.nil_append]
      refine wc_seq ?_
      refine wc_region ?_
      refine wl_val (r_lss rfl rfl) (by decide) ?_
      refine wl_nil ?_
      refine wq_seq ?_
      refine wc_seq ?_
      refine wc_cond rfl (fun h4 => ?_) (fun h4 => ?_)
      · (try simp only [beq_iff_eq, bne_iff_ne, ne_eq, decide_eq_true_eq, decide_eq_false_iff_not, beq_eq_false_iff_ne, bne_eq_false_iff_eq, Bool.not_eq_true', Bool.not_eq_false', Bool.not_eq_eq_eq_not, Bool.not_true, Bool.not_false, gt_iff_lt, ge_iff_le, Int.not_lt, Int.not_le] at h4)
        try (exfalso; first | contradiction | omega)
        all_goals
          
          refine wc_skip ?_
          refine wq_seq ?_
          refine wc_seq ?_
          refine wc_block ?_
          refine wc_seq ?_
          have hk1 : k < ls.length := by omega
          have h0 : 0 < ls.length := by omega
          have hmod : (((k : Int) + 1) % (ls.length : Int)) = (((k + 1) % ls.length : Nat) : Int) := by rw [Int.natCast_emod, Int.natCast_add]; rfl
          have hml : (k + 1) % ls.length < ls.length := Nat.mod_lt _ h0
          obtain ⟨b0, o, rfl, hc⟩ := (FRd.of_start g2 _).cell HL (j := (k + 1) % ls.length) (by rw [Nat.mul_one]; exact hml)
          obtain ⟨am, cm, em, _, _, _⟩ := (g3 _ hml).open
          have h3m := g3 _ hml
          rw [em] at hc h3m
          refine wc_region ?_
          refine wl_val (r_move rfl) (by decide) ?_
          refine wl_val (r_assign rfl) (by decide) ?_
          refine wl_nil ?_
          refine wq_seq ?_
          refine wc_seq ?_
          refine wc_region ?_
          refine wl_val (r_move rfl) (by decide) ?_
          refine wl_val (r_move rfl) (by decide) ?_
          refine wl_val (r_add rfl rfl (by omega)) (by decide) ?_
          refine wl_val (r_move rfl) (by decide) ?_
          refine wl_val (r_len Try.underlying23 rfl) (by decide) ?_
          refine wl_val (r_rem rfl rfl (by omega) (by  omega)) (by decide) ?_
          refine wl_val (r_index Try.underlying23 Try.sizeOf22 rfl rfl (by rw [hmod]; omega)) (by decide) ?_
          refine wl_val (r_load (plain_of Try.underlying22 rfl) rfl (by rw [hmod, Int.toNat_natCast, Nat.mul_one]; exact hc)) (by decide) ?_
          refine wl_val (r_assign rfl) (by decide) ?_
          refine wl_nil ?_
          refine wq_seq ?_
          refine wc_seq ?_
          refine wc_seq ?_
          refine wc_region ?_
          refine wl_val (r_move rfl) (by decide) ?_
          refine wl_nil ?_
          refine wq_seq ?_
          refine wc_cond_f rfl ?_
          refine wc_skip ?_
          refine wq_seq ?_
          refine wc_seq ?_
          refine wc_region ?_
          refine wl_val (r_move rfl) (by decide) ?_
          refine wl_val (r_move rfl) (by decide) ?_
          refine wl_eff (e_call (r_call rfl Try.func15 rfl rfl) (ring_rotate_ret HL h0)) (by decide) ?_
          rintro _ w6 ⟨u, rfl, H6⟩
          rw [rot_on hk1] at H6
          refine wl_val (r_move rfl) (by decide) ?_
          refine wl_val (r_extract rfl rfl) (by decide) ?_
          refine wl_val (r_extract rfl rfl) (by decide) ?_
          refine wl_val (r_assign rfl) (by decide) ?_
          refine wl_val (r_assign rfl) (by decide) ?_
          refine wl_nil ?_
          refine wq_seq ?_
          refine wc_seq ?_
          refine wc_region ?_
          refine wl_val (r_move rfl) (by decide) ?_
          refine wl_eff (e_call (r_call rfl Try.func12 rfl rfl) (ring_yank_ret H6.swap h0)) (by decide) ?_
          rintro _ w7 ⟨u2, rfl, H7⟩
          refine wl_val (r_move rfl) (by decide) ?_
          refine wl_val (r_extract rfl rfl) (by decide) ?_
          refine wl_val (r_extract rfl rfl) (by decide) ?_
          refine wl_val (r_assign rfl) (by decide) ?_
          refine wl_val (r_assign rfl) (by decide) ?_
          refine wl_nil ?_
          refine wq_seq ?_
          refine wc_seq ?_
          refine wc_region ?_
          refine wl_val (r_move rfl) (by decide) ?_
          refine wl_val (r_neq rfl rfl) (by decide) ?_
          refine wl_split rfl (by decide) (fun h5 => ?_) (fun h5 => ?_)
          · (try simp only [beq_iff_eq, bne_iff_ne, ne_eq, decide_eq_true_eq, decide_eq_false_iff_not, beq_eq_false_iff_ne, bne_eq_false_iff_eq, Bool.not_eq_true', Bool.not_eq_false', Bool.not_eq_eq_eq_not, Bool.not_true, Bool.not_false, gt_iff_lt, ge_iff_le, Int.not_lt, Int.not_le] at h5)
            try (exfalso; first | contradiction | omega)
            all_goals
              refine wl_no rfl rfl rfl (by decide) ?_
              refine wl_no rfl rfl rfl (by decide) ?_
              refine wl_val (r_pick_t rfl rfl) (by decide) ?_
              refine wl_val (r_move rfl) (by decide) ?_
              refine wl_no rfl rfl rfl (by decide) ?_
              refine wl_no rfl rfl rfl (by decide) ?_
              refine wl_no rfl rfl rfl (by decide) ?_
              refine wl_no rfl rfl rfl (by decide) ?_
              refine wl_val (r_pick_t rfl rfl) (by decide) ?_
              refine wl_val (r_known_f (r_move rfl) (by simp)) (by decide) ?_
              refine wl_yes rfl rfl ?_
              refine wl_val (r_move rfl) (by decide) ?_
              refine wl_yes rfl rfl ?_
              refine wl_val (r_move rfl) (by decide) ?_
              refine wl_yes rfl rfl ?_
              refine wl_eff (e_call (r_call rfl Try.func13 rfl rfl) (equal_ret _ _ _ _ _ H7.row_rd (Holds.rd H7 h3m))) (by decide) ?_
              rintro _ w8 ⟨rfl, hD2⟩
              have HE2 := H7.drewn hD2
              have HN : Holds w w8 (RingRep p ls ((k + 1) % ls.length) • emp) := by have q := HE2.right.swap.right; exact q
              refine wl_yes rfl rfl ?_
              refine wl_val (r_not rfl) (by decide) ?_
              refine wl_val (r_pick_f rfl rfl) (by decide) ?_
              refine wl_nil ?_
              refine wq_seq ?_
              refine wc_cond rfl (fun h => by exfalso; (try simp only [beq_iff_eq, bne_iff_ne, ne_eq, decide_eq_true_eq, decide_eq_false_iff_not, beq_eq_false_iff_ne, bne_eq_false_iff_eq, Bool.not_eq_true', Bool.not_eq_false', Bool.not_eq_eq_eq_not, Bool.not_true, Bool.not_false, gt_iff_lt, ge_iff_le, Int.not_lt, Int.not_le] at h); simp at h) (fun h6 => ?_)
              (try simp only [beq_iff_eq, bne_iff_ne, ne_eq, decide_eq_true_eq, decide_eq_false_iff_not, beq_eq_false_iff_ne, bne_eq_false_iff_eq, Bool.not_eq_true', Bool.not_eq_false', Bool.not_eq_eq_eq_not, Bool.not_true, Bool.not_false, gt_iff_lt, ge_iff_le, Int.not_lt, Int.not_le] at h6)
              refine wc_skip ?_
              refine wq_block_normal ?_
              refine wq_seq ?_
              refine wc_region ?_
              refine wl_val (r_add rfl rfl (by omega)) (by decide) ?_
              refine wl_val (r_move rfl) (by decide) ?_
              refine wl_nil ?_
              refine wq_round (k + 1) ?_ ?_ ?_ ?_
              · exact (Sub.cons rfl (Sub.nil _))
              · exact (Sub.cons rfl (Sub.cons rfl (Sub.cons rfl (Sub.cons rfl (Sub.cons rfl (Sub.nil _))))))
              · exact ⟨by omega, HN⟩
              · (try dsimp only); omega
          · (try simp only [beq_iff_eq, bne_iff_ne, ne_eq, decide_eq_true_eq, decide_eq_false_iff_not, beq_eq_false_iff_ne, bne_eq_false_iff_eq, Bool.not_eq_true', Bool.not_eq_false', Bool.not_eq_eq_eq_not, Bool.not_true, Bool.not_false, gt_iff_lt, ge_iff_le, Int.not_lt, Int.not_le] at h5)
            try (exfalso; first | contradiction | omega)
            all_goals
              refine wl_yes rfl rfl ?_
              refine wl_val (r_move rfl) (by decide) ?_
              refine wl_yes rfl rfl ?_
              refine wl_val (r_neq rfl rfl) (by decide) ?_
              refine wl_val (r_pick_f rfl rfl) (by decide) ?_
              refine wl_split rfl (by decide) (fun h7 => ?_) (fun h7 => ?_)
              · (try simp only [beq_iff_eq, bne_iff_ne, ne_eq, decide_eq_true_eq, decide_eq_false_iff_not, beq_eq_false_iff_ne, bne_eq_false_iff_eq, Bool.not_eq_true', Bool.not_eq_false', Bool.not_eq_eq_eq_not, Bool.not_true, Bool.not_false, gt_iff_lt, ge_iff_le, Int.not_lt, Int.not_le] at h7)
                try (exfalso; first | contradiction | omega)
                all_goals
                  refine wl_no rfl rfl rfl (by decide) ?_
                  refine wl_no rfl rfl rfl (by decide) ?_
                  refine wl_no rfl rfl rfl (by decide) ?_
                  refine wl_no rfl rfl rfl (by decide) ?_
                  refine wl_val (r_pick_t rfl rfl) (by decide) ?_
                  refine wl_val (r_known_f (r_move rfl) (by simp)) (by decide) ?_
                  refine wl_yes rfl rfl ?_
                  refine wl_val (r_move rfl) (by decide) ?_
                  refine wl_yes rfl rfl ?_
                  refine wl_val (r_move rfl) (by decide) ?_
                  refine wl_yes rfl rfl ?_
                  refine wl_eff (e_call (r_call rfl Try.func13 rfl rfl) (equal_ret _ _ _ _ _ H7.row_rd (Holds.rd H7 h3m))) (by decide) ?_
                  rintro _ w9 ⟨rfl, hD2⟩
                  have HE2 := H7.drewn hD2
                  have HN : Holds w w9 (RingRep p ls ((k + 1) % ls.length) • emp) := by have q := HE2.right.swap.right; exact q
                  refine wl_yes rfl rfl ?_
                  refine wl_val (r_not rfl) (by decide) ?_
                  refine wl_val (r_pick_f rfl rfl) (by decide) ?_
                  refine wl_nil ?_
                  refine wq_seq ?_
                  refine wc_cond rfl (fun h => by exfalso; (try simp only [beq_iff_eq, bne_iff_ne, ne_eq, decide_eq_true_eq, decide_eq_false_iff_not, beq_eq_false_iff_ne, bne_eq_false_iff_eq, Bool.not_eq_true', Bool.not_eq_false', Bool.not_eq_eq_eq_not, Bool.not_true, Bool.not_false, gt_iff_lt, ge_iff_le, Int.not_lt, Int.not_le] at h); simp at h) (fun h8 => ?_)
                  (try simp only [beq_iff_eq, bne_iff_ne, ne_eq, decide_eq_true_eq, decide_eq_false_iff_not, beq_eq_false_iff_ne, bne_eq_false_iff_eq, Bool.not_eq_true', Bool.not_eq_false', Bool.not_eq_eq_eq_not, Bool.not_true, Bool.not_false, gt_iff_lt, ge_iff_le, Int.not_lt, Int.not_le] at h8)
                  refine wc_skip ?_
                  refine wq_block_normal ?_
                  refine wq_seq ?_
                  refine wc_region ?_
                  refine wl_val (r_add rfl rfl (by omega)) (by decide) ?_
                  refine wl_val (r_move rfl) (by decide) ?_
                  refine wl_nil ?_
                  refine wq_round (k + 1) ?_ ?_ ?_ ?_
                  · exact (Sub.cons rfl (Sub.nil _))
                  · exact (Sub.cons rfl (Sub.cons rfl (Sub.cons rfl (Sub.cons rfl (Sub.cons rfl (Sub.nil _))))))
                  · exact ⟨by omega, HN⟩
                  · (try dsimp only); omega
              · (try simp only [beq_iff_eq, bne_iff_ne, ne_eq, decide_eq_true_eq, decide_eq_false_iff_not, beq_eq_false_iff_ne, bne_eq_false_iff_eq, Bool.not_eq_true', Bool.not_eq_false', Bool.not_eq_eq_eq_not, Bool.not_true, Bool.not_false, gt_iff_lt, ge_iff_le, Int.not_lt, Int.not_le] at h7)
                try (exfalso; first | contradiction | omega)
                all_goals
                  refine wl_yes rfl rfl ?_
                  refine wl_val (r_move rfl) (by decide) ?_
                  refine wl_yes rfl rfl ?_
                  refine wl_val (r_move rfl) (by decide) ?_
                  refine wl_yes rfl rfl ?_
                  refine wl_eff (e_call (r_call rfl Try.func13 rfl rfl) (equal_ret _ _ _ _ _ H7.rot.row_rd (Holds.rd H7 h3m))) (by decide) ?_
                  rintro _ w10 ⟨rfl, hD1⟩
                  have HE := H7.drewn hD1
                  refine wl_yes rfl rfl ?_
                  refine wl_val (r_not rfl) (by decide) ?_
                  refine wl_val (r_pick_f rfl rfl) (by decide) ?_
                  refine wl_split rfl (by decide) (fun h9 => ?_) (fun h9 => ?_)
                  · (try simp only [beq_iff_eq, bne_iff_ne, ne_eq, decide_eq_true_eq, decide_eq_false_iff_not, beq_eq_false_iff_ne, bne_eq_false_iff_eq, Bool.not_eq_true', Bool.not_eq_false', Bool.not_eq_eq_eq_not, Bool.not_true, Bool.not_false, gt_iff_lt, ge_iff_le, Int.not_lt, Int.not_le] at h9)
                    try (exfalso; first | contradiction | omega)
                    all_goals
                      refine wl_no rfl rfl rfl (by decide) ?_
                      refine wl_no rfl rfl rfl (by decide) ?_
                      refine wl_no rfl rfl rfl (by decide) ?_
                      refine wl_no rfl rfl rfl (by decide) ?_
                      refine wl_val (r_pick_t rfl rfl) (by decide) ?_
                      refine wl_nil ?_
                      refine wq_seq ?_
                      refine wc_cond_t rfl ?_
                      refine wc_seq ?_
                      refine wc_region ?_
                      refine wl_val (r_assign rfl) (by decide) ?_
                      refine wl_nil ?_
                      refine wq_seq ?_
                      refine wc_ret ?_
                      refine wq_block_ret ?_
                      refine wq_then_ret ?_
                      refine wq_then_ret ?_
                      refine wq_block_ret ?_
                      refine wq_then_ret ?_
                      refine wq_end1 (.inl rfl) Try.results6 rfl ?_
                      exact ⟨rfl, HL.base⟩
                  · (try simp only [beq_iff_eq, bne_iff_ne, ne_eq, decide_eq_true_eq, decide_eq_false_iff_not, beq_eq_false_iff_ne, bne_eq_false_iff_eq, Bool.not_eq_true', Bool.not_eq_false', Bool.not_eq_eq_eq_not, Bool.not_true, Bool.not_false, gt_iff_lt, ge_iff_le, Int.not_lt, Int.not_le] at h9)
                    try (exfalso; first | contradiction | omega)
                    all_goals
                      refine wl_yes rfl rfl ?_
                      refine wl_val (r_move rfl) (by decide) ?_
                      refine wl_yes rfl rfl ?_
                      refine wl_val (r_move rfl) (by decide) ?_
                      refine wl_yes rfl rfl ?_
                      refine wl_eff (e_call (r_call rfl Try.func13 rfl rfl) (equal_ret _ _ _ _ _ HE.row_rd (Holds.rd HE h3m))) (by decide) ?_
                      rintro _ w11 ⟨rfl, hD2⟩
                      have HE2 := HE.drewn hD2
                      have HN : Holds w w11 (RingRep p ls ((k + 1) % ls.length) • emp) := by have q := HE2.right.swap.right; exact q
                      refine wl_yes rfl rfl ?_
                      refine wl_val (r_not rfl) (by decide) ?_
                      refine wl_val (r_pick_f rfl rfl) (by decide) ?_
                      refine wl_nil ?_
                      refine wq_seq ?_
                      refine wc_cond rfl (fun h => by exfalso; (try simp only [beq_iff_eq, bne_iff_ne, ne_eq, decide_eq_true_eq, decide_eq_false_iff_not, beq_eq_false_iff_ne, bne_eq_false_iff_eq, Bool.not_eq_true', Bool.not_eq_false', Bool.not_eq_eq_eq_not, Bool.not_true, Bool.not_false, gt_iff_lt, ge_iff_le, Int.not_lt, Int.not_le] at h); simp at h) (fun h10 => ?_)
                      (try simp only [beq_iff_eq, bne_iff_ne, ne_eq, decide_eq_true_eq, decide_eq_false_iff_not, beq_eq_false_iff_ne, bne_eq_false_iff_eq, Bool.not_eq_true', Bool.not_eq_false', Bool.not_eq_eq_eq_not, Bool.not_true, Bool.not_false, gt_iff_lt, ge_iff_le, Int.not_lt, Int.not_le] at h10)
                      refine wc_skip ?_
                      refine wq_block_normal ?_
                      refine wq_seq ?_
                      refine wc_region ?_
                      refine wl_val (r_add rfl rfl (by omega)) (by decide) ?_
                      refine wl_val (r_move rfl) (by decide) ?_
                      refine wl_nil ?_
                      refine wq_round (k + 1) ?_ ?_ ?_ ?_
                      · exact (Sub.cons rfl (Sub.nil _))
                      · exact (Sub.cons rfl (Sub.cons rfl (Sub.cons rfl (Sub.cons rfl (Sub.cons rfl (Sub.nil _))))))
                      · exact ⟨by omega, HN⟩
                      · (try dsimp only); omega
      · (try simp only [beq_iff_eq, bne_iff_ne, ne_eq, decide_eq_true_eq, decide_eq_false_iff_not, beq_eq_false_iff_ne, bne_eq_false_iff_eq, Bool.not_eq_true', Bool.not_eq_false', Bool.not_eq_eq_eq_not, Bool.not_true, Bool.not_false, gt_iff_lt, ge_iff_le, Int.not_lt, Int.not_le] at h4)
        try (exfalso; first | contradiction | omega)
        all_goals
          
          refine wc_exit ?_
          refine wq_then_exit ?_
          refine wq_then_exit ?_
          refine wq_block_hit ?_
          refine wq_seq ?_
          refine wc_seq ?_
          refine wc_region ?_
          refine wl_val (r_assign rfl) (by decide) ?_
          refine wl_nil ?_
          refine wq_seq ?_
          refine wc_ret ?_
          refine wq_end1 (.inl rfl) Try.results6 rfl ?_
          exact ⟨rfl, HL.base⟩
theorem killring_round_back {w : World} {v : Value} {vs : List Value} {ls : List (List Int)} (g2 : Rd w 1 v ls.length vs) (g3 : ∀ k, k < ls.length → RdI w .i32 (vs.getD k undef) (ls.getD k [])) (hg : ls.length ≤ 60 ∧ ∀ k, k < ls.length → (ls.getD k []).length ≤ 1024) :
    Ret Try.prog 6 #[v, .bool true] w fun v w' => v = .bool true ∧ Below w.heap.size w w' := by
  have H := Holds.start w
  obtain ⟨a1, c1, hv1⟩ := g2.slice_form
  subst hv1
  refine ret_enter Try.func6 rfl Try.ntmps6 (Nat.le_of_ble_eq_true rfl) ?_
  dsimp only [slots0, Nat.reduceAdd]
  refine wc_seq ?_
  refine wc_region ?_
  refine wl_val (r_assign rfl) (by decide) ?_
  refine wl_nil ?_
  refine wq_seq ?_
  refine wc_seq ?_
  refine wc_region ?_
  refine wl_val (r_move rfl) (by decide) ?_
  refine wl_eff (e_call (r_call rfl Try.func22 rfl rfl) (ring_from_good H (FRd.of_start g2 _) (fun k hk => FRdI.of_start (g3 k hk) _) hg.1 hg.2)) (by decide) ?_
  rintro _ w1 ⟨p, rfl, H1⟩
  refine wl_val (r_move rfl) (by decide) ?_
  refine wl_val (r_extract rfl rfl) (by decide) ?_
  refine wl_val (r_extract rfl rfl) (by decide) ?_
  refine wl_val (r_assign rfl) (by decide) ?_
  refine wl_val (r_assign rfl) (by decide) ?_
  refine wl_nil ?_
  refine wq_seq ?_
  refine wc_seq ?_
  refine wc_seq ?_
  refine wc_region ?_
  refine wl_val (r_move rfl) (by decide) ?_
  refine wl_val (r_neq rfl rfl) (by decide) ?_
  refine wl_split rfl (by decide) (fun h => by exfalso; (try simp only [beq_iff_eq, bne_iff_ne, ne_eq, decide_eq_true_eq, decide_eq_false_iff_not, beq_eq_false_iff_ne, bne_eq_false_iff_eq, Bool.not_eq_true', Bool.not_eq_false', Bool.not_eq_eq_eq_not, Bool.not_true, Bool.not_false, gt_iff_lt, ge_iff_le, Int.not_lt, Int.not_le] at h); first | contradiction | omega | (simp at h <;> omega)) (fun h1 => ?_)
  (try simp only [beq_iff_eq, bne_iff_ne, ne_eq, decide_eq_true_eq, decide_eq_false_iff_not, beq_eq_false_iff_ne, bne_eq_false_iff_eq, Bool.not_eq_true', Bool.not_eq_false', Bool.not_eq_eq_eq_not, Bool.not_true, Bool.not_false, gt_iff_lt, ge_iff_le, Int.not_lt, Int.not_le] at h1)
  refine wl_yes rfl rfl ?_
  refine wl_eff (e_call (r_call rfl Try.func10 rfl rfl) (live_ret H1)) (by decide) ?_
  rintro _ w2 ⟨rfl, H2⟩
  refine wl_yes rfl rfl ?_
  refine wl_val (r_not rfl) (by decide) ?_
  refine wl_val (r_pick_f rfl rfl) (by decide) ?_
  refine wl_nil ?_
  refine wq_seq ?_
  refine wc_cond rfl (fun h => by exfalso; (try simp only [beq_iff_eq, bne_iff_ne, ne_eq, decide_eq_true_eq, decide_eq_false_iff_not, beq_eq_false_iff_ne, bne_eq_false_iff_eq, Bool.not_eq_true', Bool.not_eq_false', Bool.not_eq_eq_eq_not, Bool.not_true, Bool.not_false, gt_iff_lt, ge_iff_le, Int.not_lt, Int.not_le] at h); first | contradiction | omega | (simp at h <;> omega)) (fun h2 => ?_)
  (try simp only [beq_iff_eq, bne_iff_ne, ne_eq, decide_eq_true_eq, decide_eq_false_iff_not, beq_eq_false_iff_ne, bne_eq_false_iff_eq, Bool.not_eq_true', Bool.not_eq_false', Bool.not_eq_eq_eq_not, Bool.not_true, Bool.not_false, gt_iff_lt, ge_iff_le, Int.not_lt, Int.not_le] at h2)
  refine wc_skip ?_
  refine wq_seq ?_
  refine wc_seq ?_
  refine wc_seq ?_
  refine wc_region ?_
  refine wl_val (r_move rfl) (by decide) ?_
  refine wl_eff (e_call (r_call rfl Try.func14 rfl rfl) (ring_len_ret H2)) (by decide) ?_
  rintro _ _ ⟨rfl, rfl⟩
  refine wl_val (r_eql rfl rfl) (by decide) ?_
  refine wl_nil ?_
  refine wq_seq ?_
  refine wc_cond rfl (fun h3 => ?_) (fun h3 => ?_)
  · (try simp only [beq_iff_eq, bne_iff_ne, ne_eq, decide_eq_true_eq, decide_eq_false_iff_not, beq_eq_false_iff_ne, bne_eq_false_iff_eq, Bool.not_eq_true', Bool.not_eq_false', Bool.not_eq_eq_eq_not, Bool.not_true, Bool.not_false, gt_iff_lt, ge_iff_le, Int.not_lt, Int.not_le] at h3)
    try (exfalso; first | contradiction | omega)
    all_goals
      
      refine wc_seq ?_
      refine wc_region ?_
      refine wl_val (r_move rfl) (by decide) ?_
      refine wl_eff (e_call (r_call rfl Try.func15 rfl rfl) (ring_rotate_bell (by rw [show ls = [] from List.eq_nil_of_length_eq_zero (by omega)] at H2; exact H2))) (by decide) ?_
      rintro _ w4 ⟨rfl, H4⟩
      refine wl_val (r_move rfl) (by decide) ?_
      refine wl_val (r_extract rfl rfl) (by decide) ?_
      refine wl_val (r_extract rfl rfl) (by decide) ?_
      refine wl_val (r_assign rfl) (by decide) ?_
      refine wl_val (r_assign rfl) (by decide) ?_
      refine wl_nil ?_
      refine wq_seq ?_
      refine wc_seq ?_
      refine wc_region ?_
      refine wl_val (r_move rfl) (by decide) ?_
      refine wl_val (r_eql rfl rfl) (by decide) ?_
      refine wl_val (r_assign rfl) (by decide) ?_
      refine wl_nil ?_
      refine wq_seq ?_
      refine wc_ret ?_
      refine wq_then_ret ?_
      refine wq_end1 (.inl rfl) Try.results6 rfl ?_
      exact ⟨rfl, H4.base⟩
  · (try simp only [beq_iff_eq, bne_iff_ne, ne_eq, decide_eq_true_eq, decide_eq_false_iff_not, beq_eq_false_iff_ne, bne_eq_false_iff_eq, Bool.not_eq_true', Bool.not_eq_false', Bool.not_eq_eq_eq_not, Bool.not_true, Bool.not_false, gt_iff_lt, ge_iff_le, Int.not_lt, Int.not_le] at h3)
    try (exfalso; first | contradiction | omega)
    all_goals
      
      refine wc_skip ?_
      refine wq_seq ?_
      refine wc_seq ?_
      refine wc_region ?_
      refine wl_val (r_assign rfl) (by decide) ?_
      refine wl_nil ?_
      refine wq_seq ?_
      refine wc_seq ?_
      refine wc_seq ?_
      refine wc_region ?_
      refine wl_val (r_move rfl) (by decide) ?_
      refine wl_nil ?_
      refine wq_seq ?_
      refine wc_cond_t rfl ?_
      refine wc_region ?_
      refine wl_val (r_assign rfl) (by decide) ?_
      refine wl_nil ?_
      refine wq_seq ?_
      refine wc_seq ?_
      refine wc_seq ?_
      refine wc_region ?_
      refine wl_val (r_move rfl) (by decide) ?_
      refine wl_val (r_len Try.underlying23 rfl) (by decide) ?_
      refine wl_val (r_move rfl) (by decide) ?_
      refine wl_nil ?_
      refine wq_seq ?_
      refine wc_block ?_
      refine wc_loop [(0, _), (1, _), (5, _), (9, _), (45, _)] (fun (k : Nat) => [(46, .int .i64 (k : Int))]) (fun (k : Nat) W => k ≤ ls.length ∧ Holds w W (RingRep p ls ((ls.length - k) % ls.length) • emp)) (fun (k : Nat) => ls.length - k) (0) (Sub.cons rfl (Sub.cons rfl (Sub.cons rfl (Sub.cons rfl (Sub.cons rfl (Sub.nil _)))))) (Sub.cons rfl (Sub.nil _)) ⟨by omega, by simpa using H2⟩ ?_
      rintro k w5 ⟨hk, HL⟩
      dsimp only [List.cons_append, List.nil_append]
      refine wc_seq ?_
      refine wc_region ?_
      refine wl_val (r_lss rfl rfl) (by decide) ?_
      refine wl_nil ?_
      refine wq_seq ?_
      refine wc_seq ?_
      refine wc_cond rfl (fun h4 => ?_) (fun h4 => ?_)
      · (try simp only [beq_iff_eq, bne_iff_ne, ne_eq, decide_eq_true_eq, decide_eq_false_iff_not, beq_eq_false_iff_ne, bne_eq_false_iff_eq, Bool.not_eq_true', Bool.not_eq_false', Bool.not_eq_eq_eq_not, Bool.not_true, Bool.not_false, gt_iff_lt, ge_iff_le, Int.not_lt, Int.not_le] at h4)
        try (exfalso; first | contradiction | omega)
        all_goals
          
          refine wc_skip ?_
          refine wq_seq ?_
          refine wc_seq ?_
          refine wc_block ?_
          refine wc_seq ?_
          have hk1 : k < ls.length := by omega
          have h0 : 0 < ls.length := by omega
          have hmod : (((k : Int) + 1) % (ls.length : Int)) = (((k + 1) % ls.length : Nat) : Int) := by rw [Int.natCast_emod, Int.natCast_add]; rfl
          have hml : (k + 1) % ls.length < ls.length := Nat.mod_lt _ h0
          obtain ⟨b0, o, rfl, hc⟩ := (FRd.of_start g2 _).cell HL (j := (k + 1) % ls.length) (by rw [Nat.mul_one]; exact hml)
          obtain ⟨am, cm, em, _, _, _⟩ := (g3 _ hml).open
          have h3m := g3 _ hml
          rw [em] at hc h3m
          refine wc_region ?_
          refine wl_val (r_move rfl) (by decide) ?_
          refine wl_val (r_assign rfl) (by decide) ?_
          refine wl_nil ?_
          refine wq_seq ?_
          refine wc_seq ?_
          refine wc_region ?_
          refine wl_val (r_move rfl) (by decide) ?_
          refine wl_val (r_move rfl) (by decide) ?_
          refine wl_val (r_add rfl rfl (by omega)) (by decide) ?_
          refine wl_val (r_move rfl) (by decide) ?_
          refine wl_val (r_len Try.underlying23 rfl) (by decide) ?_
          refine wl_val (r_rem rfl rfl (by omega) (by  omega)) (by decide) ?_
          refine wl_val (r_index Try.underlying23 Try.sizeOf22 rfl rfl (by rw [hmod]; omega)) (by decide) ?_
          refine wl_val (r_load (plain_of Try.underlying22 rfl) rfl (by rw [hmod, Int.toNat_natCast, Nat.mul_one]; exact hc)) (by decide) ?_
          refine wl_val (r_assign rfl) (by decide) ?_
          refine wl_nil ?_
          refine wq_seq ?_
          refine wc_seq ?_
          refine wc_seq ?_
          refine wc_region ?_
          refine wl_val (r_move rfl) (by decide) ?_
          refine wl_nil ?_
          refine wq_seq ?_
          refine wc_cond_t rfl ?_
          have hql : ls.length - 1 - k < ls.length := by omega
          obtain ⟨b1, o1, hbo, hcq⟩ := (FRd.of_start g2 _).cell HL (j := ls.length - 1 - k) (by rw [Nat.mul_one]; exact hql)
          cases hbo
          obtain ⟨aq, cq, eq, _, _, _⟩ := (g3 _ hql).open
          have h3q := g3 _ hql
          rw [eq] at hcq h3q
          refine wc_region ?_
          refine wl_val (r_move rfl) (by decide) ?_
          refine wl_val (r_move rfl) (by decide) ?_
          refine wl_val (r_len Try.underlying23 rfl) (by decide) ?_
          refine wl_val (r_sub rfl rfl (by omega)) (by decide) ?_
          refine wl_val (r_move rfl) (by decide) ?_
          refine wl_val (r_sub rfl rfl (by omega)) (by decide) ?_
          refine wl_val (r_index Try.underlying23 Try.sizeOf22 rfl rfl (by omega)) (by decide) ?_
          refine wl_val (r_load (plain_of Try.underlying22 rfl) rfl (by rw [show (((ls.length : Int) - 1 - (k : Int)).toNat * 1) = ls.length - 1 - k from by omega]; exact hcq)) (by decide) ?_
          refine wl_val (r_assign rfl) (by decide) ?_
          refine wl_nil ?_
          refine wq_seq ?_
          refine wc_seq ?_
          refine wc_region ?_
          refine wl_val (r_move rfl) (by decide) ?_
          refine wl_val (r_move rfl) (by decide) ?_
          refine wl_eff (e_call (r_call rfl Try.func15 rfl rfl) (ring_rotate_ret HL h0)) (by decide) ?_
          rintro _ w6 ⟨u, rfl, H6⟩
          rw [rot_back hk1] at H6
          refine wl_val (r_move rfl) (by decide) ?_
          refine wl_val (r_extract rfl rfl) (by decide) ?_
          refine wl_val (r_extract rfl rfl) (by decide) ?_
          refine wl_val (r_assign rfl) (by decide) ?_
          refine wl_val (r_assign rfl) (by decide) ?_
          refine wl_nil ?_
          refine wq_seq ?_
          refine wc_seq ?_
          refine wc_region ?_
          refine wl_val (r_move rfl) (by decide) ?_
          refine wl_eff (e_call (r_call rfl Try.func12 rfl rfl) (ring_yank_ret H6.swap h0)) (by decide) ?_
          rintro _ w7 ⟨u2, rfl, H7⟩
          refine wl_val (r_move rfl) (by decide) ?_
          refine wl_val (r_extract rfl rfl) (by decide) ?_
          refine wl_val (r_extract rfl rfl) (by decide) ?_
          refine wl_val (r_assign rfl) (by decide) ?_
          refine wl_val (r_assign rfl) (by decide) ?_
          refine wl_nil ?_
          refine wq_seq ?_
          refine wc_seq ?_
          refine wc_region ?_
          refine wl_val (r_move rfl) (by decide) ?_
          refine wl_val (r_neq rfl rfl) (by decide) ?_
          refine wl_split rfl (by decide) (fun h5 => ?_) (fun h5 => ?_)
          · (try simp only [beq_iff_eq, bne_iff_ne, ne_eq, decide_eq_true_eq, decide_eq_false_iff_not, beq_eq_false_iff_ne, bne_eq_false_iff_eq, Bool.not_eq_true', Bool.not_eq_false', Bool.not_eq_eq_eq_not, Bool.not_true, Bool.not_false, gt_iff_lt, ge_iff_le, Int.not_lt, Int.not_le] at h5)
            try (exfalso; first | contradiction | omega)
            all_goals
              refine wl_no rfl rfl rfl (by decide) ?_
              refine wl_no rfl rfl rfl (by decide) ?_
              refine wl_val (r_pick_t rfl rfl) (by decide) ?_
              refine wl_val (r_move rfl) (by decide) ?_
              refine wl_no rfl rfl rfl (by decide) ?_
              refine wl_no rfl rfl rfl (by decide) ?_
              refine wl_no rfl rfl rfl (by decide) ?_
              refine wl_no rfl rfl rfl (by decide) ?_
              refine wl_val (r_pick_t rfl rfl) (by decide) ?_
              refine wl_val (r_known_f (r_move rfl) (by simp)) (by decide) ?_
              refine wl_yes rfl rfl ?_
              refine wl_val (r_move rfl) (by decide) ?_
              refine wl_yes rfl rfl ?_
              refine wl_val (r_move rfl) (by decide) ?_
              refine wl_yes rfl rfl ?_
              refine wl_eff (e_call (r_call rfl Try.func13 rfl rfl) (equal_ret _ _ _ _ _ H7.row_rd (Holds.rd H7 h3q))) (by decide) ?_
              rintro _ w8 ⟨rfl, hD2⟩
              have HE2 := H7.drewn hD2
              have HN : Holds w w8 (RingRep p ls ((ls.length - (k + 1)) % ls.length) • emp) := by have q := HE2.right.swap.right; rw [Nat.mod_eq_of_lt (by omega), show ls.length - (k + 1) = ls.length - 1 - k from by omega] ; exact q
              refine wl_yes rfl rfl ?_
              refine wl_val (r_not rfl) (by decide) ?_
              refine wl_val (r_pick_f rfl rfl) (by decide) ?_
              refine wl_nil ?_
              refine wq_seq ?_
              refine wc_cond rfl (fun h => by exfalso; (try simp only [beq_iff_eq, bne_iff_ne, ne_eq, decide_eq_true_eq, decide_eq_false_iff_not, beq_eq_false_iff_ne, bne_eq_false_iff_eq, Bool.not_eq_true', Bool.not_eq_false', Bool.not_eq_eq_eq_not, Bool.not_true, Bool.not_false, gt_iff_lt, ge_iff_le, Int.not_lt, Int.not_le] at h); simp at h) (fun h6 => ?_)
              (try simp only [beq_iff_eq, bne_iff_ne, ne_eq, decide_eq_true_eq, decide_eq_false_iff_not, beq_eq_false_iff_ne, bne_eq_false_iff_eq, Bool.not_eq_true', Bool.not_eq_false', Bool.not_eq_eq_eq_not, Bool.not_true, Bool.not_false, gt_iff_lt, ge_iff_le, Int.not_lt, Int.not_le] at h6)
              refine wc_skip ?_
              refine wq_block_normal ?_
              refine wq_seq ?_
              refine wc_region ?_
              refine wl_val (r_add rfl rfl (by omega)) (by decide) ?_
              refine wl_val (r_move rfl) (by decide) ?_
              refine wl_nil ?_
              refine wq_round (k + 1) ?_ ?_ ?_ ?_
              · exact (Sub.cons rfl (Sub.nil _))
              · exact (Sub.cons rfl (Sub.cons rfl (Sub.cons rfl (Sub.cons rfl (Sub.cons rfl (Sub.nil _))))))
              · exact ⟨by omega, HN⟩
              · (try dsimp only); omega
          · (try simp only [beq_iff_eq, bne_iff_ne, ne_eq, decide_eq_true_eq, decide_eq_false_iff_not, beq_eq_false_iff_ne, bne_eq_false_iff_eq, Bool.not_eq_true', Bool.not_eq_false', Bool.not_eq_eq_eq_not, Bool.not_true, Bool.not_false, gt_iff_lt, ge_iff_le, Int.not_lt, Int.not_le] at h5)
            try (exfalso; first | contradiction | omega)
            all_goals
              refine wl_yes rfl rfl ?_
              refine wl_val (r_move rfl) (by decide) ?_
              refine wl_yes rfl rfl ?_
              refine wl_val (r_neq rfl rfl) (by decide) ?_
              refine wl_val (r_pick_f rfl rfl) (by decide) ?_
              refine wl_split rfl (by decide) (fun h7 => ?_) (fun h7 => ?_)
              · (try simp only [beq_iff_eq, bne_iff_ne, ne_eq, decide_eq_true_eq, decide_eq_false_iff_not, beq_eq_false_iff_ne, bne_eq_false_iff_eq, Bool.not_eq_true', Bool.not_eq_false', Bool.not_eq_eq_eq_not, Bool.not_true, Bool.not_false, gt_iff_lt, ge_iff_le, Int.not_lt, Int.not_le] at h7)
                try (exfalso; first | contradiction | omega)
                all_goals
                  refine wl_no rfl rfl rfl (by decide) ?_
                  refine wl_no rfl rfl rfl (by decide) ?_
                  refine wl_no rfl rfl rfl (by decide) ?_
                  refine wl_no rfl rfl rfl (by decide) ?_
                  refine wl_val (r_pick_t rfl rfl) (by decide) ?_
                  refine wl_val (r_known_f (r_move rfl) (by simp)) (by decide) ?_
                  refine wl_yes rfl rfl ?_
                  refine wl_val (r_move rfl) (by decide) ?_
                  refine wl_yes rfl rfl ?_
                  refine wl_val (r_move rfl) (by decide) ?_
                  refine wl_yes rfl rfl ?_
                  refine wl_eff (e_call (r_call rfl Try.func13 rfl rfl) (equal_ret _ _ _ _ _ H7.row_rd (Holds.rd H7 h3q))) (by decide) ?_
                  rintro _ w9 ⟨rfl, hD2⟩
                  have HE2 := H7.drewn hD2
                  have HN : Holds w w9 (RingRep p ls ((ls.length - (k + 1)) % ls.length) • emp) := by have q := HE2.right.swap.right; rw [Nat.mod_eq_of_lt (by omega), show ls.length - (k + 1) = ls.length - 1 - k from by omega] ; exact q
                  refine wl_yes rfl rfl ?_
                  refine wl_val (r_not rfl) (by decide) ?_
                  refine wl_val (r_pick_f rfl rfl) (by decide) ?_
                  refine wl_nil ?_
                  refine wq_seq ?_
                  refine wc_cond rfl (fun h => by exfalso; (try simp only [beq_iff_eq, bne_iff_ne, ne_eq, decide_eq_true_eq, decide_eq_false_iff_not, beq_eq_false_iff_ne, bne_eq_false_iff_eq, Bool.not_eq_true', Bool.not_eq_false', Bool.not_eq_eq_eq_not, Bool.not_true, Bool.not_false, gt_iff_lt, ge_iff_le, Int.not_lt, Int.not_le] at h); simp at h) (fun h8 => ?_)
                  (try simp only [beq_iff_eq, bne_iff_ne, ne_eq, decide_eq_true_eq, decide_eq_false_iff_not, beq_eq_false_iff_ne, bne_eq_false_iff_eq, Bool.not_eq_true', Bool.not_eq_false', Bool.not_eq_eq_eq_not, Bool.not_true, Bool.not_false, gt_iff_lt, ge_iff_le, Int.not_lt, Int.not_le] at h8)
                  refine wc_skip ?_
                  refine wq_block_normal ?_
                  refine wq_seq ?_
                  refine wc_region ?_
                  refine wl_val (r_add rfl rfl (by omega)) (by decide) ?_
                  refine wl_val (r_move rfl) (by decide) ?_
                  refine wl_nil ?_
                  refine wq_round (k + 1) ?_ ?_ ?_ ?_
                  · exact (Sub.cons rfl (Sub.nil _))
                  · exact (Sub.cons rfl (Sub.cons rfl (Sub.cons rfl (Sub.cons rfl (Sub.cons rfl (Sub.nil _))))))
                  · exact ⟨by omega, HN⟩
                  · (try dsimp only); omega
              · (try simp only [beq_iff_eq, bne_iff_ne, ne_eq, decide_eq_true_eq, decide_eq_false_iff_not, beq_eq_false_iff_ne, bne_eq_false_iff_eq, Bool.not_eq_true', Bool.not_eq_false', Bool.not_eq_eq_eq_not, Bool.not_true, Bool.not_false, gt_iff_lt, ge_iff_le, Int.not_lt, Int.not_le] at h7)
                try (exfalso; first | contradiction | omega)
                all_goals
                  refine wl_yes rfl rfl ?_
                  refine wl_val (r_move rfl) (by decide) ?_
                  refine wl_yes rfl rfl ?_
                  refine wl_val (r_move rfl) (by decide) ?_
                  refine wl_yes rfl rfl ?_
                  refine wl_eff (e_call (r_call rfl Try.func13 rfl rfl) (equal_ret _ _ _ _ _ H7.rot.row_rd (Holds.rd H7 h3q))) (by decide) ?_
                  rintro _ w10 ⟨rfl, hD1⟩
                  have HE := H7.drewn hD1
                  refine wl_yes rfl rfl ?_
                  refine wl_val (r_not rfl) (by decide) ?_
                  refine wl_val (r_pick_f rfl rfl) (by decide) ?_
                  refine wl_split rfl (by decide) (fun h9 => ?_) (fun h9 => ?_)
                  · (try simp only [beq_iff_eq, bne_iff_ne, ne_eq, decide_eq_true_eq, decide_eq_false_iff_not, beq_eq_false_iff_ne, bne_eq_false_iff_eq, Bool.not_eq_true', Bool.not_eq_false', Bool.not_eq_eq_eq_not, Bool.not_true, Bool.not_false, gt_iff_lt, ge_iff_le, Int.not_lt, Int.not_le] at h9)
                    try (exfalso; first | contradiction | omega)
                    all_goals
                      refine wl_no rfl rfl rfl (by decide) ?_
                      refine wl_no rfl rfl rfl (by decide) ?_
                      refine wl_no rfl rfl rfl (by decide) ?_
                      refine wl_no rfl rfl rfl (by decide) ?_
                      refine wl_val (r_pick_t rfl rfl) (by decide) ?_
                      refine wl_nil ?_
                      refine wq_seq ?_
                      refine wc_cond_t rfl ?_
                      refine wc_seq ?_
                      refine wc_region ?_
                      refine wl_val (r_assign rfl) (by decide) ?_
                      refine wl_nil ?_
                      refine wq_seq ?_
                      refine wc_ret ?_
                      refine wq_block_ret ?_
                      refine wq_then_ret ?_
                      refine wq_then_ret ?_
                      refine wq_block_ret ?_
                      refine wq_then_ret ?_
                      refine wq_end1 (.inl rfl) Try.results6 rfl ?_
                      exact ⟨rfl, HL.base⟩
                  · (try simp only [beq_iff_eq, bne_iff_ne, ne_eq, decide_eq_true_eq, decide_eq_false_iff_not, beq_eq_false_iff_ne, bne_eq_false_iff_eq, Bool.not_eq_true', Bool.not_eq_false', Bool.not_eq_eq_eq_not, Bool.not_true, Bool.not_false, gt_iff_lt, ge_iff_le, Int.not_lt, Int.not_le] at h9)
                    try (exfalso; first | contradiction | omega)
                    all_goals
                      refine wl_yes rfl rfl ?_
                      refine wl_val (r_move rfl) (by decide) ?_
                      refine wl_yes rfl rfl ?_
                      refine wl_val (r_move rfl) (by decide) ?_
                      refine wl_yes rfl rfl ?_
                      refine wl_eff (e_call (r_call rfl Try.func13 rfl rfl) (equal_ret _ _ _ _ _ HE.row_rd (Holds.rd HE h3q))) (by decide) ?_
                      rintro _ w11 ⟨rfl, hD2⟩
                      have HE2 := HE.drewn hD2
                      have HN : Holds w w11 (RingRep p ls ((ls.length - (k + 1)) % ls.length) • emp) := by have q := HE2.right.swap.right; rw [Nat.mod_eq_of_lt (by omega), show ls.length - (k + 1) = ls.length - 1 - k from by omega] ; exact q
                      refine wl_yes rfl rfl ?_
                      refine wl_val (r_not rfl) (by decide) ?_
                      refine wl_val (r_pick_f rfl rfl) (by decide) ?_
                      refine wl_nil ?_
                      refine wq_seq ?_
                      refine wc_cond rfl (fun h => by exfalso; (try simp only [beq_iff_eq, bne_iff_ne, ne_eq, decide_eq_true_eq, decide_eq_false_iff_not, beq_eq_false_iff_ne, bne_eq_false_iff_eq, Bool.not_eq_true', Bool.not_eq_false', Bool.not_eq_eq_eq_not, Bool.not_true, Bool.not_false, gt_iff_lt, ge_iff_le, Int.not_lt, Int.not_le] at h); simp at h) (fun h10 => ?_)
                      (try simp only [beq_iff_eq, bne_iff_ne, ne_eq, decide_eq_true_eq, decide_eq_false_iff_not, beq_eq_false_iff_ne, bne_eq_false_iff_eq, Bool.not_eq_true', Bool.not_eq_false', Bool.not_eq_eq_eq_not, Bool.not_true, Bool.not_false, gt_iff_lt, ge_iff_le, Int.not_lt, Int.not_le] at h10)
                      refine wc_skip ?_
                      refine wq_block_normal ?_
                      refine wq_seq ?_
                      refine wc_region ?_
                      refine wl_val (r_add rfl rfl (by omega)) (by decide) ?_
                      refine wl_val (r_move rfl) (by decide) ?_
                      refine wl_nil ?_
                      refine wq_round (k + 1) ?_ ?_ ?_ ?_
                      · exact (Sub.cons rfl (Sub.nil _))
                      · exact (Sub.cons rfl (Sub.cons rfl (Sub.cons rfl (Sub.cons rfl (Sub.cons rfl (Sub.nil _))))))
                      · exact ⟨by omega, HN⟩
                      · (try dsimp only); omega
      · (try simp only [beq_iff_eq, bne_iff_ne, ne_eq, decide_eq_true_eq, decide_eq_false_iff_not, beq_eq_false_iff_ne, bne_eq_false_iff_eq, Bool.not_eq_true', Bool.not_eq_false', Bool.not_eq_eq_eq_not, Bool.not_true, Bool.not_false, gt_iff_lt, ge_iff_le, Int.not_lt, Int.not_le] at h4)
        try (exfalso; first | contradiction | omega)
        all_goals
          
          refine wc_exit ?_
          refine wq_then_exit ?_
          refine wq_then_exit ?_
          refine wq_block_hit ?_
          refine wq_seq ?_
          refine wc_seq ?_
          refine wc_region ?_
          refine wl_val (r_assign rfl) (by decide) ?_
          refine wl_nil ?_
          refine wq_seq ?_
          refine wc_ret ?_
          refine wq_end1 (.inl rfl) Try.results6 rfl ?_
          exact ⟨rfl, HL.base⟩
theorem killring_round_bad {w : World} {v : Value} {vs : List Value} {ls : List (List Int)} (back : Bool) (g2 : Rd w 1 v ls.length vs) (g3 : ∀ k, k < ls.length → RdI w .i32 (vs.getD k undef) (ls.getD k [])) (hbad : 60 < ls.length ∨ ∃ k, k < ls.length ∧ 1024 < (ls.getD k []).length) :
    Ret Try.prog 6 #[v, .bool back] w fun v w' => v = .bool true ∧ Below w.heap.size w w' := by
  have H := Holds.start w
  obtain ⟨a1, c1, hv1⟩ := g2.slice_form
  subst hv1
  have h0 : 0 < ls.length := by rcases hbad with h | ⟨k, h, _⟩ <;> omega
  refine ret_enter Try.func6 rfl Try.ntmps6 (Nat.le_of_ble_eq_true rfl) ?_
  dsimp only [slots0, Nat.reduceAdd]
  refine wc_seq ?_
  refine wc_region ?_
  refine wl_val (r_assign rfl) (by decide) ?_
  refine wl_nil ?_
  refine wq_seq ?_
  refine wc_seq ?_
  refine wc_region ?_
  refine wl_val (r_move rfl) (by decide) ?_
  refine wl_eff (e_call (r_call rfl Try.func22 rfl rfl) (ring_from_bad H (FRd.of_start g2 _) (fun k hk => FRdI.of_start (g3 k hk) _) hbad)) (by decide) ?_
  rintro _ w1 ⟨rfl, H1⟩
  refine wl_val (r_move rfl) (by decide) ?_
  refine wl_val (r_extract rfl rfl) (by decide) ?_
  refine wl_val (r_extract rfl rfl) (by decide) ?_
  refine wl_val (r_assign rfl) (by decide) ?_
  refine wl_val (r_assign rfl) (by decide) ?_
  refine wl_nil ?_
  refine wq_seq ?_
  refine wc_seq ?_
  refine wc_seq ?_
  refine wc_region ?_
  refine wl_val (r_move rfl) (by decide) ?_
  refine wl_val (r_neq rfl rfl) (by decide) ?_
  refine wl_split rfl (by decide) (fun h1 => ?_) (fun h1 => ?_)
  · (try simp only [beq_iff_eq, bne_iff_ne, ne_eq, decide_eq_true_eq, decide_eq_false_iff_not, beq_eq_false_iff_ne, bne_eq_false_iff_eq, Bool.not_eq_true', Bool.not_eq_false', Bool.not_eq_eq_eq_not, Bool.not_true, Bool.not_false, gt_iff_lt, ge_iff_le, Int.not_lt, Int.not_le] at h1)
    try (exfalso; first | contradiction | omega)
    all_goals
      refine wl_no rfl rfl rfl (by decide) ?_
      refine wl_no rfl rfl rfl (by decide) ?_
      refine wl_val (r_pick_t rfl rfl) (by decide) ?_
      refine wl_nil ?_
      refine wq_seq ?_
      refine wc_cond_t rfl ?_
      refine wc_seq ?_
      refine wc_region ?_
      refine wl_eff (e_call (r_call rfl Try.func10 rfl rfl) (live_ret H1)) (by decide) ?_
      rintro _ w2 ⟨rfl, H2⟩
      refine wl_split rfl (by decide) (fun h2 => ?_) (fun h2 => ?_)
      · (try simp only [beq_iff_eq, bne_iff_ne, ne_eq, decide_eq_true_eq, decide_eq_false_iff_not, beq_eq_false_iff_ne, bne_eq_false_iff_eq, Bool.not_eq_true', Bool.not_eq_false', Bool.not_eq_eq_eq_not, Bool.not_true, Bool.not_false, gt_iff_lt, ge_iff_le, Int.not_lt, Int.not_le] at h2)
        try (exfalso; first | contradiction | omega)
        all_goals
          refine wl_yes rfl rfl ?_
          refine wl_val (r_move rfl) (by decide) ?_
          refine wl_yes rfl rfl ?_
          refine wl_val (r_len Try.underlying23 rfl) (by decide) ?_
          refine wl_yes rfl rfl ?_
          refine wl_val (r_gtr rfl rfl) (by decide) ?_
          refine wl_val (r_pick_t rfl rfl) (by decide) ?_
          refine wl_val (r_assign rfl) (by decide) ?_
          refine wl_nil ?_
          refine wq_seq ?_
          refine wc_ret ?_
          refine wq_then_ret ?_
          refine wq_end1 (.inl rfl) Try.results6 rfl ?_
          exact ⟨by simp; try omega, H2.base⟩
      · (try simp only [beq_iff_eq, bne_iff_ne, ne_eq, decide_eq_true_eq, decide_eq_false_iff_not, beq_eq_false_iff_ne, bne_eq_false_iff_eq, Bool.not_eq_true', Bool.not_eq_false', Bool.not_eq_eq_eq_not, Bool.not_true, Bool.not_false, gt_iff_lt, ge_iff_le, Int.not_lt, Int.not_le] at h2)
        try (exfalso; first | contradiction | omega)
        all_goals
          refine wl_no rfl rfl rfl (by decide) ?_
          refine wl_no rfl rfl rfl (by decide) ?_
          refine wl_no rfl rfl rfl (by decide) ?_
          refine wl_val (r_pick_f rfl rfl) (by decide) ?_
          refine wl_val (r_assign rfl) (by decide) ?_
          refine wl_nil ?_
          refine wq_seq ?_
          refine wc_ret ?_
          refine wq_then_ret ?_
          refine wq_end1 (.inl rfl) Try.results6 rfl ?_
          exact ⟨by simp; try omega, H2.base⟩
  · (try simp only [beq_iff_eq, bne_iff_ne, ne_eq, decide_eq_true_eq, decide_eq_false_iff_not, beq_eq_false_iff_ne, bne_eq_false_iff_eq, Bool.not_eq_true', Bool.not_eq_false', Bool.not_eq_eq_eq_not, Bool.not_true, Bool.not_false, gt_iff_lt, ge_iff_le, Int.not_lt, Int.not_le] at h1)
    try (exfalso; first | contradiction | omega)
    all_goals
      refine wl_yes rfl rfl ?_
      refine wl_eff (e_call (r_call rfl Try.func10 rfl rfl) (live_ret H1)) (by decide) ?_
      rintro _ w3 ⟨rfl, H3⟩
      refine wl_yes rfl rfl ?_
      refine wl_val (r_not rfl) (by decide) ?_
      refine wl_val (r_pick_f rfl rfl) (by decide) ?_
      refine wl_nil ?_
      refine wq_seq ?_
      refine wc_cond rfl (fun h3 => ?_) (fun h => by exfalso; (try simp only [beq_iff_eq, bne_iff_ne, ne_eq, decide_eq_true_eq, decide_eq_false_iff_not, beq_eq_false_iff_ne, bne_eq_false_iff_eq, Bool.not_eq_true', Bool.not_eq_false', Bool.not_eq_eq_eq_not, Bool.not_true, Bool.not_false, gt_iff_lt, ge_iff_le, Int.not_lt, Int.not_le] at h); first | contradiction | omega | (simp at h <;> omega))
      (try simp only [beq_iff_eq, bne_iff_ne, ne_eq, decide_eq_true_eq, decide_eq_false_iff_not, beq_eq_false_iff_ne, bne_eq_false_iff_eq, Bool.not_eq_true', Bool.not_eq_false', Bool.not_eq_eq_eq_not, Bool.not_true, Bool.not_false, gt_iff_lt, ge_iff_le, Int.not_lt, Int.not_le] at h3)
      refine wc_seq ?_
      refine wc_region ?_
      refine wl_eff (e_call (r_call rfl Try.func10 rfl rfl) (live_ret H3)) (by decide) ?_
      rintro _ w4 ⟨rfl, H4⟩
      refine wl_split rfl (by decide) (fun h4 => ?_) (fun h4 => ?_)
      · (try simp only [beq_iff_eq, bne_iff_ne, ne_eq, decide_eq_true_eq, decide_eq_false_iff_not, beq_eq_false_iff_ne, bne_eq_false_iff_eq, Bool.not_eq_true', Bool.not_eq_false', Bool.not_eq_eq_eq_not, Bool.not_true, Bool.not_false, gt_iff_lt, ge_iff_le, Int.not_lt, Int.not_le] at h4)
        try (exfalso; first | contradiction | omega)
        all_goals
          refine wl_yes rfl rfl ?_
          refine wl_val (r_move rfl) (by decide) ?_
          refine wl_yes rfl rfl ?_
          refine wl_val (r_len Try.underlying23 rfl) (by decide) ?_
          refine wl_yes rfl rfl ?_
          refine wl_val (r_gtr rfl rfl) (by decide) ?_
          refine wl_val (r_pick_t rfl rfl) (by decide) ?_
          refine wl_val (r_assign rfl) (by decide) ?_
          refine wl_nil ?_
          refine wq_seq ?_
          refine wc_ret ?_
          refine wq_then_ret ?_
          refine wq_end1 (.inl rfl) Try.results6 rfl ?_
          exact ⟨by simp; try omega, H4.base⟩
      · (try simp only [beq_iff_eq, bne_iff_ne, ne_eq, decide_eq_true_eq, decide_eq_false_iff_not, beq_eq_false_iff_ne, bne_eq_false_iff_eq, Bool.not_eq_true', Bool.not_eq_false', Bool.not_eq_eq_eq_not, Bool.not_true, Bool.not_false, gt_iff_lt, ge_iff_le, Int.not_lt, Int.not_le] at h4)
        try (exfalso; first | contradiction | omega)
        all_goals
          refine wl_no rfl rfl rfl (by decide) ?_
          refine wl_no rfl rfl rfl (by decide) ?_
          refine wl_no rfl rfl rfl (by decide) ?_
          refine wl_val (r_pick_f rfl rfl) (by decide) ?_
          refine wl_val (r_assign rfl) (by decide) ?_
          refine wl_nil ?_
          refine wq_seq ?_
          refine wc_ret ?_
          refine wq_then_ret ?_
          refine wq_end1 (.inl rfl) Try.results6 rfl ?_
          exact ⟨by simp; try omega, H4.base⟩
theorem killring_round {w : World} {v : Value} {vs : List Value} {ls : List (List Int)} (back : Bool) (g2 : Rd w 1 v ls.length vs) (g3 : ∀ k, k < ls.length → RdI w .i32 (vs.getD k undef) (ls.getD k [])) :
    Ret Try.prog 6 #[v, .bool back] w fun v w' => v = .bool true ∧ Below w.heap.size w w' := by
  by_cases hbad : 60 < ls.length ∨ ∃ k, k < ls.length ∧ 1024 < (ls.getD k []).length
  · exact killring_round_bad back g2 g3 hbad
  · have hg : ls.length ≤ 60 ∧ ∀ k, k < ls.length → (ls.getD k []).length ≤ 1024 := ⟨by omega, fun k hk => Nat.le_of_not_lt fun h => hbad (.inr ⟨k, hk, h⟩)⟩
    cases back
    · exact killring_round_on g2 g3 hg
    · exact killring_round_back g2 g3 hg
end Go.Proofs.Ytkjkfbkapingbaa
