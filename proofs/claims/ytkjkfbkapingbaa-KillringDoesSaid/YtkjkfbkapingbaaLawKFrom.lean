/- KillringFrom, walked. -/
import Derived.Test.YtkjkfbkapingbaaTold
import Derived.Test.YtkjkfbkapingbaaLive
import Derived.Test.YtkjkfbkapingbaaFrom
import Derived.Test.YtkjkfbkapingbaaRefRing
set_option linter.unusedSimpArgs false
set_option linter.unusedVariables false
namespace Go.Proofs.Ytkjkfbkapingbaa
open Go.RowKit
section
variable {w0 w : World} {F : HP} {v : Value} {vs : List Value} {ls : List (List Int)}
def BadFrom (ls : List (List Int)) : Prop := 60 < ls.length ∨ ∃ k, k < ls.length ∧ 1024 < (ls.getD k []).length
theorem not_bad {ls : List (List Int)} (h : ¬ BadFrom ls) : ls.length ≤ 60 ∧ ∀ k, k < ls.length → (ls.getD k []).length ≤ 1024 :=
  ⟨by rcases Nat.lt_or_ge 60 ls.length with h1 | h1; exact absurd (.inl h1) h; exact h1, fun k hk => by rcases Nat.lt_or_ge 1024 (ls.getD k []).length with h1 | h1; exact absurd (.inr ⟨k, hk, h1⟩) h; exact h1⟩
theorem rring_from_bad (H : Holds w0 w F) (hv : FRd w0 F 1 v ls.length vs) (hls : ∀ k, k < ls.length → FRdI w0 F .i32 (vs.getD k undef) (ls.getD k [])) (hbad : BadFrom ls) :
    Ret Try.prog 23 #[v] w fun v' w' => v' = .tuple #[.pointer none, .int .i64 3] ∧ Holds w0 w' F :=
  (rring_from_ret H hv hls).mono fun v w' h => by
    rcases h with ⟨_, h⟩ | ⟨⟨h1, h2⟩, _⟩
    · exact h
    · rcases hbad with hb | ⟨k, hk, hb⟩
      · omega
      · have := h2 k hk; omega
theorem rring_from_good (H : Holds w0 w F) (hv : FRd w0 F 1 v ls.length vs) (hls : ∀ k, k < ls.length → FRdI w0 F .i32 (vs.getD k undef) (ls.getD k [])) (hg : ¬ BadFrom ls) :
    Ret Try.prog 23 #[v] w fun v' w' => ∃ p, v' = .tuple #[.pointer (some ⟨p, 0, none⟩), .int .i64 0] ∧ Holds w0 w' (RefRing p ls 0 • F) :=
  (rring_from_ret H hv hls).mono fun v w' h => by
    rcases h with ⟨h, _⟩ | ⟨_, h⟩
    · exact absurd h hg
    · exact h
end
theorem killring_from {w : World} {v : Value} {vs : List Value} {ls : List (List Int)} (g2 : Rd w 1 v ls.length vs) (g3 : ∀ k, k < ls.length → RdI w .i32 (vs.getD k undef) (ls.getD k [])) :
    Ret Try.prog 7 #[v] w fun v w' => v = .bool true ∧ Below w.heap.size w w' := by
  obtain ⟨F, H⟩ : ∃ F, Holds w w F := ⟨_, Holds.start w⟩
  have hv : FRd w F 1 v ls.length vs := FRd.of_start g2 F
  have hls : ∀ k, k < ls.length → FRdI w F .i32 (vs.getD k undef) (ls.getD k []) := fun k hk => FRdI.of_start (g3 k hk) F
  by_cases hgood : BadFrom ls
  · have hbad := hgood
    refine ret_enter Try.func7 rfl Try.ntmps7 (Nat.le_of_ble_eq_true rfl) ?_
    dsimp only [slots0, Nat.reduceAdd]
    refine wc_seq ?_
    refine wc_region ?_
    refine wl_val (r_assign rfl) (ltn rfl) ?_
    refine wl_nil ?_
    refine wq_seq ?_
    refine wc_seq ?_
    refine wc_region ?_
    refine wl_val (r_move rfl) (ltn rfl) ?_
    refine wl_eff (e_call (r_call rfl Try.func22 rfl rfl) (ring_from_bad H (fun W HW => hv _ (HW)) (fun k hk W HW => hls k hk _ (HW)) hbad)) (ltn rfl) ?_
    rintro _ w1 ⟨rfl, H1⟩
    refine wl_val (r_move rfl) (ltn rfl) ?_
    refine wl_val (r_extract rfl rfl) (ltn rfl) ?_
    refine wl_val (r_extract rfl rfl) (ltn rfl) ?_
    refine wl_val (r_assign rfl) (ltn rfl) ?_
    refine wl_val (r_assign rfl) (ltn rfl) ?_
    refine wl_nil ?_
    refine wq_seq ?_
    refine wc_seq ?_
    refine wc_region ?_
    refine wl_val (r_move rfl) (ltn rfl) ?_
    refine wl_eff (e_call (r_call rfl Try.func23 rfl rfl) (rring_from_bad H1 (fun W HW => hv _ (HW)) (fun k hk W HW => hls k hk _ (HW)) hbad)) (ltn rfl) ?_
    rintro _ w2 ⟨rfl, H2⟩
    refine wl_val (r_move rfl) (ltn rfl) ?_
    refine wl_val (r_extract rfl rfl) (ltn rfl) ?_
    refine wl_val (r_extract rfl rfl) (ltn rfl) ?_
    refine wl_val (r_assign rfl) (ltn rfl) ?_
    refine wl_val (r_assign rfl) (ltn rfl) ?_
    refine wl_nil ?_
    refine wq_seq ?_
    refine wc_seq ?_
    refine wc_seq ?_
    refine wc_region ?_
    refine wl_eff (e_call (r_call rfl Try.func10 rfl rfl) (live_ret H2)) (ltn rfl) ?_
    rintro _ w3 ⟨rfl, H3⟩
    refine wl_val (r_not rfl) (ltn rfl) ?_
    refine wl_split rfl (ltn rfl) (fun h1 => ?_) (fun h1 => ?_)
    · (try simp only [beq_iff_eq, bne_iff_ne, ne_eq, decide_eq_true_eq, decide_eq_false_iff_not, beq_eq_false_iff_ne, bne_eq_false_iff_eq, Bool.not_eq_true', Bool.not_eq_false', Bool.not_eq_eq_eq_not, Bool.not_true, Bool.not_false, gt_iff_lt, ge_iff_le, Int.not_lt, Int.not_le] at h1)
      try (exfalso; first | contradiction | omega)
      all_goals
        refine wl_no rfl rfl rfl (ltn rfl) ?_
        refine wl_no rfl rfl rfl (ltn rfl) ?_
        refine wl_no rfl rfl rfl (ltn rfl) ?_
        refine wl_val (r_pick_t rfl rfl) (ltn rfl) ?_
        refine wl_val (r_move rfl) (ltn rfl) ?_
        refine wl_no rfl rfl rfl (ltn rfl) ?_
        refine wl_no rfl rfl rfl (ltn rfl) ?_
        refine wl_no rfl rfl rfl (ltn rfl) ?_
        refine wl_no rfl rfl rfl (ltn rfl) ?_
        refine wl_no rfl rfl rfl (ltn rfl) ?_
        refine wl_val (r_pick_t rfl rfl) (ltn rfl) ?_
        refine wl_nil ?_
        refine wq_seq ?_
        refine wc_cond_t rfl ?_
        refine wc_seq ?_
        refine wc_region ?_
        refine wl_val (r_assign rfl) (ltn rfl) ?_
        refine wl_nil ?_
        refine wq_seq ?_
        refine wc_ret ?_
        refine wq_then_ret ?_
        refine wq_end1 (.inl rfl) Try.results7 rfl ?_
        exact ⟨rfl, H3.base⟩
    · (try simp only [beq_iff_eq, bne_iff_ne, ne_eq, decide_eq_true_eq, decide_eq_false_iff_not, beq_eq_false_iff_ne, bne_eq_false_iff_eq, Bool.not_eq_true', Bool.not_eq_false', Bool.not_eq_eq_eq_not, Bool.not_true, Bool.not_false, gt_iff_lt, ge_iff_le, Int.not_lt, Int.not_le] at h1)
      try (exfalso; first | contradiction | omega)
      all_goals
        refine wl_yes rfl rfl ?_
        refine wl_val (r_move rfl) (ltn rfl) ?_
        refine wl_yes rfl rfl ?_
        refine wl_val (r_move rfl) (ltn rfl) ?_
        refine wl_yes rfl rfl ?_
        refine wl_val (r_neq rfl rfl) (ltn rfl) ?_
        refine wl_val (r_pick_f rfl rfl) (ltn rfl) ?_
        refine wl_split rfl (ltn rfl) (fun h => by exfalso; (try simp only [beq_iff_eq, bne_iff_ne, ne_eq, decide_eq_true_eq, decide_eq_false_iff_not, beq_eq_false_iff_ne, bne_eq_false_iff_eq, Bool.not_eq_true', Bool.not_eq_false', Bool.not_eq_eq_eq_not, Bool.not_true, Bool.not_false, gt_iff_lt, ge_iff_le, Int.not_lt, Int.not_le] at h); simp at h) (fun h2 => ?_)
        (try simp only [beq_iff_eq, bne_iff_ne, ne_eq, decide_eq_true_eq, decide_eq_false_iff_not, beq_eq_false_iff_ne, bne_eq_false_iff_eq, Bool.not_eq_true', Bool.not_eq_false', Bool.not_eq_eq_eq_not, Bool.not_true, Bool.not_false, gt_iff_lt, ge_iff_le, Int.not_lt, Int.not_le] at h2)
        refine wl_yes rfl rfl ?_
        refine wl_val (r_move rfl) (ltn rfl) ?_
        refine wl_yes rfl rfl ?_
        refine wl_val (r_ptr_nnil Try.underlying24 rfl rfl) (ltn rfl) ?_
        refine wl_yes rfl rfl ?_
        refine wl_val (r_move rfl) (ltn rfl) ?_
        refine wl_yes rfl rfl ?_
        refine wl_val (r_eql rfl rfl) (ltn rfl) ?_
        refine wl_yes rfl rfl ?_
        refine wl_val (r_neq_bool Try.underlying4 rfl rfl) (ltn rfl) ?_
        refine wl_val (r_pick_f rfl rfl) (ltn rfl) ?_
        refine wl_nil ?_
        refine wq_seq ?_
        refine wc_cond rfl (fun h => by exfalso; (try simp only [beq_iff_eq, bne_iff_ne, ne_eq, decide_eq_true_eq, decide_eq_false_iff_not, beq_eq_false_iff_ne, bne_eq_false_iff_eq, Bool.not_eq_true', Bool.not_eq_false', Bool.not_eq_eq_eq_not, Bool.not_true, Bool.not_false, gt_iff_lt, ge_iff_le, Int.not_lt, Int.not_le] at h); simp at h) (fun h3 => ?_)
        (try simp only [beq_iff_eq, bne_iff_ne, ne_eq, decide_eq_true_eq, decide_eq_false_iff_not, beq_eq_false_iff_ne, bne_eq_false_iff_eq, Bool.not_eq_true', Bool.not_eq_false', Bool.not_eq_eq_eq_not, Bool.not_true, Bool.not_false, gt_iff_lt, ge_iff_le, Int.not_lt, Int.not_le] at h3)
        refine wc_skip ?_
        refine wq_seq ?_
        refine wc_seq ?_
        refine wc_region ?_
        refine wl_val (r_move rfl) (ltn rfl) ?_
        refine wl_val (r_ptr_nil Try.underlying24 rfl rfl) (ltn rfl) ?_
        refine wl_split rfl (ltn rfl) (fun h4 => ?_) (fun h => by exfalso; (try simp only [beq_iff_eq, bne_iff_ne, ne_eq, decide_eq_true_eq, decide_eq_false_iff_not, beq_eq_false_iff_ne, bne_eq_false_iff_eq, Bool.not_eq_true', Bool.not_eq_false', Bool.not_eq_eq_eq_not, Bool.not_true, Bool.not_false, gt_iff_lt, ge_iff_le, Int.not_lt, Int.not_le] at h); simp at h)
        (try simp only [beq_iff_eq, bne_iff_ne, ne_eq, decide_eq_true_eq, decide_eq_false_iff_not, beq_eq_false_iff_ne, bne_eq_false_iff_eq, Bool.not_eq_true', Bool.not_eq_false', Bool.not_eq_eq_eq_not, Bool.not_true, Bool.not_false, gt_iff_lt, ge_iff_le, Int.not_lt, Int.not_le] at h4)
        refine wl_no rfl rfl rfl (ltn rfl) ?_
        refine wl_no rfl rfl rfl (ltn rfl) ?_
        refine wl_no rfl rfl rfl (ltn rfl) ?_
        refine wl_no rfl rfl rfl (ltn rfl) ?_
        refine wl_no rfl rfl rfl (ltn rfl) ?_
        refine wl_no rfl rfl rfl (ltn rfl) ?_
        refine wl_val (r_pick_t rfl rfl) (ltn rfl) ?_
        refine wl_val (r_assign rfl) (ltn rfl) ?_
        refine wl_nil ?_
        refine wq_seq ?_
        refine wc_ret ?_
        refine wq_end1 (.inl rfl) Try.results7 rfl ?_
        exact ⟨rfl, H3.base⟩
  · skip
    refine ret_enter Try.func7 rfl Try.ntmps7 (Nat.le_of_ble_eq_true rfl) ?_
    dsimp only [slots0, Nat.reduceAdd]
    refine wc_seq ?_
    refine wc_region ?_
    refine wl_val (r_assign rfl) (ltn rfl) ?_
    refine wl_nil ?_
    refine wq_seq ?_
    refine wc_seq ?_
    refine wc_region ?_
    refine wl_val (r_move rfl) (ltn rfl) ?_
    refine wl_eff (e_call (r_call rfl Try.func22 rfl rfl) (ring_from_good H (fun W HW => hv _ (HW)) (fun k hk W HW => hls k hk _ (HW)) (not_bad hgood).1 (not_bad hgood).2)) (ltn rfl) ?_
    rintro _ w1 ⟨p1, rfl, H1⟩
    refine wl_val (r_move rfl) (ltn rfl) ?_
    refine wl_val (r_extract rfl rfl) (ltn rfl) ?_
    refine wl_val (r_extract rfl rfl) (ltn rfl) ?_
    refine wl_val (r_assign rfl) (ltn rfl) ?_
    refine wl_val (r_assign rfl) (ltn rfl) ?_
    refine wl_nil ?_
    refine wq_seq ?_
    refine wc_seq ?_
    refine wc_region ?_
    refine wl_val (r_move rfl) (ltn rfl) ?_
    refine wl_eff (e_call (r_call rfl Try.func23 rfl rfl) (rring_from_good H1 (fun W HW => hv _ (HW.right)) (fun k hk W HW => hls k hk _ (HW.right)) hgood)) (ltn rfl) ?_
    rintro _ w2 ⟨p2, rfl, H2⟩
    refine wl_val (r_move rfl) (ltn rfl) ?_
    refine wl_val (r_extract rfl rfl) (ltn rfl) ?_
    refine wl_val (r_extract rfl rfl) (ltn rfl) ?_
    refine wl_val (r_assign rfl) (ltn rfl) ?_
    refine wl_val (r_assign rfl) (ltn rfl) ?_
    refine wl_nil ?_
    refine wq_seq ?_
    refine wc_seq ?_
    refine wc_seq ?_
    refine wc_region ?_
    refine wl_eff (e_call (r_call rfl Try.func10 rfl rfl) (live_ret H2)) (ltn rfl) ?_
    rintro _ w3 ⟨rfl, H3⟩
    refine wl_val (r_not rfl) (ltn rfl) ?_
    refine wl_split rfl (ltn rfl) (fun h1 => ?_) (fun h1 => ?_)
    · (try simp only [beq_iff_eq, bne_iff_ne, ne_eq, decide_eq_true_eq, decide_eq_false_iff_not, beq_eq_false_iff_ne, bne_eq_false_iff_eq, Bool.not_eq_true', Bool.not_eq_false', Bool.not_eq_eq_eq_not, Bool.not_true, Bool.not_false, gt_iff_lt, ge_iff_le, Int.not_lt, Int.not_le] at h1)
      try (exfalso; first | contradiction | omega)
      all_goals
        refine wl_no rfl rfl rfl (ltn rfl) ?_
        refine wl_no rfl rfl rfl (ltn rfl) ?_
        refine wl_no rfl rfl rfl (ltn rfl) ?_
        refine wl_val (r_pick_t rfl rfl) (ltn rfl) ?_
        refine wl_val (r_move rfl) (ltn rfl) ?_
        refine wl_no rfl rfl rfl (ltn rfl) ?_
        refine wl_no rfl rfl rfl (ltn rfl) ?_
        refine wl_no rfl rfl rfl (ltn rfl) ?_
        refine wl_no rfl rfl rfl (ltn rfl) ?_
        refine wl_no rfl rfl rfl (ltn rfl) ?_
        refine wl_val (r_pick_t rfl rfl) (ltn rfl) ?_
        refine wl_nil ?_
        refine wq_seq ?_
        refine wc_cond_t rfl ?_
        refine wc_seq ?_
        refine wc_region ?_
        refine wl_val (r_assign rfl) (ltn rfl) ?_
        refine wl_nil ?_
        refine wq_seq ?_
        refine wc_ret ?_
        refine wq_then_ret ?_
        refine wq_end1 (.inl rfl) Try.results7 rfl ?_
        exact ⟨rfl, H3.base⟩
    · (try simp only [beq_iff_eq, bne_iff_ne, ne_eq, decide_eq_true_eq, decide_eq_false_iff_not, beq_eq_false_iff_ne, bne_eq_false_iff_eq, Bool.not_eq_true', Bool.not_eq_false', Bool.not_eq_eq_eq_not, Bool.not_true, Bool.not_false, gt_iff_lt, ge_iff_le, Int.not_lt, Int.not_le] at h1)
      try (exfalso; first | contradiction | omega)
      all_goals
        refine wl_yes rfl rfl ?_
        refine wl_val (r_move rfl) (ltn rfl) ?_
        refine wl_yes rfl rfl ?_
        refine wl_val (r_move rfl) (ltn rfl) ?_
        refine wl_yes rfl rfl ?_
        refine wl_val (r_neq rfl rfl) (ltn rfl) ?_
        refine wl_val (r_pick_f rfl rfl) (ltn rfl) ?_
        refine wl_split rfl (ltn rfl) (fun h => by exfalso; (try simp only [beq_iff_eq, bne_iff_ne, ne_eq, decide_eq_true_eq, decide_eq_false_iff_not, beq_eq_false_iff_ne, bne_eq_false_iff_eq, Bool.not_eq_true', Bool.not_eq_false', Bool.not_eq_eq_eq_not, Bool.not_true, Bool.not_false, gt_iff_lt, ge_iff_le, Int.not_lt, Int.not_le] at h); simp at h) (fun h2 => ?_)
        (try simp only [beq_iff_eq, bne_iff_ne, ne_eq, decide_eq_true_eq, decide_eq_false_iff_not, beq_eq_false_iff_ne, bne_eq_false_iff_eq, Bool.not_eq_true', Bool.not_eq_false', Bool.not_eq_eq_eq_not, Bool.not_true, Bool.not_false, gt_iff_lt, ge_iff_le, Int.not_lt, Int.not_le] at h2)
        refine wl_yes rfl rfl ?_
        refine wl_val (r_move rfl) (ltn rfl) ?_
        refine wl_yes rfl rfl ?_
        refine wl_val (r_ptr_nnil Try.underlying24 rfl rfl) (ltn rfl) ?_
        refine wl_yes rfl rfl ?_
        refine wl_val (r_move rfl) (ltn rfl) ?_
        refine wl_yes rfl rfl ?_
        refine wl_val (r_eql rfl rfl) (ltn rfl) ?_
        refine wl_yes rfl rfl ?_
        refine wl_val (r_neq_bool Try.underlying4 rfl rfl) (ltn rfl) ?_
        refine wl_val (r_pick_f rfl rfl) (ltn rfl) ?_
        refine wl_nil ?_
        refine wq_seq ?_
        refine wc_cond rfl (fun h => by exfalso; (try simp only [beq_iff_eq, bne_iff_ne, ne_eq, decide_eq_true_eq, decide_eq_false_iff_not, beq_eq_false_iff_ne, bne_eq_false_iff_eq, Bool.not_eq_true', Bool.not_eq_false', Bool.not_eq_eq_eq_not, Bool.not_true, Bool.not_false, gt_iff_lt, ge_iff_le, Int.not_lt, Int.not_le] at h); simp at h) (fun h3 => ?_)
        (try simp only [beq_iff_eq, bne_iff_ne, ne_eq, decide_eq_true_eq, decide_eq_false_iff_not, beq_eq_false_iff_ne, bne_eq_false_iff_eq, Bool.not_eq_true', Bool.not_eq_false', Bool.not_eq_eq_eq_not, Bool.not_true, Bool.not_false, gt_iff_lt, ge_iff_le, Int.not_lt, Int.not_le] at h3)
        refine wc_skip ?_
        refine wq_seq ?_
        refine wc_seq ?_
        obtain ⟨u, HU⟩ := H3.rring
        obtain ⟨us, HU⟩ := HU.swap.ll
        refine wc_region ?_
        refine wl_val (r_move rfl) (ltn rfl) ?_
        refine wl_val (r_ptr_nil Try.underlying24 rfl rfl) (ltn rfl) ?_
        refine wl_split rfl (ltn rfl) (fun h => by exfalso; (try simp only [beq_iff_eq, bne_iff_ne, ne_eq, decide_eq_true_eq, decide_eq_false_iff_not, beq_eq_false_iff_ne, bne_eq_false_iff_eq, Bool.not_eq_true', Bool.not_eq_false', Bool.not_eq_eq_eq_not, Bool.not_true, Bool.not_false, gt_iff_lt, ge_iff_le, Int.not_lt, Int.not_le] at h); simp at h) (fun h4 => ?_)
        (try simp only [beq_iff_eq, bne_iff_ne, ne_eq, decide_eq_true_eq, decide_eq_false_iff_not, beq_eq_false_iff_ne, bne_eq_false_iff_eq, Bool.not_eq_true', Bool.not_eq_false', Bool.not_eq_eq_eq_not, Bool.not_true, Bool.not_false, gt_iff_lt, ge_iff_le, Int.not_lt, Int.not_le] at h4)
        refine wl_yes rfl rfl ?_
        refine wl_val (r_move rfl) (ltn rfl) ?_
        refine wl_yes rfl rfl ?_
        refine wl_val (r_move rfl) (ltn rfl) ?_
        refine wl_yes rfl rfl ?_
        refine wl_val (r_nil rfl) (ltn rfl) ?_
        refine wl_yes rfl rfl ?_
        refine wl_val ((by first | exact r_field0 0 Try.underlying48 rfl rfl Try.sizeOf23 (by decide) rfl | exact r_field 0 Try.underlying48 rfl rfl Try.sizeOf23 (by decide) rfl)) (ltn rfl) ?_
        refine wl_yes rfl rfl ?_
        refine wl_val (r_load (plain_of Try.underlying23 rfl) rfl (cell_of_blk (HU.f3).get.2 rfl)) (ltn rfl) ?_
        refine wl_yes rfl rfl ?_
        refine wl_eff (e_call (r_call rfl Try.func21 rfl rfl) (told_ret HU.f4 (fun W HW => (HW).row_rd) (fun k hk W HW => (HW.f2).imms_rd hk))) (ltn rfl) ?_
        rintro _ w4 ⟨rfl, H4⟩
        refine wl_val (r_pick_f rfl rfl) (ltn rfl) ?_
        refine wl_val (r_assign rfl) (ltn rfl) ?_
        refine wl_nil ?_
        refine wq_seq ?_
        refine wc_ret ?_
        refine wq_end1 (.inl rfl) Try.results7 rfl ?_
        exact ⟨rfl, H4.base⟩
end Go.Proofs.Ytkjkfbkapingbaa
