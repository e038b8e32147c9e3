/- The document's ring. -/
import Derived.Test.YtkjkfbkapingbaaLL
import Derived.Test.YtkjkfbkapingbaaSlices
import Derived.Test.YtkjkfbkapingbaaRing3
set_option linter.unusedSimpArgs false
set_option linter.unusedVariables false
namespace Go.Proofs.Ytkjkfbkapingbaa
open Go.RowKit
section
variable {w0 w : World} {F : HP} {p place : Nat} {E ls : List (List Int)} {v x y : Value} {l m : List Int} {vs : List Value}
theorem both_ret (H : Holds w0 w F) (h1 : FRdI w0 F .i32 x l) (h2 : FRdI w0 F .i32 y m) (hb : l.length + m.length ≤ 35184372088832) :
    Ret Try.prog 30 #[x, y] w fun v w' => Holds w0 w' (RowI 21 .i32 v (l ++ m) • F) := by
  refine ret_enter Try.func30 rfl Try.ntmps30 (Nat.le_of_ble_eq_true rfl) ?_
  dsimp only [slots0, Nat.reduceAdd]
  refine wc_seq ?_
  refine wc_region ?_
  refine wl_val (r_assign rfl) (ltn rfl) ?_
  refine wl_nil ?_
  refine wq_seq ?_
  refine wc_seq ?_
  refine wc_region ?_
  refine wl_val (r_assign rfl) (ltn rfl) ?_
  refine wl_nil ?_
  refine wq_seq ?_
  refine wc_seq ?_
  refine wc_region ?_
  refine wl_val (r_move rfl) (ltn rfl) ?_
  refine wl_val (r_move rfl) (ltn rfl) ?_
  refine wl_eff (e_append_ints (l := []) (H.row_nil none) (h1 _ (H)) Try.underlying22 (show (Try.prog.info? 21).map (fun i => (i.zero, i.size, i.bytes)) = some (some (.int .i32 0), 1, 4) by kernel_rfl) rfl rfl (by first | omega | (simp only [List.length_append, List.length_nil, List.length_cons]; omega) | (simp; omega)) (by first | omega | (simp only [List.length_append, List.length_nil, List.length_cons]; omega) | (simp; omega))) (ltn rfl) ?_
  rintro l1 w1 H1
  try simp only [List.nil_append] at H1
  refine wl_val (r_assign rfl) (ltn rfl) ?_
  refine wl_nil ?_
  refine wq_seq ?_
  refine wc_seq ?_
  refine wc_region ?_
  refine wl_val (r_move rfl) (ltn rfl) ?_
  refine wl_val (r_move rfl) (ltn rfl) ?_
  refine wl_eff (e_append_ints H1 (h2 _ (H1.right)) Try.underlying22 (show (Try.prog.info? 21).map (fun i => (i.zero, i.size, i.bytes)) = some (some (.int .i32 0), 1, 4) by kernel_rfl) rfl rfl (by first | omega | (simp only [List.length_append, List.length_nil, List.length_cons]; omega) | (simp; omega)) (by first | omega | (simp only [List.length_append, List.length_nil, List.length_cons]; omega) | (simp; omega))) (ltn rfl) ?_
  rintro l2 w2 H2
  try simp only [List.nil_append] at H2
  refine wl_val (r_assign rfl) (ltn rfl) ?_
  refine wl_nil ?_
  refine wq_seq ?_
  refine wc_ret ?_
  refine wq_end1 (.inl rfl) Try.results30 rfl ?_
  simpa using H2
theorem both1_ret (H : Holds w0 w F) (h1 : FRdI w0 F .i32 x l) (hb : l.length ≤ 35184372088832) :
    Ret Try.prog 30 #[x, .slice none 0 0] w fun v w' => Holds w0 w' (RowI 21 .i32 v l • F) := by
  have := both_ret H h1 (fun W _ => RdI.nil W .i32 none 0 (by decide)) (by simpa using hb)
  simpa using this
/-- The document's ring at p: its entries, its place. -/
def RefRing (p : Nat) (E : List (List Int)) (place : Nat) : HP := exHP fun v => blk p (.cells #[v, .int .i64 place] 48 (0, 0)) • LL 22 .i32 v E
theorem Holds.rring (H : Holds w0 w (RefRing p E place • F)) : ∃ v, Holds w0 w (blk p (.cells #[v, .int .i64 place] 48 (0, 0)) • LL 22 .i32 v E • F) := let ⟨v, h⟩ := H.ex_sep; ⟨v, h.flat⟩
theorem Holds.mk_rring (H : Holds w0 w (blk p (.cells #[v, .int .i64 place] 48 (0, 0)) • LL 22 .i32 v E • F)) : Holds w0 w (RefRing p E place • F) := Holds.mk_ex_sep v H.deep
theorem lt_succ_all {p : Nat → Prop} {k : Nat} (h : ∀ j, j < k → p j) (hk : p k) : ∀ j, j < k + 1 → p j := fun j hj => (Nat.lt_succ_iff_lt_or_eq.1 hj).elim (h j) fun e => e ▸ hk
theorem take_succ_getD {α : Type _} {l : List α} {k : Nat} {d : α} (h : k < l.length) : l.take (k + 1) = l.take k ++ [l.getD k d] := by rw [List.take_succ_eq_append_getElem h, List.getD_eq_getElem?_getD, List.getElem?_eq_getElem h]; rfl
theorem rring_from_ret (H : Holds w0 w F) (hv : FRd w0 F 1 v ls.length vs) (hls : ∀ k, k < ls.length → FRdI w0 F .i32 (vs.getD k undef) (ls.getD k [])) :
    Ret Try.prog 23 #[v] w fun v' w' => ((60 < ls.length ∨ ∃ k, k < ls.length ∧ 1024 < (ls.getD k []).length) ∧ v' = .tuple #[.pointer none, .int .i64 3] ∧ Holds w0 w' F) ∨
      ((ls.length ≤ 60 ∧ ∀ k, k < ls.length → (ls.getD k []).length ≤ 1024) ∧ ∃ p, v' = .tuple #[.pointer (some ⟨p, 0, none⟩), .int .i64 0] ∧ Holds w0 w' (RefRing p ls 0 • F)) := by
  obtain ⟨_, a, c, rfl, hc1, hc2, _⟩ := hv w H
  refine ret_enter Try.func23 rfl Try.ntmps23 (Nat.le_of_ble_eq_true rfl) ?_
  dsimp only [slots0, Nat.reduceAdd]
  refine wc_seq ?_
  refine wc_region ?_
  refine wl_val (r_assign rfl) (ltn rfl) ?_
  refine wl_val (r_assign rfl) (ltn rfl) ?_
  refine wl_nil ?_
  refine wq_seq ?_
  refine wc_seq ?_
  refine wc_seq ?_
  refine wc_region ?_
  refine wl_val (r_move rfl) (ltn rfl) ?_
  refine wl_val (r_lenS (hv _ (H)) Try.underlying23 rfl) (ltn rfl) ?_
  refine wl_val (r_gtr rfl rfl) (ltn rfl) ?_
  refine wl_nil ?_
  refine wq_seq ?_
  refine wc_cond rfl (fun h1 => ?_) (fun h1 => ?_)
  · (try simp only [beq_iff_eq, bne_iff_ne, ne_eq, decide_eq_true_eq, decide_eq_false_iff_not, beq_eq_false_iff_ne, bne_eq_false_iff_eq, Bool.not_eq_true', Bool.not_eq_false', Bool.not_eq_eq_eq_not, Bool.not_true, Bool.not_false, gt_iff_lt, ge_iff_le, Int.not_lt, Int.not_le] at h1)
    try (exfalso; first | contradiction | omega)
    all_goals
      
      refine wc_seq ?_
      refine wc_region ?_
      refine wl_val (r_assign rfl) (ltn rfl) ?_
      refine wl_val (r_assign rfl) (ltn rfl) ?_
      refine wl_nil ?_
      refine wq_seq ?_
      refine wc_ret ?_
      refine wq_then_ret ?_
      refine wq_end2 (.inl rfl) Try.results23 rfl rfl ?_
      exact .inl ⟨.inl (by omega), rfl, H⟩
  · (try simp only [beq_iff_eq, bne_iff_ne, ne_eq, decide_eq_true_eq, decide_eq_false_iff_not, beq_eq_false_iff_ne, bne_eq_false_iff_eq, Bool.not_eq_true', Bool.not_eq_false', Bool.not_eq_eq_eq_not, Bool.not_true, Bool.not_false, gt_iff_lt, ge_iff_le, Int.not_lt, Int.not_le] at h1)
    try (exfalso; first | contradiction | omega)
    all_goals
      
      refine wc_skip ?_
      refine wq_seq ?_
      refine wc_seq ?_
      refine wc_region ?_
      refine wl_val (r_assign rfl) (ltn rfl) ?_
      refine wl_nil ?_
      refine wq_seq ?_
      refine wc_seq ?_
      refine wc_seq ?_
      refine wc_region ?_
      refine wl_val (r_assign rfl) (ltn rfl) ?_
      refine wl_nil ?_
      refine wq_seq ?_
      refine wc_block ?_
      refine wc_loop [(0, _)] (fun (⟨k, u⟩ : Nat × Value) => [(4, u), (5, .int .i64 (k : Int))]) (fun (⟨k, u⟩ : Nat × Value) W => k ≤ ls.length ∧ (∀ j, j < k → (ls.getD j []).length ≤ 1024) ∧ ∃ us, Holds w0 W (Row 22 1 u k us • immsI .i32 us (ls.take k) • F)) (fun (⟨k, u⟩ : Nat × Value) => ls.length - k) ((0, .slice none 0 0)) (Sub.cons rfl (Sub.nil _)) (Sub.cons rfl (Sub.cons rfl (Sub.nil _))) ⟨by omega, fun j hj => by omega, [], H.imms_nil.row_nil none⟩ ?_
      rintro ⟨k, u⟩ w1 ⟨hk, hsm, us, HL⟩
      dsimp only [List.cons_append, List.nil_append]
      obtain ⟨au, cu, rfl, -⟩ := (HL.row_rd).form
      refine wc_seq ?_
      refine wc_seq ?_
      refine wc_region ?_
      refine wl_val (r_move rfl) (ltn rfl) ?_
      refine wl_val (r_move rfl) (ltn rfl) ?_
      refine wl_val (r_lenS (hv _ (HL.right.right)) Try.underlying23 rfl) (ltn rfl) ?_
      refine wl_val (r_lss rfl rfl) (ltn rfl) ?_
      refine wl_nil ?_
      refine wq_seq ?_
      refine wc_cond rfl (fun h2 => ?_) (fun h2 => ?_)
      · (try simp only [beq_iff_eq, bne_iff_ne, ne_eq, decide_eq_true_eq, decide_eq_false_iff_not, beq_eq_false_iff_ne, bne_eq_false_iff_eq, Bool.not_eq_true', Bool.not_eq_false', Bool.not_eq_eq_eq_not, Bool.not_true, Bool.not_false, gt_iff_lt, ge_iff_le, Int.not_lt, Int.not_le] at h2)
        try (exfalso; first | contradiction | omega)
        all_goals
          
          refine wc_skip ?_
          refine wq_seq ?_
          refine wc_seq ?_
          refine wc_block ?_
          refine wc_seq ?_
          refine wc_seq ?_
          refine wc_region ?_
          refine wl_val (r_move rfl) (ltn rfl) ?_
          refine wl_val (r_move rfl) (ltn rfl) ?_
          obtain ⟨bv, ov, cv, ev⟩ := Rd.posV (hv _ (HL.right.right)) (by omega)
          cases ev
          refine wl_val (r_index Try.underlying23 Try.sizeOf22 rfl rfl (by omega)) (ltn rfl) ?_
          refine wl_val (r_load (plain_of Try.underlying22 rfl) rfl (by first | exact Rd.at1n (hv _ (HL.right.right)) (by omega) | exact Rd.at0 (hv _ (HL.right.right)) (by omega) | exact Rd.at1 (hv _ (HL.right.right)) (by omega))) (ltn rfl) ?_
          refine wl_gen (fun x18_2 hx18_2 => ?_)
          refine wl_val (r_lenR ((by rw [hx18_2]; exact hls _ (by omega) _ (HL.right.right))) Try.underlying22 rfl) (ltn rfl) ?_
          refine wl_val (r_gtr rfl rfl) (ltn rfl) ?_
          refine wl_nil ?_
          refine wq_seq ?_
          refine wc_cond rfl (fun h3 => ?_) (fun h3 => ?_)
          · (try simp only [beq_iff_eq, bne_iff_ne, ne_eq, decide_eq_true_eq, decide_eq_false_iff_not, beq_eq_false_iff_ne, bne_eq_false_iff_eq, Bool.not_eq_true', Bool.not_eq_false', Bool.not_eq_eq_eq_not, Bool.not_true, Bool.not_false, gt_iff_lt, ge_iff_le, Int.not_lt, Int.not_le] at h3)
            try (exfalso; first | contradiction | omega)
            all_goals
              
              refine wc_seq ?_
              refine wc_region ?_
              refine wl_val (r_assign rfl) (ltn rfl) ?_
              refine wl_val (r_assign rfl) (ltn rfl) ?_
              refine wl_nil ?_
              refine wq_seq ?_
              refine wc_ret ?_
              refine wq_then_ret ?_
              refine wq_block_ret ?_
              refine wq_then_ret ?_
              refine wq_then_ret ?_
              refine wq_block_ret ?_
              refine wq_then_ret ?_
              refine wq_end2 (.inl rfl) Try.results23 rfl rfl ?_
              exact .inl ⟨.inr ⟨k, by omega, by omega⟩, rfl, HL.right.right⟩
          · (try simp only [beq_iff_eq, bne_iff_ne, ne_eq, decide_eq_true_eq, decide_eq_false_iff_not, beq_eq_false_iff_ne, bne_eq_false_iff_eq, Bool.not_eq_true', Bool.not_eq_false', Bool.not_eq_eq_eq_not, Bool.not_true, Bool.not_false, gt_iff_lt, ge_iff_le, Int.not_lt, Int.not_le] at h3)
            try (exfalso; first | contradiction | omega)
            all_goals
              
              refine wc_skip ?_
              refine wq_seq ?_
              refine wc_region ?_
              refine wl_val (r_move rfl) (ltn rfl) ?_
              refine wl_val (r_move rfl) (ltn rfl) ?_
              refine wl_val (r_move rfl) (ltn rfl) ?_
              refine wl_val (r_index Try.underlying23 Try.sizeOf22 rfl rfl (by omega)) (ltn rfl) ?_
              refine wl_val (r_load (plain_of Try.underlying22 rfl) rfl (by first | exact Rd.at1n (hv _ (HL.right.right)) (by omega) | exact Rd.at0 (hv _ (HL.right.right)) (by omega) | exact Rd.at1 (hv _ (HL.right.right)) (by omega))) (ltn rfl) ?_
              refine wl_gen (fun x25_3 hx25_3 => ?_)
              refine wl_eff (e_call (r_call rfl Try.func30 rfl rfl) (both1_ret HL (fun W HW => (by rw [hx25_3]; exact hls _ (by omega) _ (HW.right.right))) (by omega))) (ltn rfl) ?_
              rintro u4 w4 H4
              have Hf5 := H4.freezeI
              refine wl_eff (e_lit_row (vs := [_]) Hf5 Try.underlying23 Try.sizeOf22 Try.zeroValue22 rfl rfl rfl (by decide) (ones_cons (by first | rfl | exact Rd.one ((Hf5).imm_rd)) ones_nil)) (ltn rfl) ?_
              rintro l6 w6 H6
              refine wl_eff (e_append H6.f3 Try.underlying23 (show (Try.prog.info? 22).map (fun i => (i.zero, i.size, i.bytes)) = some (some (.slice none 0 0), 1, 24) by kernel_rfl) rfl rfl rfl ((H6).row_rd) (ones_cons (by first | rfl | exact Rd.one ((H6.f2).imm_rd)) ones_nil) (by omega) (by omega)) (ltn rfl) ?_
              rintro l7 w7 H7
              have Hd8 := H7.f2.right
              refine wl_val (r_assign rfl) (ltn rfl) ?_
              refine wl_nil ?_
              refine wq_block_normal ?_
              refine wq_seq ?_
              refine wc_region ?_
              refine wl_val (r_move rfl) (ltn rfl) ?_
              refine wl_val (r_add rfl rfl (by omega)) (ltn rfl) ?_
              refine wl_val (r_assign rfl) (ltn rfl) ?_
              refine wl_nil ?_
              have HS := (Hd8.f2.f3).imms_snoc.f2
              refine wq_round ((k + 1, l7)) ?_ ?_ ?_ ?_
              · exact (Sub.cons rfl (Sub.cons rfl (Sub.nil _)))
              · exact (Sub.cons rfl (Sub.nil _))
              · (try dsimp only)
                exact ⟨by omega, lt_succ_all hsm (by omega), _, by rw [take_succ_getD (d := []) (by omega)]; exact HS⟩
              · (try dsimp only); omega
      · (try simp only [beq_iff_eq, bne_iff_ne, ne_eq, decide_eq_true_eq, decide_eq_false_iff_not, beq_eq_false_iff_ne, bne_eq_false_iff_eq, Bool.not_eq_true', Bool.not_eq_false', Bool.not_eq_eq_eq_not, Bool.not_true, Bool.not_false, gt_iff_lt, ge_iff_le, Int.not_lt, Int.not_le] at h2)
        try (exfalso; first | contradiction | omega)
        all_goals
          
          refine wc_exit ?_
          refine wq_then_exit ?_
          refine wq_then_exit ?_
          refine wq_block_hit ?_
          refine wq_seq ?_
          refine wc_seq ?_
          refine wc_region ?_
          refine wl_val (r_move rfl) (ltn rfl) ?_
          refine wl_val (r_build (pl := #[(0, 1), (1, 1)]) (_) Try.underlying48 Try.zeroValue48 (fun w => by kernel_rfl) rfl (rfl)) (ltn rfl) ?_
          refine wl_eff (e_boxL (l := [_, _]) HL rfl rfl) (ltn rfl) ?_
          rintro _ w9 ⟨b9, rfl, H9⟩
          refine wl_val (r_assign rfl) (ltn rfl) ?_
          refine wl_val (r_assign rfl) (ltn rfl) ?_
          refine wl_nil ?_
          refine wq_seq ?_
          refine wc_ret ?_
          refine wq_end2 (.inl rfl) Try.results23 rfl rfl ?_
          have HL2 := Holds.mk_ll' (H9.f3.f3)
          rw [List.take_of_length_le (by omega)] at HL2
          exact .inr ⟨⟨by omega, fun j hj => hsm j (by omega)⟩, _, rfl, Holds.mk_rring HL2.f2⟩
theorem rring_kill_ret {way : Int} {v : Value} (H : Holds w0 w (RefRing p E place • F)) (hr : FRdI w0 F .i32 v l) (hE : E.length ≤ 60) (hE2 : ∀ e ∈ E, e.length ≤ 1024) (hp : place < E.length ∨ place = 0) :
    Ret Try.prog 18 #[.pointer (some ⟨p, 0, none⟩), .int .i64 way, v] w fun v' w' => v' = .int .i64 (killM E place way l).1 ∧ Holds w0 w' (RefRing p (killM E place way l).2.1 (killM E place way l).2.2 • F) := by
  obtain ⟨u, HR⟩ := H.rring
  obtain ⟨us, HR⟩ := HR.swap.ll
  obtain ⟨au, cu, rfl, -⟩ := (HR.row_rd).form
  obtain ⟨a, c, rfl, _, _, _⟩ := (hr w H.right).open
  have hE0 : 0 < E.length → (E.getD 0 []).length ≤ 1024 := fun h => hE2 _ (getD_mem' h)
  refine ret_enter Try.func18 rfl Try.ntmps18 (Nat.le_of_ble_eq_true rfl) ?_
  dsimp only [slots0, Nat.reduceAdd]
  refine wc_seq ?_
  refine wc_region ?_
  refine wl_val (r_assign rfl) (ltn rfl) ?_
  refine wl_nil ?_
  refine wq_seq ?_
  refine wc_seq ?_
  refine wc_seq ?_
  refine wc_region ?_
  refine wl_val (r_move rfl) (ltn rfl) ?_
  refine wl_val (r_lss rfl rfl) (ltn rfl) ?_
  refine wl_split rfl (ltn rfl) (fun h1 => ?_) (fun h1 => ?_)
  · (try simp only [beq_iff_eq, bne_iff_ne, ne_eq, decide_eq_true_eq, decide_eq_false_iff_not, beq_eq_false_iff_ne, bne_eq_false_iff_eq, Bool.not_eq_true', Bool.not_eq_false', Bool.not_eq_eq_eq_not, Bool.not_true, Bool.not_false, gt_iff_lt, ge_iff_le, Int.not_lt, Int.not_le] at h1)
    try (exfalso; first | contradiction | omega)
    all_goals
      refine wl_no rfl rfl rfl (ltn rfl) ?_
      refine wl_no rfl rfl rfl (ltn rfl) ?_
      refine wl_val (r_pick_t rfl rfl) (ltn rfl) ?_
      refine wl_nil ?_
      refine wq_seq ?_
      refine wc_cond_t rfl ?_
      refine wc_seq ?_
      refine wc_region ?_
      refine wl_val (r_assign rfl) (ltn rfl) ?_
      refine wl_nil ?_
      refine wq_seq ?_
      refine wc_ret ?_
      refine wq_then_ret ?_
      refine wq_end1 (.inl rfl) Try.results18 rfl ?_
      have hK : killM E place way l = (1, E, place) := by unfold killM; rw [if_pos (by omega)]
      rw [hK]
      exact ⟨rfl, Holds.mk_rring (Holds.mk_ll' (HR.f3.f3.f3)).f2⟩
  · (try simp only [beq_iff_eq, bne_iff_ne, ne_eq, decide_eq_true_eq, decide_eq_false_iff_not, beq_eq_false_iff_ne, bne_eq_false_iff_eq, Bool.not_eq_true', Bool.not_eq_false', Bool.not_eq_eq_eq_not, Bool.not_true, Bool.not_false, gt_iff_lt, ge_iff_le, Int.not_lt, Int.not_le] at h1)
    try (exfalso; first | contradiction | omega)
    all_goals
      refine wl_yes rfl rfl ?_
      refine wl_val (r_move rfl) (ltn rfl) ?_
      refine wl_yes rfl rfl ?_
      refine wl_val (r_gtr rfl rfl) (ltn rfl) ?_
      refine wl_val (r_pick_f rfl rfl) (ltn rfl) ?_
      refine wl_nil ?_
      refine wq_seq ?_
      refine wc_cond rfl (fun h2 => ?_) (fun h2 => ?_)
      · (try simp only [beq_iff_eq, bne_iff_ne, ne_eq, decide_eq_true_eq, decide_eq_false_iff_not, beq_eq_false_iff_ne, bne_eq_false_iff_eq, Bool.not_eq_true', Bool.not_eq_false', Bool.not_eq_eq_eq_not, Bool.not_true, Bool.not_false, gt_iff_lt, ge_iff_le, Int.not_lt, Int.not_le] at h2)
        try (exfalso; first | contradiction | omega)
        all_goals
          
          refine wc_seq ?_
          refine wc_region ?_
          refine wl_val (r_assign rfl) (ltn rfl) ?_
          refine wl_nil ?_
          refine wq_seq ?_
          refine wc_ret ?_
          refine wq_then_ret ?_
          refine wq_end1 (.inl rfl) Try.results18 rfl ?_
          have hK : killM E place way l = (1, E, place) := by unfold killM; rw [if_pos (by omega)]
          rw [hK]
          exact ⟨rfl, Holds.mk_rring (Holds.mk_ll' (HR.f3.f3.f3)).f2⟩
      · (try simp only [beq_iff_eq, bne_iff_ne, ne_eq, decide_eq_true_eq, decide_eq_false_iff_not, beq_eq_false_iff_ne, bne_eq_false_iff_eq, Bool.not_eq_true', Bool.not_eq_false', Bool.not_eq_eq_eq_not, Bool.not_true, Bool.not_false, gt_iff_lt, ge_iff_le, Int.not_lt, Int.not_le] at h2)
        try (exfalso; first | contradiction | omega)
        all_goals
          
          refine wc_skip ?_
          refine wq_seq ?_
          refine wc_seq ?_
          refine wc_seq ?_
          refine wc_region ?_
          refine wl_val (r_move rfl) (ltn rfl) ?_
          refine wl_val (r_lenR (hr _ (HR.right.right.right)) Try.underlying22 rfl) (ltn rfl) ?_
          refine wl_val (r_gtr rfl rfl) (ltn rfl) ?_
          refine wl_nil ?_
          refine wq_seq ?_
          refine wc_cond rfl (fun h3 => ?_) (fun h3 => ?_)
          · (try simp only [beq_iff_eq, bne_iff_ne, ne_eq, decide_eq_true_eq, decide_eq_false_iff_not, beq_eq_false_iff_ne, bne_eq_false_iff_eq, Bool.not_eq_true', Bool.not_eq_false', Bool.not_eq_eq_eq_not, Bool.not_true, Bool.not_false, gt_iff_lt, ge_iff_le, Int.not_lt, Int.not_le] at h3)
            try (exfalso; first | contradiction | omega)
            all_goals
              
              refine wc_seq ?_
              refine wc_region ?_
              refine wl_val (r_assign rfl) (ltn rfl) ?_
              refine wl_nil ?_
              refine wq_seq ?_
              refine wc_ret ?_
              refine wq_then_ret ?_
              refine wq_end1 (.inl rfl) Try.results18 rfl ?_
              have hK : killM E place way l = (3, E, place) := by unfold killM; rw [if_neg (by omega), if_pos (by omega)]
              rw [hK]
              exact ⟨rfl, Holds.mk_rring (Holds.mk_ll' (HR.f3.f3.f3)).f2⟩
          · (try simp only [beq_iff_eq, bne_iff_ne, ne_eq, decide_eq_true_eq, decide_eq_false_iff_not, beq_eq_false_iff_ne, bne_eq_false_iff_eq, Bool.not_eq_true', Bool.not_eq_false', Bool.not_eq_eq_eq_not, Bool.not_true, Bool.not_false, gt_iff_lt, ge_iff_le, Int.not_lt, Int.not_le] at h3)
            try (exfalso; first | contradiction | omega)
            all_goals
              
              refine wc_skip ?_
              refine wq_seq ?_
              refine wc_seq ?_
              refine wc_seq ?_
              refine wc_region ?_
              refine wl_val (r_move rfl) (ltn rfl) ?_
              refine wl_val (r_neq rfl rfl) (ltn rfl) ?_
              refine wl_split rfl (ltn rfl) (fun h4 => ?_) (fun h4 => ?_)
              · (try simp only [beq_iff_eq, bne_iff_ne, ne_eq, decide_eq_true_eq, decide_eq_false_iff_not, beq_eq_false_iff_ne, bne_eq_false_iff_eq, Bool.not_eq_true', Bool.not_eq_false', Bool.not_eq_eq_eq_not, Bool.not_true, Bool.not_false, gt_iff_lt, ge_iff_le, Int.not_lt, Int.not_le] at h4)
                try (exfalso; first | contradiction | omega)
                all_goals
                  refine wl_yes rfl rfl ?_
                  refine wl_val (r_move rfl) (ltn rfl) ?_
                  refine wl_yes rfl rfl ?_
                  refine wl_val (r_nil rfl) (ltn rfl) ?_
                  refine wl_yes rfl rfl ?_
                  refine wl_val ((by first | exact r_field0 0 Try.underlying48 rfl rfl Try.sizeOf23 (by decide) rfl | exact r_field 0 Try.underlying48 rfl rfl Try.sizeOf23 (by decide) rfl)) (ltn rfl) ?_
                  refine wl_yes rfl rfl ?_
                  refine wl_val (r_load (plain_of Try.underlying23 rfl) rfl (cell_of_blk (HR.f3).get.2 rfl)) (ltn rfl) ?_
                  refine wl_yes rfl rfl ?_
                  refine wl_val (r_lenS ((HR).row_rd) Try.underlying23 rfl) (ltn rfl) ?_
                  refine wl_yes rfl rfl ?_
                  refine wl_val (r_gtr rfl rfl) (ltn rfl) ?_
                  refine wl_val (r_pick_t rfl rfl) (ltn rfl) ?_
                  refine wl_nil ?_
                  refine wq_seq ?_
                  refine wc_cond rfl (fun h5 => ?_) (fun h5 => ?_)
                  · (try simp only [beq_iff_eq, bne_iff_ne, ne_eq, decide_eq_true_eq, decide_eq_false_iff_not, beq_eq_false_iff_ne, bne_eq_false_iff_eq, Bool.not_eq_true', Bool.not_eq_false', Bool.not_eq_eq_eq_not, Bool.not_true, Bool.not_false, gt_iff_lt, ge_iff_le, Int.not_lt, Int.not_le] at h5)
                    try (exfalso; first | contradiction | omega)
                    all_goals
                      
                      refine wc_seq ?_
                      refine wc_seq ?_
                      refine wc_region ?_
                      refine wl_val (r_move rfl) (ltn rfl) ?_
                      refine wl_val (r_lenR (hr _ (HR.right.right.right)) Try.underlying22 rfl) (ltn rfl) ?_
                      refine wl_val (r_move rfl) (ltn rfl) ?_
                      refine wl_val (r_nil rfl) (ltn rfl) ?_
                      refine wl_val ((by first | exact r_field0 0 Try.underlying48 rfl rfl Try.sizeOf23 (by decide) rfl | exact r_field 0 Try.underlying48 rfl rfl Try.sizeOf23 (by decide) rfl)) (ltn rfl) ?_
                      refine wl_val (r_load (plain_of Try.underlying23 rfl) rfl (cell_of_blk (HR.f3).get.2 rfl)) (ltn rfl) ?_
                      obtain ⟨bu, ou, cu, eu⟩ := Rd.posV ((HR).row_rd) (by omega)
                      cases eu
                      refine wl_val (r_index Try.underlying23 Try.sizeOf22 rfl rfl (by omega)) (ltn rfl) ?_
                      refine wl_val (r_load (plain_of Try.underlying22 rfl) rfl (by first | exact Rd.at1n ((HR).row_rd) (by omega) | exact Rd.at0 ((HR).row_rd) (by omega) | exact Rd.at1 ((HR).row_rd) (by omega))) (ltn rfl) ?_
                      refine wl_gen (fun x36_1 hx36_1 => ?_)
                      refine wl_val (r_lenR ((by rw [hx36_1]; exact (HR.f2).imms_rd (by omega))) Try.underlying22 rfl) (ltn rfl) ?_
                      refine wl_val (r_add rfl rfl (by omega)) (ltn rfl) ?_
                      refine wl_val (r_gtr rfl rfl) (ltn rfl) ?_
                      refine wl_nil ?_
                      refine wq_seq ?_
                      refine wc_cond rfl (fun h6 => ?_) (fun h6 => ?_)
                      · (try simp only [beq_iff_eq, bne_iff_ne, ne_eq, decide_eq_true_eq, decide_eq_false_iff_not, beq_eq_false_iff_ne, bne_eq_false_iff_eq, Bool.not_eq_true', Bool.not_eq_false', Bool.not_eq_eq_eq_not, Bool.not_true, Bool.not_false, gt_iff_lt, ge_iff_le, Int.not_lt, Int.not_le] at h6)
                        try (exfalso; first | contradiction | omega)
                        all_goals
                          
                          refine wc_seq ?_
                          refine wc_region ?_
                          refine wl_val (r_assign rfl) (ltn rfl) ?_
                          refine wl_nil ?_
                          refine wq_seq ?_
                          refine wc_ret ?_
                          refine wq_then_ret ?_
                          refine wq_then_ret ?_
                          refine wq_end1 (.inl rfl) Try.results18 rfl ?_
                          have hK : killM E place way l = (3, E, place) := by unfold killM; rw [if_neg (by omega), if_neg (by omega), if_pos (by omega), if_pos (by omega)]
                          rw [hK]
                          exact ⟨rfl, Holds.mk_rring (Holds.mk_ll' (HR.f3.f3.f3)).f2⟩
                      · (try simp only [beq_iff_eq, bne_iff_ne, ne_eq, decide_eq_true_eq, decide_eq_false_iff_not, beq_eq_false_iff_ne, bne_eq_false_iff_eq, Bool.not_eq_true', Bool.not_eq_false', Bool.not_eq_eq_eq_not, Bool.not_true, Bool.not_false, gt_iff_lt, ge_iff_le, Int.not_lt, Int.not_le] at h6)
                        try (exfalso; first | contradiction | omega)
                        all_goals
                          
                          refine wc_skip ?_
                          refine wq_seq ?_
                          refine wc_seq ?_
                          refine wc_region ?_
                          refine wl_val (r_move rfl) (ltn rfl) ?_
                          refine wl_val (r_nil rfl) (ltn rfl) ?_
                          refine wl_val ((by first | exact r_field0 0 Try.underlying48 rfl rfl Try.sizeOf23 (by decide) rfl | exact r_field 0 Try.underlying48 rfl rfl Try.sizeOf23 (by decide) rfl)) (ltn rfl) ?_
                          refine wl_val (r_load (plain_of Try.underlying23 rfl) rfl (cell_of_blk (HR.f3).get.2 rfl)) (ltn rfl) ?_
                          refine wl_val (r_index Try.underlying23 Try.sizeOf22 rfl rfl (by omega)) (ltn rfl) ?_
                          refine wl_val (r_load (plain_of Try.underlying22 rfl) rfl (by first | exact Rd.at1n ((HR).row_rd) (by omega) | exact Rd.at0 ((HR).row_rd) (by omega) | exact Rd.at1 ((HR).row_rd) (by omega))) (ltn rfl) ?_
                          refine wl_gen (fun x45_2 hx45_2 => ?_)
                          refine wl_val (r_move rfl) (ltn rfl) ?_
                          refine wl_eff (e_call (r_call rfl Try.func30 rfl rfl) (both_ret HR (fun W HW => (by rw [hx45_2]; exact (HW.f2).imms_rd (by omega))) (fun W HW => hr _ (HW.right.right.right)) (by simp at *; omega))) (ltn rfl) ?_
                          rintro u3 w3 H3
                          refine wl_val (r_assign rfl) (ltn rfl) ?_
                          refine wl_nil ?_
                          refine wq_seq ?_
                          refine wc_seq ?_
                          refine wc_seq ?_
                          refine wc_region ?_
                          refine wl_val (r_move rfl) (ltn rfl) ?_
                          refine wl_val (r_eql rfl rfl) (ltn rfl) ?_
                          refine wl_nil ?_
                          refine wq_seq ?_
                          refine wc_cond rfl (fun h7 => ?_) (fun h7 => ?_)
                          · (try simp only [beq_iff_eq, bne_iff_ne, ne_eq, decide_eq_true_eq, decide_eq_false_iff_not, beq_eq_false_iff_ne, bne_eq_false_iff_eq, Bool.not_eq_true', Bool.not_eq_false', Bool.not_eq_eq_eq_not, Bool.not_true, Bool.not_false, gt_iff_lt, ge_iff_le, Int.not_lt, Int.not_le] at h7)
                            try (exfalso; first | contradiction | omega)
                            all_goals
                              
                              refine wc_region ?_
                              refine wl_val (r_move rfl) (ltn rfl) ?_
                              refine wl_val (r_move rfl) (ltn rfl) ?_
                              refine wl_val (r_nil rfl) (ltn rfl) ?_
                              refine wl_val ((by first | exact r_field0 0 Try.underlying48 rfl rfl Try.sizeOf23 (by decide) rfl | exact r_field 0 Try.underlying48 rfl rfl Try.sizeOf23 (by decide) rfl)) (ltn rfl) ?_
                              refine wl_val (r_load (plain_of Try.underlying23 rfl) rfl (cell_of_blk (H3.f4).get.2 rfl)) (ltn rfl) ?_
                              refine wl_val (r_index Try.underlying23 Try.sizeOf22 rfl rfl (by omega)) (ltn rfl) ?_
                              refine wl_val (r_load (plain_of Try.underlying22 rfl) rfl (by first | exact Rd.at1n ((H3.f2).row_rd) (by omega) | exact Rd.at0 ((H3.f2).row_rd) (by omega) | exact Rd.at1 ((H3.f2).row_rd) (by omega))) (ltn rfl) ?_
                              refine wl_gen (fun x56_4 hx56_4 => ?_)
                              refine wl_eff (e_call (r_call rfl Try.func30 rfl rfl) (both_ret H3 (fun W HW => hr _ (HW.right.right.right.right)) (fun W HW => (by rw [hx56_4]; exact (HW.f3).imms_rd (by omega))) (by simp at *; omega))) (ltn rfl) ?_
                              rintro u5 w5 H5
                              refine wl_val (r_assign rfl) (ltn rfl) ?_
                              refine wl_nil ?_
                              refine wq_seq ?_
                              refine wc_seq ?_
                              refine wc_region ?_
                              refine wl_val (r_move rfl) (ltn rfl) ?_
                              refine wl_eff (e_lit_row (vs := [_]) H5 Try.underlying23 Try.sizeOf22 Try.zeroValue22 rfl rfl rfl (by decide) (ones_cons (by first | rfl | exact Rd.one ((H5).row_rd)) ones_nil)) (ltn rfl) ?_
                              rintro l6 w6 H6
                              refine wl_val (r_assign rfl) (ltn rfl) ?_
                              refine wl_nil ?_
                              refine wq_seq ?_
                              refine wc_seq ?_
                              refine wc_region ?_
                              refine wl_val (r_move rfl) (ltn rfl) ?_
                              refine wl_val (r_move rfl) (ltn rfl) ?_
                              refine wl_val (r_move rfl) (ltn rfl) ?_
                              refine wl_val (r_nil rfl) (ltn rfl) ?_
                              refine wl_val ((by first | exact r_field0 0 Try.underlying48 rfl rfl Try.sizeOf23 (by decide) rfl | exact r_field 0 Try.underlying48 rfl rfl Try.sizeOf23 (by decide) rfl)) (ltn rfl) ?_
                              refine wl_val (r_load (plain_of Try.underlying23 rfl) rfl (cell_of_blk (H6.f6).get.2 rfl)) (ltn rfl) ?_
                              refine wl_val (r_sliceS ((H6.f4).row_rd) Try.underlying23 Try.sizeOf22 rfl rfl rfl (by omega)) (ltn rfl) ?_
                              refine wl_eff (e_append H6 Try.underlying23 (show (Try.prog.info? 22).map (fun i => (i.zero, i.size, i.bytes)) = some (some (.slice none 0 0), 1, 24) by kernel_rfl) rfl rfl rfl (Rd.from1 ((H6.f4).row_rd) (by omega)) (fun z hz => (H6.f5).imms_ones z (List.mem_of_mem_drop hz)) (by omega) (by omega)) (ltn rfl) ?_
                              rintro l7 w7 H7
                              refine wl_val (r_nil rfl) (ltn rfl) ?_
                              refine wl_val ((by first | exact r_field0 0 Try.underlying48 rfl rfl Try.sizeOf23 (by decide) rfl | exact r_field 0 Try.underlying48 rfl rfl Try.sizeOf23 (by decide) rfl)) (ltn rfl) ?_
                              refine wl_eff0 (e_storeL 0 (l' := [_, _]) H7.f6 Try.sizeOf23 rfl rfl (by first | rfl | exact Rd.one ((H7).row_rd)) rfl rfl) ?_
                              rintro _ w8 H8
                              refine wl_nil ?_
                              refine wq_seq ?_
                              refine wc_seq ?_
                              refine wc_region ?_
                              refine wl_val (r_move rfl) (ltn rfl) ?_
                              refine wl_val (r_nil rfl) (ltn rfl) ?_
                              refine wl_val ((by first | exact r_field0 1 Try.underlying48 rfl rfl Try.sizeOf3 (by decide) rfl | exact r_field 1 Try.underlying48 rfl rfl Try.sizeOf3 (by decide) rfl)) (ltn rfl) ?_
                              refine wl_eff0 (e_storeL 1 (l' := [_, _]) H8 Try.sizeOf3 rfl rfl (by first | rfl | assumption) rfl rfl) ?_
                              rintro _ w9 H9
                              refine wl_nil ?_
                              refine wq_seq ?_
                              refine wc_seq ?_
                              refine wc_region ?_
                              refine wl_val (r_assign rfl) (ltn rfl) ?_
                              refine wl_nil ?_
                              refine wq_seq ?_
                              refine wc_ret ?_
                              refine wq_then_ret ?_
                              refine wq_end1 (.inl rfl) Try.results18 rfl ?_
                              have Hf10 := H9.f3.freezeI
                              have H2 := ((Hf10.f4.right.f4.right.f2.f3.f3.f4).imms_drop 1).f2.imms_cons.f2
                              have H3 := Holds.mk_rring (Holds.mk_ll' H2).f2
                              rw [List.drop_one] at H3
                              unfold killM
                              rw [if_neg (by omega), if_neg (by omega), if_pos (by omega), if_neg (by omega)]
                              first
                                | (rw [if_pos (show way = 1 by omega)]; exact ⟨rfl, H3⟩)
                                | (rw [if_neg (show ¬ way = 1 by omega)]; exact ⟨rfl, H3⟩)
                          · (try simp only [beq_iff_eq, bne_iff_ne, ne_eq, decide_eq_true_eq, decide_eq_false_iff_not, beq_eq_false_iff_ne, bne_eq_false_iff_eq, Bool.not_eq_true', Bool.not_eq_false', Bool.not_eq_eq_eq_not, Bool.not_true, Bool.not_false, gt_iff_lt, ge_iff_le, Int.not_lt, Int.not_le] at h7)
                            try (exfalso; first | contradiction | omega)
                            all_goals
                              
                              refine wc_skip ?_
                              refine wq_seq ?_
                              refine wc_seq ?_
                              refine wc_region ?_
                              refine wl_val (r_move rfl) (ltn rfl) ?_
                              refine wl_eff (e_lit_row (vs := [_]) H3 Try.underlying23 Try.sizeOf22 Try.zeroValue22 rfl rfl rfl (by decide) (ones_cons (by first | rfl | exact Rd.one ((H3).row_rd)) ones_nil)) (ltn rfl) ?_
                              rintro l11 w11 H11
                              refine wl_val (r_assign rfl) (ltn rfl) ?_
                              refine wl_nil ?_
                              refine wq_seq ?_
                              refine wc_seq ?_
                              refine wc_region ?_
                              refine wl_val (r_move rfl) (ltn rfl) ?_
                              refine wl_val (r_move rfl) (ltn rfl) ?_
                              refine wl_val (r_move rfl) (ltn rfl) ?_
                              refine wl_val (r_nil rfl) (ltn rfl) ?_
                              refine wl_val ((by first | exact r_field0 0 Try.underlying48 rfl rfl Try.sizeOf23 (by decide) rfl | exact r_field 0 Try.underlying48 rfl rfl Try.sizeOf23 (by decide) rfl)) (ltn rfl) ?_
                              refine wl_val (r_load (plain_of Try.underlying23 rfl) rfl (cell_of_blk (H11.f5).get.2 rfl)) (ltn rfl) ?_
                              refine wl_val (r_sliceS ((H11.f3).row_rd) Try.underlying23 Try.sizeOf22 rfl rfl rfl (by omega)) (ltn rfl) ?_
                              refine wl_eff (e_append H11 Try.underlying23 (show (Try.prog.info? 22).map (fun i => (i.zero, i.size, i.bytes)) = some (some (.slice none 0 0), 1, 24) by kernel_rfl) rfl rfl rfl (Rd.from1 ((H11.f3).row_rd) (by omega)) (fun z hz => (H11.f4).imms_ones z (List.mem_of_mem_drop hz)) (by omega) (by omega)) (ltn rfl) ?_
                              rintro l12 w12 H12
                              refine wl_val (r_nil rfl) (ltn rfl) ?_
                              refine wl_val ((by first | exact r_field0 0 Try.underlying48 rfl rfl Try.sizeOf23 (by decide) rfl | exact r_field 0 Try.underlying48 rfl rfl Try.sizeOf23 (by decide) rfl)) (ltn rfl) ?_
                              refine wl_eff0 (e_storeL 0 (l' := [_, _]) H12.f5 Try.sizeOf23 rfl rfl (by first | rfl | exact Rd.one ((H12).row_rd)) rfl rfl) ?_
                              rintro _ w13 H13
                              refine wl_nil ?_
                              refine wq_seq ?_
                              refine wc_seq ?_
                              refine wc_region ?_
                              refine wl_val (r_move rfl) (ltn rfl) ?_
                              refine wl_val (r_nil rfl) (ltn rfl) ?_
                              refine wl_val ((by first | exact r_field0 1 Try.underlying48 rfl rfl Try.sizeOf3 (by decide) rfl | exact r_field 1 Try.underlying48 rfl rfl Try.sizeOf3 (by decide) rfl)) (ltn rfl) ?_
                              refine wl_eff0 (e_storeL 1 (l' := [_, _]) H13 Try.sizeOf3 rfl rfl (by first | rfl | assumption) rfl rfl) ?_
                              rintro _ w14 H14
                              refine wl_nil ?_
                              refine wq_seq ?_
                              refine wc_seq ?_
                              refine wc_region ?_
                              refine wl_val (r_assign rfl) (ltn rfl) ?_
                              refine wl_nil ?_
                              refine wq_seq ?_
                              refine wc_ret ?_
                              refine wq_then_ret ?_
                              refine wq_end1 (.inl rfl) Try.results18 rfl ?_
                              have Hf15 := H14.f3.freezeI
                              have H2 := ((Hf15.f4.right.f2.f3.f3.f4).imms_drop 1).f2.imms_cons.f2
                              have H3 := Holds.mk_rring (Holds.mk_ll' H2).f2
                              rw [List.drop_one] at H3
                              unfold killM
                              rw [if_neg (by omega), if_neg (by omega), if_pos (by omega), if_neg (by omega)]
                              first
                                | (rw [if_pos (show way = 1 by omega)]; exact ⟨rfl, H3⟩)
                                | (rw [if_neg (show ¬ way = 1 by omega)]; exact ⟨rfl, H3⟩)
                  · (try simp only [beq_iff_eq, bne_iff_ne, ne_eq, decide_eq_true_eq, decide_eq_false_iff_not, beq_eq_false_iff_ne, bne_eq_false_iff_eq, Bool.not_eq_true', Bool.not_eq_false', Bool.not_eq_eq_eq_not, Bool.not_true, Bool.not_false, gt_iff_lt, ge_iff_le, Int.not_lt, Int.not_le] at h5)
                    try (exfalso; first | contradiction | omega)
                    all_goals
                      
                      refine wc_skip ?_
                      refine wq_seq ?_
                      refine wc_seq ?_
                      refine wc_seq ?_
                      refine wc_region ?_
                      refine wl_val (r_move rfl) (ltn rfl) ?_
                      refine wl_val (r_lenR (hr _ (HR.right.right.right)) Try.underlying22 rfl) (ltn rfl) ?_
                      refine wl_val (r_eql rfl rfl) (ltn rfl) ?_
                      refine wl_split rfl (ltn rfl) (fun h8 => ?_) (fun h8 => ?_)
                      · (try simp only [beq_iff_eq, bne_iff_ne, ne_eq, decide_eq_true_eq, decide_eq_false_iff_not, beq_eq_false_iff_ne, bne_eq_false_iff_eq, Bool.not_eq_true', Bool.not_eq_false', Bool.not_eq_eq_eq_not, Bool.not_true, Bool.not_false, gt_iff_lt, ge_iff_le, Int.not_lt, Int.not_le] at h8)
                        try (exfalso; first | contradiction | omega)
                        all_goals
                          refine wl_yes rfl rfl ?_
                          refine wl_val (r_move rfl) (ltn rfl) ?_
                          refine wl_yes rfl rfl ?_
                          refine wl_val (r_eql rfl rfl) (ltn rfl) ?_
                          refine wl_val (r_pick_t rfl rfl) (ltn rfl) ?_
                          refine wl_nil ?_
                          refine wq_seq ?_
                          refine wc_cond rfl (fun h9 => ?_) (fun h9 => ?_)
                          · (try simp only [beq_iff_eq, bne_iff_ne, ne_eq, decide_eq_true_eq, decide_eq_false_iff_not, beq_eq_false_iff_ne, bne_eq_false_iff_eq, Bool.not_eq_true', Bool.not_eq_false', Bool.not_eq_eq_eq_not, Bool.not_true, Bool.not_false, gt_iff_lt, ge_iff_le, Int.not_lt, Int.not_le] at h9)
                            try (exfalso; first | contradiction | omega)
                            all_goals
                              
                              refine wc_seq ?_
                              refine wc_region ?_
                              refine wl_val (r_assign rfl) (ltn rfl) ?_
                              refine wl_nil ?_
                              refine wq_seq ?_
                              refine wc_ret ?_
                              refine wq_then_ret ?_
                              refine wq_end1 (.inl rfl) Try.results18 rfl ?_
                              have hK : killM E place way l = (0, E, place) := by unfold killM; rw [if_neg (by omega), if_neg (by omega), if_neg (by omega), if_pos (by omega)]
                              rw [hK]
                              exact ⟨rfl, Holds.mk_rring (Holds.mk_ll' (HR.f3.f3.f3)).f2⟩
                          · (try simp only [beq_iff_eq, bne_iff_ne, ne_eq, decide_eq_true_eq, decide_eq_false_iff_not, beq_eq_false_iff_ne, bne_eq_false_iff_eq, Bool.not_eq_true', Bool.not_eq_false', Bool.not_eq_eq_eq_not, Bool.not_true, Bool.not_false, gt_iff_lt, ge_iff_le, Int.not_lt, Int.not_le] at h9)
                            try (exfalso; first | contradiction | omega)
                            all_goals
                              
                              refine wc_skip ?_
                              refine wq_seq ?_
                              refine wc_seq ?_
                              refine wc_region ?_
                              refine wl_val (r_move rfl) (ltn rfl) ?_
                              refine wl_eff (e_call (r_call rfl Try.func30 rfl rfl) (both1_ret HR (fun W HW => hr _ (HW.right.right.right)) (by omega))) (ltn rfl) ?_
                              rintro u16 w16 H16
                              refine wl_eff (e_lit_row (vs := [_]) H16 Try.underlying23 Try.sizeOf22 Try.zeroValue22 rfl rfl rfl (by decide) (ones_cons (by first | rfl | exact Rd.one ((H16).row_rd)) ones_nil)) (ltn rfl) ?_
                              rintro l17 w17 H17
                              refine wl_val (r_assign rfl) (ltn rfl) ?_
                              refine wl_nil ?_
                              refine wq_seq ?_
                              refine wc_seq ?_
                              refine wc_region ?_
                              refine wl_val (r_move rfl) (ltn rfl) ?_
                              refine wl_val (r_move rfl) (ltn rfl) ?_
                              refine wl_val (r_move rfl) (ltn rfl) ?_
                              refine wl_val (r_nil rfl) (ltn rfl) ?_
                              refine wl_val ((by first | exact r_field0 0 Try.underlying48 rfl rfl Try.sizeOf23 (by decide) rfl | exact r_field 0 Try.underlying48 rfl rfl Try.sizeOf23 (by decide) rfl)) (ltn rfl) ?_
                              refine wl_val (r_load (plain_of Try.underlying23 rfl) rfl (cell_of_blk (H17.f5).get.2 rfl)) (ltn rfl) ?_
                              refine wl_eff (e_append H17 Try.underlying23 (show (Try.prog.info? 22).map (fun i => (i.zero, i.size, i.bytes)) = some (some (.slice none 0 0), 1, 24) by kernel_rfl) rfl rfl rfl ((H17.f3).row_rd) ((H17.f4).imms_ones) (by omega) (by omega)) (ltn rfl) ?_
                              rintro l18 w18 H18
                              refine wl_val (r_nil rfl) (ltn rfl) ?_
                              refine wl_val ((by first | exact r_field0 0 Try.underlying48 rfl rfl Try.sizeOf23 (by decide) rfl | exact r_field 0 Try.underlying48 rfl rfl Try.sizeOf23 (by decide) rfl)) (ltn rfl) ?_
                              refine wl_eff0 (e_storeL 0 (l' := [_, _]) H18.f5 Try.sizeOf23 rfl rfl (by first | rfl | exact Rd.one ((H18).row_rd)) rfl rfl) ?_
                              rintro _ w19 H19
                              refine wl_nil ?_
                              refine wq_seq ?_
                              refine wc_seq ?_
                              refine wc_seq ?_
                              refine wc_region ?_
                              refine wl_val (r_move rfl) (ltn rfl) ?_
                              refine wl_val (r_nil rfl) (ltn rfl) ?_
                              refine wl_val ((by first | exact r_field0 0 Try.underlying48 rfl rfl Try.sizeOf23 (by decide) rfl | exact r_field 0 Try.underlying48 rfl rfl Try.sizeOf23 (by decide) rfl)) (ltn rfl) ?_
                              refine wl_val (r_load (plain_of Try.underlying23 rfl) rfl (cell_of_blk (H19).get.2 rfl)) (ltn rfl) ?_
                              refine wl_val (r_lenS ((H19.f2).row_rd) Try.underlying23 rfl) (ltn rfl) ?_
                              refine wl_val (r_gtr rfl rfl) (ltn rfl) ?_
                              refine wl_nil ?_
                              refine wq_seq ?_
                              refine wc_cond rfl (fun h10 => ?_) (fun h10 => ?_)
                              · (try simp only [beq_iff_eq, bne_iff_ne, ne_eq, decide_eq_true_eq, decide_eq_false_iff_not, beq_eq_false_iff_ne, bne_eq_false_iff_eq, Bool.not_eq_true', Bool.not_eq_false', Bool.not_eq_eq_eq_not, Bool.not_true, Bool.not_false, gt_iff_lt, ge_iff_le, Int.not_lt, Int.not_le] at h10)
                                try (exfalso; first | contradiction | omega)
                                all_goals
                                  
                                  refine wc_region ?_
                                  refine wl_val (r_move rfl) (ltn rfl) ?_
                                  refine wl_val (r_move rfl) (ltn rfl) ?_
                                  refine wl_val (r_nil rfl) (ltn rfl) ?_
                                  refine wl_val ((by first | exact r_field0 0 Try.underlying48 rfl rfl Try.sizeOf23 (by decide) rfl | exact r_field 0 Try.underlying48 rfl rfl Try.sizeOf23 (by decide) rfl)) (ltn rfl) ?_
                                  refine wl_val (r_load (plain_of Try.underlying23 rfl) rfl (cell_of_blk (H19).get.2 rfl)) (ltn rfl) ?_
                                  refine wl_val (r_sliceS ((H19.f2).row_rd) Try.underlying23 Try.sizeOf22 rfl rfl rfl (by omega)) (ltn rfl) ?_
                                  refine wl_val (r_nil rfl) (ltn rfl) ?_
                                  refine wl_val ((by first | exact r_field0 0 Try.underlying48 rfl rfl Try.sizeOf23 (by decide) rfl | exact r_field 0 Try.underlying48 rfl rfl Try.sizeOf23 (by decide) rfl)) (ltn rfl) ?_
                                  refine wl_eff0 (e_storeL 0 (l' := [_, _]) H19 Try.sizeOf23 rfl rfl (by first | rfl | exact Rd.one (Rd.upto1 ((H19.f2).row_rd) (by omega))) rfl rfl) ?_
                                  rintro _ w20 H20
                                  refine wl_nil ?_
                                  refine wq_seq ?_
                                  refine wc_seq ?_
                                  refine wc_region ?_
                                  refine wl_val (r_move rfl) (ltn rfl) ?_
                                  refine wl_val (r_nil rfl) (ltn rfl) ?_
                                  refine wl_val ((by first | exact r_field0 1 Try.underlying48 rfl rfl Try.sizeOf3 (by decide) rfl | exact r_field 1 Try.underlying48 rfl rfl Try.sizeOf3 (by decide) rfl)) (ltn rfl) ?_
                                  refine wl_eff0 (e_storeL 1 (l' := [_, _]) H20 Try.sizeOf3 rfl rfl (by first | rfl | assumption) rfl rfl) ?_
                                  rintro _ w21 H21
                                  refine wl_nil ?_
                                  refine wq_seq ?_
                                  refine wc_seq ?_
                                  refine wc_region ?_
                                  refine wl_val (r_assign rfl) (ltn rfl) ?_
                                  refine wl_nil ?_
                                  refine wq_seq ?_
                                  refine wc_ret ?_
                                  refine wq_end1 (.inl rfl) Try.results18 rfl ?_
                                  have Hf22 := H21.f3.freezeI
                                  have hK : killM E place way l = (0, (l :: E).take 60, 0) := by unfold killM; rw [if_neg (by omega), if_neg (by omega), if_neg (by omega), if_neg (by omega)]
                                  rw [hK]
                                  have H2 := (Hf22.f4.right.f2.f3.f4.f4).imms_cons.f2
                                  have H3 := Holds.mk_ll' H2
                                  first
                                    | (rw [List.take_of_length_le (by simp; omega)]; exact ⟨rfl, Holds.mk_rring H3.f2⟩)
                                    | exact ⟨rfl, Holds.mk_rring (H3.ll_cut0 (n := 60) (by simp; omega)).f2⟩
                              · (try simp only [beq_iff_eq, bne_iff_ne, ne_eq, decide_eq_true_eq, decide_eq_false_iff_not, beq_eq_false_iff_ne, bne_eq_false_iff_eq, Bool.not_eq_true', Bool.not_eq_false', Bool.not_eq_eq_eq_not, Bool.not_true, Bool.not_false, gt_iff_lt, ge_iff_le, Int.not_lt, Int.not_le] at h10)
                                try (exfalso; first | contradiction | omega)
                                all_goals
                                  
                                  refine wc_skip ?_
                                  refine wq_seq ?_
                                  refine wc_seq ?_
                                  refine wc_region ?_
                                  refine wl_val (r_move rfl) (ltn rfl) ?_
                                  refine wl_val (r_nil rfl) (ltn rfl) ?_
                                  refine wl_val ((by first | exact r_field0 1 Try.underlying48 rfl rfl Try.sizeOf3 (by decide) rfl | exact r_field 1 Try.underlying48 rfl rfl Try.sizeOf3 (by decide) rfl)) (ltn rfl) ?_
                                  refine wl_eff0 (e_storeL 1 (l' := [_, _]) H19 Try.sizeOf3 rfl rfl (by first | rfl | assumption) rfl rfl) ?_
                                  rintro _ w23 H23
                                  refine wl_nil ?_
                                  refine wq_seq ?_
                                  refine wc_seq ?_
                                  refine wc_region ?_
                                  refine wl_val (r_assign rfl) (ltn rfl) ?_
                                  refine wl_nil ?_
                                  refine wq_seq ?_
                                  refine wc_ret ?_
                                  refine wq_end1 (.inl rfl) Try.results18 rfl ?_
                                  have Hf24 := H23.f3.freezeI
                                  have hK : killM E place way l = (0, (l :: E).take 60, 0) := by unfold killM; rw [if_neg (by omega), if_neg (by omega), if_neg (by omega), if_neg (by omega)]
                                  rw [hK]
                                  have H2 := (Hf24.f4.right.f2.f3.f4.f4).imms_cons.f2
                                  have H3 := Holds.mk_ll' H2
                                  first
                                    | (rw [List.take_of_length_le (by simp; omega)]; exact ⟨rfl, Holds.mk_rring H3.f2⟩)
                                    | exact ⟨rfl, Holds.mk_rring (H3.ll_cut0 (n := 60) (by simp; omega)).f2⟩
                      · (try simp only [beq_iff_eq, bne_iff_ne, ne_eq, decide_eq_true_eq, decide_eq_false_iff_not, beq_eq_false_iff_ne, bne_eq_false_iff_eq, Bool.not_eq_true', Bool.not_eq_false', Bool.not_eq_eq_eq_not, Bool.not_true, Bool.not_false, gt_iff_lt, ge_iff_le, Int.not_lt, Int.not_le] at h8)
                        try (exfalso; first | contradiction | omega)
                        all_goals
                          refine wl_no rfl rfl rfl (ltn rfl) ?_
                          refine wl_no rfl rfl rfl (ltn rfl) ?_
                          refine wl_val (r_pick_f rfl rfl) (ltn rfl) ?_
                          refine wl_nil ?_
                          refine wq_seq ?_
                          refine wc_cond_f rfl ?_
                          refine wc_skip ?_
                          refine wq_seq ?_
                          refine wc_seq ?_
                          refine wc_region ?_
                          refine wl_val (r_move rfl) (ltn rfl) ?_
                          refine wl_eff (e_call (r_call rfl Try.func30 rfl rfl) (both1_ret HR (fun W HW => hr _ (HW.right.right.right)) (by omega))) (ltn rfl) ?_
                          rintro u25 w25 H25
                          refine wl_eff (e_lit_row (vs := [_]) H25 Try.underlying23 Try.sizeOf22 Try.zeroValue22 rfl rfl rfl (by decide) (ones_cons (by first | rfl | exact Rd.one ((H25).row_rd)) ones_nil)) (ltn rfl) ?_
                          rintro l26 w26 H26
                          refine wl_val (r_assign rfl) (ltn rfl) ?_
                          refine wl_nil ?_
                          refine wq_seq ?_
                          refine wc_seq ?_
                          refine wc_region ?_
                          refine wl_val (r_move rfl) (ltn rfl) ?_
                          refine wl_val (r_move rfl) (ltn rfl) ?_
                          refine wl_val (r_move rfl) (ltn rfl) ?_
                          refine wl_val (r_nil rfl) (ltn rfl) ?_
                          refine wl_val ((by first | exact r_field0 0 Try.underlying48 rfl rfl Try.sizeOf23 (by decide) rfl | exact r_field 0 Try.underlying48 rfl rfl Try.sizeOf23 (by decide) rfl)) (ltn rfl) ?_
                          refine wl_val (r_load (plain_of Try.underlying23 rfl) rfl (cell_of_blk (H26.f5).get.2 rfl)) (ltn rfl) ?_
                          refine wl_eff (e_append H26 Try.underlying23 (show (Try.prog.info? 22).map (fun i => (i.zero, i.size, i.bytes)) = some (some (.slice none 0 0), 1, 24) by kernel_rfl) rfl rfl rfl ((H26.f3).row_rd) ((H26.f4).imms_ones) (by omega) (by omega)) (ltn rfl) ?_
                          rintro l27 w27 H27
                          refine wl_val (r_nil rfl) (ltn rfl) ?_
                          refine wl_val ((by first | exact r_field0 0 Try.underlying48 rfl rfl Try.sizeOf23 (by decide) rfl | exact r_field 0 Try.underlying48 rfl rfl Try.sizeOf23 (by decide) rfl)) (ltn rfl) ?_
                          refine wl_eff0 (e_storeL 0 (l' := [_, _]) H27.f5 Try.sizeOf23 rfl rfl (by first | rfl | exact Rd.one ((H27).row_rd)) rfl rfl) ?_
                          rintro _ w28 H28
                          refine wl_nil ?_
                          refine wq_seq ?_
                          refine wc_seq ?_
                          refine wc_seq ?_
                          refine wc_region ?_
                          refine wl_val (r_move rfl) (ltn rfl) ?_
                          refine wl_val (r_nil rfl) (ltn rfl) ?_
                          refine wl_val ((by first | exact r_field0 0 Try.underlying48 rfl rfl Try.sizeOf23 (by decide) rfl | exact r_field 0 Try.underlying48 rfl rfl Try.sizeOf23 (by decide) rfl)) (ltn rfl) ?_
                          refine wl_val (r_load (plain_of Try.underlying23 rfl) rfl (cell_of_blk (H28).get.2 rfl)) (ltn rfl) ?_
                          refine wl_val (r_lenS ((H28.f2).row_rd) Try.underlying23 rfl) (ltn rfl) ?_
                          refine wl_val (r_gtr rfl rfl) (ltn rfl) ?_
                          refine wl_nil ?_
                          refine wq_seq ?_
                          refine wc_cond rfl (fun h11 => ?_) (fun h11 => ?_)
                          · (try simp only [beq_iff_eq, bne_iff_ne, ne_eq, decide_eq_true_eq, decide_eq_false_iff_not, beq_eq_false_iff_ne, bne_eq_false_iff_eq, Bool.not_eq_true', Bool.not_eq_false', Bool.not_eq_eq_eq_not, Bool.not_true, Bool.not_false, gt_iff_lt, ge_iff_le, Int.not_lt, Int.not_le] at h11)
                            try (exfalso; first | contradiction | omega)
                            all_goals
                              
                              refine wc_region ?_
                              refine wl_val (r_move rfl) (ltn rfl) ?_
                              refine wl_val (r_move rfl) (ltn rfl) ?_
                              refine wl_val (r_nil rfl) (ltn rfl) ?_
                              refine wl_val ((by first | exact r_field0 0 Try.underlying48 rfl rfl Try.sizeOf23 (by decide) rfl | exact r_field 0 Try.underlying48 rfl rfl Try.sizeOf23 (by decide) rfl)) (ltn rfl) ?_
                              refine wl_val (r_load (plain_of Try.underlying23 rfl) rfl (cell_of_blk (H28).get.2 rfl)) (ltn rfl) ?_
                              refine wl_val (r_sliceS ((H28.f2).row_rd) Try.underlying23 Try.sizeOf22 rfl rfl rfl (by omega)) (ltn rfl) ?_
                              refine wl_val (r_nil rfl) (ltn rfl) ?_
                              refine wl_val ((by first | exact r_field0 0 Try.underlying48 rfl rfl Try.sizeOf23 (by decide) rfl | exact r_field 0 Try.underlying48 rfl rfl Try.sizeOf23 (by decide) rfl)) (ltn rfl) ?_
                              refine wl_eff0 (e_storeL 0 (l' := [_, _]) H28 Try.sizeOf23 rfl rfl (by first | rfl | exact Rd.one (Rd.upto1 ((H28.f2).row_rd) (by omega))) rfl rfl) ?_
                              rintro _ w29 H29
                              refine wl_nil ?_
                              refine wq_seq ?_
                              refine wc_seq ?_
                              refine wc_region ?_
                              refine wl_val (r_move rfl) (ltn rfl) ?_
                              refine wl_val (r_nil rfl) (ltn rfl) ?_
                              refine wl_val ((by first | exact r_field0 1 Try.underlying48 rfl rfl Try.sizeOf3 (by decide) rfl | exact r_field 1 Try.underlying48 rfl rfl Try.sizeOf3 (by decide) rfl)) (ltn rfl) ?_
                              refine wl_eff0 (e_storeL 1 (l' := [_, _]) H29 Try.sizeOf3 rfl rfl (by first | rfl | assumption) rfl rfl) ?_
                              rintro _ w30 H30
                              refine wl_nil ?_
                              refine wq_seq ?_
                              refine wc_seq ?_
                              refine wc_region ?_
                              refine wl_val (r_assign rfl) (ltn rfl) ?_
                              refine wl_nil ?_
                              refine wq_seq ?_
                              refine wc_ret ?_
                              refine wq_end1 (.inl rfl) Try.results18 rfl ?_
                              have Hf31 := H30.f3.freezeI
                              have hK : killM E place way l = (0, (l :: E).take 60, 0) := by unfold killM; rw [if_neg (by omega), if_neg (by omega), if_neg (by omega), if_neg (by omega)]
                              rw [hK]
                              have H2 := (Hf31.f4.right.f2.f3.f4.f4).imms_cons.f2
                              have H3 := Holds.mk_ll' H2
                              first
                                | (rw [List.take_of_length_le (by simp; omega)]; exact ⟨rfl, Holds.mk_rring H3.f2⟩)
                                | exact ⟨rfl, Holds.mk_rring (H3.ll_cut0 (n := 60) (by simp; omega)).f2⟩
                          · (try simp only [beq_iff_eq, bne_iff_ne, ne_eq, decide_eq_true_eq, decide_eq_false_iff_not, beq_eq_false_iff_ne, bne_eq_false_iff_eq, Bool.not_eq_true', Bool.not_eq_false', Bool.not_eq_eq_eq_not, Bool.not_true, Bool.not_false, gt_iff_lt, ge_iff_le, Int.not_lt, Int.not_le] at h11)
                            try (exfalso; first | contradiction | omega)
                            all_goals
                              
                              refine wc_skip ?_
                              refine wq_seq ?_
                              refine wc_seq ?_
                              refine wc_region ?_
                              refine wl_val (r_move rfl) (ltn rfl) ?_
                              refine wl_val (r_nil rfl) (ltn rfl) ?_
                              refine wl_val ((by first | exact r_field0 1 Try.underlying48 rfl rfl Try.sizeOf3 (by decide) rfl | exact r_field 1 Try.underlying48 rfl rfl Try.sizeOf3 (by decide) rfl)) (ltn rfl) ?_
                              refine wl_eff0 (e_storeL 1 (l' := [_, _]) H28 Try.sizeOf3 rfl rfl (by first | rfl | assumption) rfl rfl) ?_
                              rintro _ w32 H32
                              refine wl_nil ?_
                              refine wq_seq ?_
                              refine wc_seq ?_
                              refine wc_region ?_
                              refine wl_val (r_assign rfl) (ltn rfl) ?_
                              refine wl_nil ?_
                              refine wq_seq ?_
                              refine wc_ret ?_
                              refine wq_end1 (.inl rfl) Try.results18 rfl ?_
                              have Hf33 := H32.f3.freezeI
                              have hK : killM E place way l = (0, (l :: E).take 60, 0) := by unfold killM; rw [if_neg (by omega), if_neg (by omega), if_neg (by omega), if_neg (by omega)]
                              rw [hK]
                              have H2 := (Hf33.f4.right.f2.f3.f4.f4).imms_cons.f2
                              have H3 := Holds.mk_ll' H2
                              first
                                | (rw [List.take_of_length_le (by simp; omega)]; exact ⟨rfl, Holds.mk_rring H3.f2⟩)
                                | exact ⟨rfl, Holds.mk_rring (H3.ll_cut0 (n := 60) (by simp; omega)).f2⟩
              · (try simp only [beq_iff_eq, bne_iff_ne, ne_eq, decide_eq_true_eq, decide_eq_false_iff_not, beq_eq_false_iff_ne, bne_eq_false_iff_eq, Bool.not_eq_true', Bool.not_eq_false', Bool.not_eq_eq_eq_not, Bool.not_true, Bool.not_false, gt_iff_lt, ge_iff_le, Int.not_lt, Int.not_le] at h4)
                try (exfalso; first | contradiction | omega)
                all_goals
                  refine wl_no rfl rfl rfl (ltn rfl) ?_
                  refine wl_no rfl rfl rfl (ltn rfl) ?_
                  refine wl_no rfl rfl rfl (ltn rfl) ?_
                  refine wl_no rfl rfl rfl (ltn rfl) ?_
                  refine wl_no rfl rfl rfl (ltn rfl) ?_
                  refine wl_no rfl rfl rfl (ltn rfl) ?_
                  refine wl_val (r_pick_f rfl rfl) (ltn rfl) ?_
                  refine wl_nil ?_
                  refine wq_seq ?_
                  refine wc_cond_f rfl ?_
                  refine wc_skip ?_
                  refine wq_seq ?_
                  refine wc_seq ?_
                  refine wc_seq ?_
                  refine wc_region ?_
                  refine wl_val (r_move rfl) (ltn rfl) ?_
                  refine wl_val (r_lenR (hr _ (HR.right.right.right)) Try.underlying22 rfl) (ltn rfl) ?_
                  refine wl_val (r_eql rfl rfl) (ltn rfl) ?_
                  refine wl_split rfl (ltn rfl) (fun h12 => ?_) (fun h12 => ?_)
                  · (try simp only [beq_iff_eq, bne_iff_ne, ne_eq, decide_eq_true_eq, decide_eq_false_iff_not, beq_eq_false_iff_ne, bne_eq_false_iff_eq, Bool.not_eq_true', Bool.not_eq_false', Bool.not_eq_eq_eq_not, Bool.not_true, Bool.not_false, gt_iff_lt, ge_iff_le, Int.not_lt, Int.not_le] at h12)
                    try (exfalso; first | contradiction | omega)
                    all_goals
                      refine wl_yes rfl rfl ?_
                      refine wl_val (r_move rfl) (ltn rfl) ?_
                      refine wl_yes rfl rfl ?_
                      refine wl_val (r_eql rfl rfl) (ltn rfl) ?_
                      refine wl_val (r_pick_t rfl rfl) (ltn rfl) ?_
                      refine wl_nil ?_
                      refine wq_seq ?_
                      refine wc_cond rfl (fun h13 => ?_) (fun h13 => ?_)
                      · (try simp only [beq_iff_eq, bne_iff_ne, ne_eq, decide_eq_true_eq, decide_eq_false_iff_not, beq_eq_false_iff_ne, bne_eq_false_iff_eq, Bool.not_eq_true', Bool.not_eq_false', Bool.not_eq_eq_eq_not, Bool.not_true, Bool.not_false, gt_iff_lt, ge_iff_le, Int.not_lt, Int.not_le] at h13)
                        try (exfalso; first | contradiction | omega)
                        all_goals
                          
                          refine wc_seq ?_
                          refine wc_region ?_
                          refine wl_val (r_assign rfl) (ltn rfl) ?_
                          refine wl_nil ?_
                          refine wq_seq ?_
                          refine wc_ret ?_
                          refine wq_then_ret ?_
                          refine wq_end1 (.inl rfl) Try.results18 rfl ?_
                          have hK : killM E place way l = (0, E, place) := by unfold killM; rw [if_neg (by omega), if_neg (by omega), if_neg (by omega), if_pos (by omega)]
                          rw [hK]
                          exact ⟨rfl, Holds.mk_rring (Holds.mk_ll' (HR.f3.f3.f3)).f2⟩
                      · (try simp only [beq_iff_eq, bne_iff_ne, ne_eq, decide_eq_true_eq, decide_eq_false_iff_not, beq_eq_false_iff_ne, bne_eq_false_iff_eq, Bool.not_eq_true', Bool.not_eq_false', Bool.not_eq_eq_eq_not, Bool.not_true, Bool.not_false, gt_iff_lt, ge_iff_le, Int.not_lt, Int.not_le] at h13)
                        try (exfalso; first | contradiction | omega)
                        all_goals
                          
                          refine wc_skip ?_
                          refine wq_seq ?_
                          refine wc_seq ?_
                          refine wc_region ?_
                          refine wl_val (r_move rfl) (ltn rfl) ?_
                          refine wl_eff (e_call (r_call rfl Try.func30 rfl rfl) (both1_ret HR (fun W HW => hr _ (HW.right.right.right)) (by omega))) (ltn rfl) ?_
                          rintro u34 w34 H34
                          refine wl_eff (e_lit_row (vs := [_]) H34 Try.underlying23 Try.sizeOf22 Try.zeroValue22 rfl rfl rfl (by decide) (ones_cons (by first | rfl | exact Rd.one ((H34).row_rd)) ones_nil)) (ltn rfl) ?_
                          rintro l35 w35 H35
                          refine wl_val (r_assign rfl) (ltn rfl) ?_
                          refine wl_nil ?_
                          refine wq_seq ?_
                          refine wc_seq ?_
                          refine wc_region ?_
                          refine wl_val (r_move rfl) (ltn rfl) ?_
                          refine wl_val (r_move rfl) (ltn rfl) ?_
                          refine wl_val (r_move rfl) (ltn rfl) ?_
                          refine wl_val (r_nil rfl) (ltn rfl) ?_
                          refine wl_val ((by first | exact r_field0 0 Try.underlying48 rfl rfl Try.sizeOf23 (by decide) rfl | exact r_field 0 Try.underlying48 rfl rfl Try.sizeOf23 (by decide) rfl)) (ltn rfl) ?_
                          refine wl_val (r_load (plain_of Try.underlying23 rfl) rfl (cell_of_blk (H35.f5).get.2 rfl)) (ltn rfl) ?_
                          refine wl_eff (e_append H35 Try.underlying23 (show (Try.prog.info? 22).map (fun i => (i.zero, i.size, i.bytes)) = some (some (.slice none 0 0), 1, 24) by kernel_rfl) rfl rfl rfl ((H35.f3).row_rd) ((H35.f4).imms_ones) (by omega) (by omega)) (ltn rfl) ?_
                          rintro l36 w36 H36
                          refine wl_val (r_nil rfl) (ltn rfl) ?_
                          refine wl_val ((by first | exact r_field0 0 Try.underlying48 rfl rfl Try.sizeOf23 (by decide) rfl | exact r_field 0 Try.underlying48 rfl rfl Try.sizeOf23 (by decide) rfl)) (ltn rfl) ?_
                          refine wl_eff0 (e_storeL 0 (l' := [_, _]) H36.f5 Try.sizeOf23 rfl rfl (by first | rfl | exact Rd.one ((H36).row_rd)) rfl rfl) ?_
                          rintro _ w37 H37
                          refine wl_nil ?_
                          refine wq_seq ?_
                          refine wc_seq ?_
                          refine wc_seq ?_
                          refine wc_region ?_
                          refine wl_val (r_move rfl) (ltn rfl) ?_
                          refine wl_val (r_nil rfl) (ltn rfl) ?_
                          refine wl_val ((by first | exact r_field0 0 Try.underlying48 rfl rfl Try.sizeOf23 (by decide) rfl | exact r_field 0 Try.underlying48 rfl rfl Try.sizeOf23 (by decide) rfl)) (ltn rfl) ?_
                          refine wl_val (r_load (plain_of Try.underlying23 rfl) rfl (cell_of_blk (H37).get.2 rfl)) (ltn rfl) ?_
                          refine wl_val (r_lenS ((H37.f2).row_rd) Try.underlying23 rfl) (ltn rfl) ?_
                          refine wl_val (r_gtr rfl rfl) (ltn rfl) ?_
                          refine wl_nil ?_
                          refine wq_seq ?_
                          refine wc_cond rfl (fun h14 => ?_) (fun h14 => ?_)
                          · (try simp only [beq_iff_eq, bne_iff_ne, ne_eq, decide_eq_true_eq, decide_eq_false_iff_not, beq_eq_false_iff_ne, bne_eq_false_iff_eq, Bool.not_eq_true', Bool.not_eq_false', Bool.not_eq_eq_eq_not, Bool.not_true, Bool.not_false, gt_iff_lt, ge_iff_le, Int.not_lt, Int.not_le] at h14)
                            try (exfalso; first | contradiction | omega)
                            all_goals
                              
                              refine wc_region ?_
                              refine wl_val (r_move rfl) (ltn rfl) ?_
                              refine wl_val (r_move rfl) (ltn rfl) ?_
                              refine wl_val (r_nil rfl) (ltn rfl) ?_
                              refine wl_val ((by first | exact r_field0 0 Try.underlying48 rfl rfl Try.sizeOf23 (by decide) rfl | exact r_field 0 Try.underlying48 rfl rfl Try.sizeOf23 (by decide) rfl)) (ltn rfl) ?_
                              refine wl_val (r_load (plain_of Try.underlying23 rfl) rfl (cell_of_blk (H37).get.2 rfl)) (ltn rfl) ?_
                              refine wl_val (r_sliceS ((H37.f2).row_rd) Try.underlying23 Try.sizeOf22 rfl rfl rfl (by omega)) (ltn rfl) ?_
                              refine wl_val (r_nil rfl) (ltn rfl) ?_
                              refine wl_val ((by first | exact r_field0 0 Try.underlying48 rfl rfl Try.sizeOf23 (by decide) rfl | exact r_field 0 Try.underlying48 rfl rfl Try.sizeOf23 (by decide) rfl)) (ltn rfl) ?_
                              refine wl_eff0 (e_storeL 0 (l' := [_, _]) H37 Try.sizeOf23 rfl rfl (by first | rfl | exact Rd.one (Rd.upto1 ((H37.f2).row_rd) (by omega))) rfl rfl) ?_
                              rintro _ w38 H38
                              refine wl_nil ?_
                              refine wq_seq ?_
                              refine wc_seq ?_
                              refine wc_region ?_
                              refine wl_val (r_move rfl) (ltn rfl) ?_
                              refine wl_val (r_nil rfl) (ltn rfl) ?_
                              refine wl_val ((by first | exact r_field0 1 Try.underlying48 rfl rfl Try.sizeOf3 (by decide) rfl | exact r_field 1 Try.underlying48 rfl rfl Try.sizeOf3 (by decide) rfl)) (ltn rfl) ?_
                              refine wl_eff0 (e_storeL 1 (l' := [_, _]) H38 Try.sizeOf3 rfl rfl (by first | rfl | assumption) rfl rfl) ?_
                              rintro _ w39 H39
                              refine wl_nil ?_
                              refine wq_seq ?_
                              refine wc_seq ?_
                              refine wc_region ?_
                              refine wl_val (r_assign rfl) (ltn rfl) ?_
                              refine wl_nil ?_
                              refine wq_seq ?_
                              refine wc_ret ?_
                              refine wq_end1 (.inl rfl) Try.results18 rfl ?_
                              have Hf40 := H39.f3.freezeI
                              have hK : killM E place way l = (0, (l :: E).take 60, 0) := by unfold killM; rw [if_neg (by omega), if_neg (by omega), if_neg (by omega), if_neg (by omega)]
                              rw [hK]
                              have H2 := (Hf40.f4.right.f2.f3.f4.f4).imms_cons.f2
                              have H3 := Holds.mk_ll' H2
                              first
                                | (rw [List.take_of_length_le (by simp; omega)]; exact ⟨rfl, Holds.mk_rring H3.f2⟩)
                                | exact ⟨rfl, Holds.mk_rring (H3.ll_cut0 (n := 60) (by simp; omega)).f2⟩
                          · (try simp only [beq_iff_eq, bne_iff_ne, ne_eq, decide_eq_true_eq, decide_eq_false_iff_not, beq_eq_false_iff_ne, bne_eq_false_iff_eq, Bool.not_eq_true', Bool.not_eq_false', Bool.not_eq_eq_eq_not, Bool.not_true, Bool.not_false, gt_iff_lt, ge_iff_le, Int.not_lt, Int.not_le] at h14)
                            try (exfalso; first | contradiction | omega)
                            all_goals
                              
                              refine wc_skip ?_
                              refine wq_seq ?_
                              refine wc_seq ?_
                              refine wc_region ?_
                              refine wl_val (r_move rfl) (ltn rfl) ?_
                              refine wl_val (r_nil rfl) (ltn rfl) ?_
                              refine wl_val ((by first | exact r_field0 1 Try.underlying48 rfl rfl Try.sizeOf3 (by decide) rfl | exact r_field 1 Try.underlying48 rfl rfl Try.sizeOf3 (by decide) rfl)) (ltn rfl) ?_
                              refine wl_eff0 (e_storeL 1 (l' := [_, _]) H37 Try.sizeOf3 rfl rfl (by first | rfl | assumption) rfl rfl) ?_
                              rintro _ w41 H41
                              refine wl_nil ?_
                              refine wq_seq ?_
                              refine wc_seq ?_
                              refine wc_region ?_
                              refine wl_val (r_assign rfl) (ltn rfl) ?_
                              refine wl_nil ?_
                              refine wq_seq ?_
                              refine wc_ret ?_
                              refine wq_end1 (.inl rfl) Try.results18 rfl ?_
                              have Hf42 := H41.f3.freezeI
                              have hK : killM E place way l = (0, (l :: E).take 60, 0) := by unfold killM; rw [if_neg (by omega), if_neg (by omega), if_neg (by omega), if_neg (by omega)]
                              rw [hK]
                              have H2 := (Hf42.f4.right.f2.f3.f4.f4).imms_cons.f2
                              have H3 := Holds.mk_ll' H2
                              first
                                | (rw [List.take_of_length_le (by simp; omega)]; exact ⟨rfl, Holds.mk_rring H3.f2⟩)
                                | exact ⟨rfl, Holds.mk_rring (H3.ll_cut0 (n := 60) (by simp; omega)).f2⟩
                  · (try simp only [beq_iff_eq, bne_iff_ne, ne_eq, decide_eq_true_eq, decide_eq_false_iff_not, beq_eq_false_iff_ne, bne_eq_false_iff_eq, Bool.not_eq_true', Bool.not_eq_false', Bool.not_eq_eq_eq_not, Bool.not_true, Bool.not_false, gt_iff_lt, ge_iff_le, Int.not_lt, Int.not_le] at h12)
                    try (exfalso; first | contradiction | omega)
                    all_goals
                      refine wl_no rfl rfl rfl (ltn rfl) ?_
                      refine wl_no rfl rfl rfl (ltn rfl) ?_
                      refine wl_val (r_pick_f rfl rfl) (ltn rfl) ?_
                      refine wl_nil ?_
                      refine wq_seq ?_
                      refine wc_cond_f rfl ?_
                      refine wc_skip ?_
                      refine wq_seq ?_
                      refine wc_seq ?_
                      refine wc_region ?_
                      refine wl_val (r_move rfl) (ltn rfl) ?_
                      refine wl_eff (e_call (r_call rfl Try.func30 rfl rfl) (both1_ret HR (fun W HW => hr _ (HW.right.right.right)) (by omega))) (ltn rfl) ?_
                      rintro u43 w43 H43
                      refine wl_eff (e_lit_row (vs := [_]) H43 Try.underlying23 Try.sizeOf22 Try.zeroValue22 rfl rfl rfl (by decide) (ones_cons (by first | rfl | exact Rd.one ((H43).row_rd)) ones_nil)) (ltn rfl) ?_
                      rintro l44 w44 H44
                      refine wl_val (r_assign rfl) (ltn rfl) ?_
                      refine wl_nil ?_
                      refine wq_seq ?_
                      refine wc_seq ?_
                      refine wc_region ?_
                      refine wl_val (r_move rfl) (ltn rfl) ?_
                      refine wl_val (r_move rfl) (ltn rfl) ?_
                      refine wl_val (r_move rfl) (ltn rfl) ?_
                      refine wl_val (r_nil rfl) (ltn rfl) ?_
                      refine wl_val ((by first | exact r_field0 0 Try.underlying48 rfl rfl Try.sizeOf23 (by decide) rfl | exact r_field 0 Try.underlying48 rfl rfl Try.sizeOf23 (by decide) rfl)) (ltn rfl) ?_
                      refine wl_val (r_load (plain_of Try.underlying23 rfl) rfl (cell_of_blk (H44.f5).get.2 rfl)) (ltn rfl) ?_
                      refine wl_eff (e_append H44 Try.underlying23 (show (Try.prog.info? 22).map (fun i => (i.zero, i.size, i.bytes)) = some (some (.slice none 0 0), 1, 24) by kernel_rfl) rfl rfl rfl ((H44.f3).row_rd) ((H44.f4).imms_ones) (by omega) (by omega)) (ltn rfl) ?_
                      rintro l45 w45 H45
                      refine wl_val (r_nil rfl) (ltn rfl) ?_
                      refine wl_val ((by first | exact r_field0 0 Try.underlying48 rfl rfl Try.sizeOf23 (by decide) rfl | exact r_field 0 Try.underlying48 rfl rfl Try.sizeOf23 (by decide) rfl)) (ltn rfl) ?_
                      refine wl_eff0 (e_storeL 0 (l' := [_, _]) H45.f5 Try.sizeOf23 rfl rfl (by first | rfl | exact Rd.one ((H45).row_rd)) rfl rfl) ?_
                      rintro _ w46 H46
                      refine wl_nil ?_
                      refine wq_seq ?_
                      refine wc_seq ?_
                      refine wc_seq ?_
                      refine wc_region ?_
                      refine wl_val (r_move rfl) (ltn rfl) ?_
                      refine wl_val (r_nil rfl) (ltn rfl) ?_
                      refine wl_val ((by first | exact r_field0 0 Try.underlying48 rfl rfl Try.sizeOf23 (by decide) rfl | exact r_field 0 Try.underlying48 rfl rfl Try.sizeOf23 (by decide) rfl)) (ltn rfl) ?_
                      refine wl_val (r_load (plain_of Try.underlying23 rfl) rfl (cell_of_blk (H46).get.2 rfl)) (ltn rfl) ?_
                      refine wl_val (r_lenS ((H46.f2).row_rd) Try.underlying23 rfl) (ltn rfl) ?_
                      refine wl_val (r_gtr rfl rfl) (ltn rfl) ?_
                      refine wl_nil ?_
                      refine wq_seq ?_
                      refine wc_cond rfl (fun h15 => ?_) (fun h15 => ?_)
                      · (try simp only [beq_iff_eq, bne_iff_ne, ne_eq, decide_eq_true_eq, decide_eq_false_iff_not, beq_eq_false_iff_ne, bne_eq_false_iff_eq, Bool.not_eq_true', Bool.not_eq_false', Bool.not_eq_eq_eq_not, Bool.not_true, Bool.not_false, gt_iff_lt, ge_iff_le, Int.not_lt, Int.not_le] at h15)
                        try (exfalso; first | contradiction | omega)
                        all_goals
                          
                          refine wc_region ?_
                          refine wl_val (r_move rfl) (ltn rfl) ?_
                          refine wl_val (r_move rfl) (ltn rfl) ?_
                          refine wl_val (r_nil rfl) (ltn rfl) ?_
                          refine wl_val ((by first | exact r_field0 0 Try.underlying48 rfl rfl Try.sizeOf23 (by decide) rfl | exact r_field 0 Try.underlying48 rfl rfl Try.sizeOf23 (by decide) rfl)) (ltn rfl) ?_
                          refine wl_val (r_load (plain_of Try.underlying23 rfl) rfl (cell_of_blk (H46).get.2 rfl)) (ltn rfl) ?_
                          refine wl_val (r_sliceS ((H46.f2).row_rd) Try.underlying23 Try.sizeOf22 rfl rfl rfl (by omega)) (ltn rfl) ?_
                          refine wl_val (r_nil rfl) (ltn rfl) ?_
                          refine wl_val ((by first | exact r_field0 0 Try.underlying48 rfl rfl Try.sizeOf23 (by decide) rfl | exact r_field 0 Try.underlying48 rfl rfl Try.sizeOf23 (by decide) rfl)) (ltn rfl) ?_
                          refine wl_eff0 (e_storeL 0 (l' := [_, _]) H46 Try.sizeOf23 rfl rfl (by first | rfl | exact Rd.one (Rd.upto1 ((H46.f2).row_rd) (by omega))) rfl rfl) ?_
                          rintro _ w47 H47
                          refine wl_nil ?_
                          refine wq_seq ?_
                          refine wc_seq ?_
                          refine wc_region ?_
                          refine wl_val (r_move rfl) (ltn rfl) ?_
                          refine wl_val (r_nil rfl) (ltn rfl) ?_
                          refine wl_val ((by first | exact r_field0 1 Try.underlying48 rfl rfl Try.sizeOf3 (by decide) rfl | exact r_field 1 Try.underlying48 rfl rfl Try.sizeOf3 (by decide) rfl)) (ltn rfl) ?_
                          refine wl_eff0 (e_storeL 1 (l' := [_, _]) H47 Try.sizeOf3 rfl rfl (by first | rfl | assumption) rfl rfl) ?_
                          rintro _ w48 H48
                          refine wl_nil ?_
                          refine wq_seq ?_
                          refine wc_seq ?_
                          refine wc_region ?_
                          refine wl_val (r_assign rfl) (ltn rfl) ?_
                          refine wl_nil ?_
                          refine wq_seq ?_
                          refine wc_ret ?_
                          refine wq_end1 (.inl rfl) Try.results18 rfl ?_
                          have Hf49 := H48.f3.freezeI
                          have hK : killM E place way l = (0, (l :: E).take 60, 0) := by unfold killM; rw [if_neg (by omega), if_neg (by omega), if_neg (by omega), if_neg (by omega)]
                          rw [hK]
                          have H2 := (Hf49.f4.right.f2.f3.f4.f4).imms_cons.f2
                          have H3 := Holds.mk_ll' H2
                          first
                            | (rw [List.take_of_length_le (by simp; omega)]; exact ⟨rfl, Holds.mk_rring H3.f2⟩)
                            | exact ⟨rfl, Holds.mk_rring (H3.ll_cut0 (n := 60) (by simp; omega)).f2⟩
                      · (try simp only [beq_iff_eq, bne_iff_ne, ne_eq, decide_eq_true_eq, decide_eq_false_iff_not, beq_eq_false_iff_ne, bne_eq_false_iff_eq, Bool.not_eq_true', Bool.not_eq_false', Bool.not_eq_eq_eq_not, Bool.not_true, Bool.not_false, gt_iff_lt, ge_iff_le, Int.not_lt, Int.not_le] at h15)
                        try (exfalso; first | contradiction | omega)
                        all_goals
                          
                          refine wc_skip ?_
                          refine wq_seq ?_
                          refine wc_seq ?_
                          refine wc_region ?_
                          refine wl_val (r_move rfl) (ltn rfl) ?_
                          refine wl_val (r_nil rfl) (ltn rfl) ?_
                          refine wl_val ((by first | exact r_field0 1 Try.underlying48 rfl rfl Try.sizeOf3 (by decide) rfl | exact r_field 1 Try.underlying48 rfl rfl Try.sizeOf3 (by decide) rfl)) (ltn rfl) ?_
                          refine wl_eff0 (e_storeL 1 (l' := [_, _]) H46 Try.sizeOf3 rfl rfl (by first | rfl | assumption) rfl rfl) ?_
                          rintro _ w50 H50
                          refine wl_nil ?_
                          refine wq_seq ?_
                          refine wc_seq ?_
                          refine wc_region ?_
                          refine wl_val (r_assign rfl) (ltn rfl) ?_
                          refine wl_nil ?_
                          refine wq_seq ?_
                          refine wc_ret ?_
                          refine wq_end1 (.inl rfl) Try.results18 rfl ?_
                          have Hf51 := H50.f3.freezeI
                          have hK : killM E place way l = (0, (l :: E).take 60, 0) := by unfold killM; rw [if_neg (by omega), if_neg (by omega), if_neg (by omega), if_neg (by omega)]
                          rw [hK]
                          have H2 := (Hf51.f4.right.f2.f3.f4.f4).imms_cons.f2
                          have H3 := Holds.mk_ll' H2
                          first
                            | (rw [List.take_of_length_le (by simp; omega)]; exact ⟨rfl, Holds.mk_rring H3.f2⟩)
                            | exact ⟨rfl, Holds.mk_rring (H3.ll_cut0 (n := 60) (by simp; omega)).f2⟩
theorem rring_yank_ret (H : Holds w0 w (RefRing p E place • F)) (hE2 : ∀ e ∈ E, e.length ≤ 1024) (hp : place < E.length ∨ place = 0) :
    Ret Try.prog 19 #[.pointer (some ⟨p, 0, none⟩)] w fun v' w' => ∃ u, v' = .tuple #[u, .int .i64 (if E.length = 0 then 6 else 0)] ∧ Holds w0 w' (RowI 21 .i32 u (E.getD place []) • RefRing p E place • F) := by
  obtain ⟨u, HR⟩ := H.rring
  obtain ⟨us, HR⟩ := HR.swap.ll
  obtain ⟨au, cu, rfl, -⟩ := (HR.row_rd).form
  have hE0 : place < E.length → (E.getD place []).length ≤ 1024 := fun h => hE2 _ (getD_mem' h)
  refine ret_enter Try.func19 rfl Try.ntmps19 (Nat.le_of_ble_eq_true rfl) ?_
  dsimp only [slots0, Nat.reduceAdd]
  refine wc_seq ?_
  refine wc_region ?_
  refine wl_val (r_assign rfl) (ltn rfl) ?_
  refine wl_val (r_assign rfl) (ltn rfl) ?_
  refine wl_nil ?_
  refine wq_seq ?_
  refine wc_seq ?_
  refine wc_seq ?_
  refine wc_region ?_
  refine wl_val (r_move rfl) (ltn rfl) ?_
  refine wl_val (r_nil rfl) (ltn rfl) ?_
  refine wl_val ((by first | exact r_field0 0 Try.underlying48 rfl rfl Try.sizeOf23 (by decide) rfl | exact r_field 0 Try.underlying48 rfl rfl Try.sizeOf23 (by decide) rfl)) (ltn rfl) ?_
  refine wl_val (r_load (plain_of Try.underlying23 rfl) rfl (cell_of_blk (HR.f3).get.2 rfl)) (ltn rfl) ?_
  refine wl_val (r_lenS ((HR).row_rd) Try.underlying23 rfl) (ltn rfl) ?_
  refine wl_val (r_eql rfl rfl) (ltn rfl) ?_
  refine wl_nil ?_
  refine wq_seq ?_
  refine wc_cond rfl (fun h1 => ?_) (fun h1 => ?_)
  · (try simp only [beq_iff_eq, bne_iff_ne, ne_eq, decide_eq_true_eq, decide_eq_false_iff_not, beq_eq_false_iff_ne, bne_eq_false_iff_eq, Bool.not_eq_true', Bool.not_eq_false', Bool.not_eq_eq_eq_not, Bool.not_true, Bool.not_false, gt_iff_lt, ge_iff_le, Int.not_lt, Int.not_le] at h1)
    try (exfalso; first | contradiction | omega)
    all_goals
      
      refine wc_seq ?_
      refine wc_region ?_
      refine wl_val (r_assign rfl) (ltn rfl) ?_
      refine wl_val (r_assign rfl) (ltn rfl) ?_
      refine wl_nil ?_
      refine wq_seq ?_
      refine wc_ret ?_
      refine wq_then_ret ?_
      refine wq_end2 (.inl rfl) Try.results19 rfl rfl ?_
      obtain rfl : E = [] := List.eq_nil_of_length_eq_zero (by omega)
      have HR2 := Holds.mk_rring (Holds.mk_ll' (HR.f3.f3.f3)).f2
      exact ⟨_, rfl, HR2.row_nil none⟩
  · (try simp only [beq_iff_eq, bne_iff_ne, ne_eq, decide_eq_true_eq, decide_eq_false_iff_not, beq_eq_false_iff_ne, bne_eq_false_iff_eq, Bool.not_eq_true', Bool.not_eq_false', Bool.not_eq_eq_eq_not, Bool.not_true, Bool.not_false, gt_iff_lt, ge_iff_le, Int.not_lt, Int.not_le] at h1)
    try (exfalso; first | contradiction | omega)
    all_goals
      
      refine wc_skip ?_
      refine wq_seq ?_
      refine wc_seq ?_
      have H3d0 := HR.drew
      have hS3d0 := Holds.kp (H3d0.f3.f3.f3)
      refine wd_beginK [3, 7, 9] hS3d0 (by kernel_rfl) (by kernel_rfl) rfl ?_
      refine wd_takeT 0 rfl (by kernel_rfl) (by kernel_rfl) hS3d0 (fun _ => r_move rfl) (ltn rfl) ?_
      refine wd_takeT 1 rfl (by kernel_rfl) (by kernel_rfl) hS3d0 (fun _ => r_nil rfl) (ltn rfl) ?_
      refine wd_takeT 2 rfl (by kernel_rfl) (by kernel_rfl) hS3d0 (fun _ => (by first | exact r_field0 0 Try.underlying48 rfl rfl Try.sizeOf23 (by decide) rfl | exact r_field 0 Try.underlying48 rfl rfl Try.sizeOf23 (by decide) rfl)) (ltn rfl) ?_
      refine wd_take 3 rfl (by kernel_rfl) (by kernel_rfl) hS3d0 (by decide) (fun W hW => r_load (plain_of Try.underlying23 rfl) rfl (cell_of_blk ((Kp.h hW).f3).get.2 rfl)) (ltn rfl) ?_
      refine wd_takeT 4 rfl (by kernel_rfl) (by kernel_rfl) hS3d0 (fun _ => r_move rfl) (ltn rfl) ?_
      refine wd_takeT 5 rfl (by kernel_rfl) (by kernel_rfl) hS3d0 (fun _ => r_nil rfl) (ltn rfl) ?_
      refine wd_takeT 6 rfl (by kernel_rfl) (by kernel_rfl) hS3d0 (fun _ => (by first | exact r_field0 1 Try.underlying48 rfl rfl Try.sizeOf3 (by decide) rfl | exact r_field 1 Try.underlying48 rfl rfl Try.sizeOf3 (by decide) rfl)) (ltn rfl) ?_
      refine wd_take 7 rfl (by kernel_rfl) (by kernel_rfl) hS3d0 (by decide) (fun W hW => r_load (plain_of Try.underlying3 rfl) rfl (cell_of_blk ((Kp.h hW).f3).get.2 rfl)) (ltn rfl) ?_
      obtain ⟨bu, ou, cu, eu⟩ := Rd.posV ((H3d0).row_rd) (by omega)
      cases eu
      refine wd_takeT 8 rfl (by kernel_rfl) (by kernel_rfl) hS3d0 (fun _ => r_index Try.underlying23 Try.sizeOf22 rfl rfl (by omega)) (ltn rfl) ?_
      refine wd_take 9 rfl (by kernel_rfl) (by kernel_rfl) hS3d0 (by decide) (fun W hW => r_load (plain_of Try.underlying22 rfl) rfl (by first | exact Rd.at1n (((Kp.h hW)).row_rd) (by omega) | exact Rd.at0 (((Kp.h hW)).row_rd) (by omega) | exact Rd.at1 (((Kp.h hW)).row_rd) (by omega))) (ltn rfl) ?_
      refine wd_gen (fun x19_1 hx19_1 => ?_)
      refine wd_eff 10 rfl (by kernel_rfl) (e_call (r_call rfl Try.func30 rfl rfl) (both1_ret H3d0 (fun W HW => (by rw [hx19_1]; exact (HW.f2).imms_rd (by omega))) (by omega))) (ltn rfl) ?_
      rintro u2 w2 H2
      have hS2n := Holds.kp (H2.f4.f4.f4.f4)
      refine keepX hS2n (by kernel_rfl) ?_
      refine wd_takeT 11 rfl (by kernel_rfl) (by kernel_rfl) hS2n (fun _ => r_assign rfl) (ltn rfl) ?_
      refine wd_takeT 12 rfl (by kernel_rfl) (by kernel_rfl) hS2n (fun _ => r_assign rfl) (ltn rfl) ?_
      refine wd_done (by kernel_rfl) ?_
      refine wq_seq ?_
      refine wc_ret ?_
      refine wq_end2 (.inl rfl) Try.results19 rfl rfl ?_
      rw [if_neg (by omega)]
      exact ⟨_, rfl, (Holds.mk_rring (Holds.mk_ll' (H2.f4.f2.f4.f4)).f3).f2⟩
theorem rring_rotate_ret {n : Int} (H : Holds w0 w (RefRing p E place • F)) (hE : E.length ≤ 60) (hE2 : ∀ e ∈ E, e.length ≤ 1024) (hp : place < E.length ∨ place = 0) :
    Ret Try.prog 20 #[.pointer (some ⟨p, 0, none⟩), .int .i64 n] w fun v' w' => ∃ u, v' = .tuple #[u, .int .i64 (if E.length = 0 then 6 else 0)] ∧
      Holds w0 w' (RowI 21 .i32 u (if E.length = 0 then [] else E.getD (rotM E.length place n) []) • RefRing p E (if E.length = 0 then place else rotM E.length place n) • F) := by
  obtain ⟨u, HR⟩ := H.rring
  obtain ⟨us, HR⟩ := HR.swap.ll
  obtain ⟨au, cu, rfl, -⟩ := (HR.row_rd).form
  have hE0 : 0 < E.length → (E.getD (rotM E.length place n) []).length ≤ 1024 := fun h => hE2 _ (getD_mem' (rotM_lt h))
  refine ret_enter Try.func20 rfl Try.ntmps20 (Nat.le_of_ble_eq_true rfl) ?_
  dsimp only [slots0, Nat.reduceAdd]
  refine wc_seq ?_
  refine wc_region ?_
  refine wl_val (r_assign rfl) (ltn rfl) ?_
  refine wl_val (r_assign rfl) (ltn rfl) ?_
  refine wl_nil ?_
  refine wq_seq ?_
  refine wc_seq ?_
  refine wc_seq ?_
  refine wc_region ?_
  refine wl_val (r_move rfl) (ltn rfl) ?_
  refine wl_val (r_nil rfl) (ltn rfl) ?_
  refine wl_val ((by first | exact r_field0 0 Try.underlying48 rfl rfl Try.sizeOf23 (by decide) rfl | exact r_field 0 Try.underlying48 rfl rfl Try.sizeOf23 (by decide) rfl)) (ltn rfl) ?_
  refine wl_val (r_load (plain_of Try.underlying23 rfl) rfl (cell_of_blk (HR.f3).get.2 rfl)) (ltn rfl) ?_
  refine wl_val (r_lenS ((HR).row_rd) Try.underlying23 rfl) (ltn rfl) ?_
  refine wl_val (r_eql rfl rfl) (ltn rfl) ?_
  refine wl_nil ?_
  refine wq_seq ?_
  refine wc_cond rfl (fun h1 => ?_) (fun h1 => ?_)
  · (try simp only [beq_iff_eq, bne_iff_ne, ne_eq, decide_eq_true_eq, decide_eq_false_iff_not, beq_eq_false_iff_ne, bne_eq_false_iff_eq, Bool.not_eq_true', Bool.not_eq_false', Bool.not_eq_eq_eq_not, Bool.not_true, Bool.not_false, gt_iff_lt, ge_iff_le, Int.not_lt, Int.not_le] at h1)
    try (exfalso; first | contradiction | omega)
    all_goals
      
      refine wc_seq ?_
      refine wc_region ?_
      refine wl_val (r_assign rfl) (ltn rfl) ?_
      refine wl_val (r_assign rfl) (ltn rfl) ?_
      refine wl_nil ?_
      refine wq_seq ?_
      refine wc_ret ?_
      refine wq_then_ret ?_
      refine wq_end2 (.inl rfl) Try.results20 rfl rfl ?_
      obtain rfl : E = [] := List.eq_nil_of_length_eq_zero (by omega)
      have HR2 := Holds.mk_rring (Holds.mk_ll' (HR.f3.f3.f3)).f2
      exact ⟨_, rfl, HR2.row_nil none⟩
  · (try simp only [beq_iff_eq, bne_iff_ne, ne_eq, decide_eq_true_eq, decide_eq_false_iff_not, beq_eq_false_iff_ne, bne_eq_false_iff_eq, Bool.not_eq_true', Bool.not_eq_false', Bool.not_eq_eq_eq_not, Bool.not_true, Bool.not_false, gt_iff_lt, ge_iff_le, Int.not_lt, Int.not_le] at h1)
    try (exfalso; first | contradiction | omega)
    all_goals
      
      refine wc_skip ?_
      refine wq_seq ?_
      refine wc_seq ?_
      refine wc_region ?_
      refine wl_val (r_move rfl) (ltn rfl) ?_
      refine wl_val (r_nil rfl) (ltn rfl) ?_
      refine wl_val ((by first | exact r_field0 0 Try.underlying48 rfl rfl Try.sizeOf23 (by decide) rfl | exact r_field 0 Try.underlying48 rfl rfl Try.sizeOf23 (by decide) rfl)) (ltn rfl) ?_
      refine wl_val (r_load (plain_of Try.underlying23 rfl) rfl (cell_of_blk (HR.f3).get.2 rfl)) (ltn rfl) ?_
      refine wl_val (r_lenS ((HR).row_rd) Try.underlying23 rfl) (ltn rfl) ?_
      have hlt := rotM_lt (place := place) (n := n) (show 0 < E.length by omega)
      have hrot := rot_eq E.length place n (by omega)
      have hb1 := tmod_bd n (show (0 : Int) < E.length by omega)
      have hb2 := tmod_bd ((place : Int) + n.tmod E.length) (show (0 : Int) < E.length by omega)
      have hE1 := hE0 (by omega)
      refine wl_val (r_assign rfl) (ltn rfl) ?_
      refine wl_nil ?_
      refine wq_seq ?_
      refine wc_seq ?_
      have H4d0 := HR.drew
      have hS4d0 := Holds.kp (H4d0.f3.f3.f3)
      refine wd_beginK [4] hS4d0 (by kernel_rfl) (by kernel_rfl) rfl ?_
      refine wd_takeT 0 rfl (by kernel_rfl) (by kernel_rfl) hS4d0 (fun _ => r_move rfl) (ltn rfl) ?_
      refine wd_takeT 1 rfl (by kernel_rfl) (by kernel_rfl) hS4d0 (fun _ => r_move rfl) (ltn rfl) ?_
      refine wd_takeT 2 rfl (by kernel_rfl) (by kernel_rfl) hS4d0 (fun _ => r_nil rfl) (ltn rfl) ?_
      refine wd_takeT 3 rfl (by kernel_rfl) (by kernel_rfl) hS4d0 (fun _ => (by first | exact r_field0 1 Try.underlying48 rfl rfl Try.sizeOf3 (by decide) rfl | exact r_field 1 Try.underlying48 rfl rfl Try.sizeOf3 (by decide) rfl)) (ltn rfl) ?_
      refine wd_take 4 rfl (by kernel_rfl) (by kernel_rfl) hS4d0 (by decide) (fun W hW => r_load (plain_of Try.underlying3 rfl) rfl (cell_of_blk ((Kp.h hW).f3).get.2 rfl)) (ltn rfl) ?_
      refine wd_takeT 5 rfl (by kernel_rfl) (by kernel_rfl) hS4d0 (fun _ => r_move rfl) (ltn rfl) ?_
      refine wd_takeT 6 rfl (by kernel_rfl) (by kernel_rfl) hS4d0 (fun _ => r_move rfl) (ltn rfl) ?_
      refine wd_takeT 7 rfl (by kernel_rfl) (by kernel_rfl) hS4d0 (fun _ => r_trem rfl rfl (by omega)) (ltn rfl) ?_
      refine wd_takeT 8 rfl (by kernel_rfl) (by kernel_rfl) hS4d0 (fun _ => r_add rfl rfl (by omega)) (ltn rfl) ?_
      refine wd_takeT 9 rfl (by kernel_rfl) (by kernel_rfl) hS4d0 (fun _ => r_move rfl) (ltn rfl) ?_
      refine wd_takeT 10 rfl (by kernel_rfl) (by kernel_rfl) hS4d0 (fun _ => r_trem rfl rfl (by omega)) (ltn rfl) ?_
      refine wd_takeT 11 rfl (by kernel_rfl) (by kernel_rfl) hS4d0 (fun _ => r_move rfl) (ltn rfl) ?_
      refine wd_takeT 12 rfl (by kernel_rfl) (by kernel_rfl) hS4d0 (fun _ => r_add rfl rfl (by omega)) (ltn rfl) ?_
      refine wd_takeT 13 rfl (by kernel_rfl) (by kernel_rfl) hS4d0 (fun _ => r_move rfl) (ltn rfl) ?_
      refine wd_takeT 14 rfl (by kernel_rfl) (by kernel_rfl) hS4d0 (fun _ => r_trem rfl rfl (by omega)) (ltn rfl) ?_
      refine wd_takeT 15 rfl (by kernel_rfl) (by kernel_rfl) hS4d0 (fun _ => r_nil rfl) (ltn rfl) ?_
      refine wd_takeT 16 rfl (by kernel_rfl) (by kernel_rfl) hS4d0 (fun _ => (by first | exact r_field0 1 Try.underlying48 rfl rfl Try.sizeOf3 (by decide) rfl | exact r_field 1 Try.underlying48 rfl rfl Try.sizeOf3 (by decide) rfl)) (ltn rfl) ?_
      refine wd_eff0 17 rfl (by kernel_rfl) (e_storeL 1 (l' := [_, _]) H4d0.f3 Try.sizeOf3 rfl rfl (by first | rfl | assumption) rfl rfl) ?_
      rintro _ w1 H1
      rw [hrot] at H1
      have hS1n := Holds.kp (H1.f3.f3.f3)
      refine keepX hS1n (by kernel_rfl) ?_
      refine wd_done (by kernel_rfl) ?_
      refine wq_seq ?_
      refine wc_seq ?_
      have H5d1 := H1.drew
      have hS5d1 := Holds.kp (H5d1.f3.f3.f3)
      refine wd_beginK [3, 7, 9] hS5d1 (by kernel_rfl) (by kernel_rfl) rfl ?_
      refine wd_takeT 0 rfl (by kernel_rfl) (by kernel_rfl) hS5d1 (fun _ => r_move rfl) (ltn rfl) ?_
      refine wd_takeT 1 rfl (by kernel_rfl) (by kernel_rfl) hS5d1 (fun _ => r_nil rfl) (ltn rfl) ?_
      refine wd_takeT 2 rfl (by kernel_rfl) (by kernel_rfl) hS5d1 (fun _ => (by first | exact r_field0 0 Try.underlying48 rfl rfl Try.sizeOf23 (by decide) rfl | exact r_field 0 Try.underlying48 rfl rfl Try.sizeOf23 (by decide) rfl)) (ltn rfl) ?_
      refine wd_take 3 rfl (by kernel_rfl) (by kernel_rfl) hS5d1 (by decide) (fun W hW => r_load (plain_of Try.underlying23 rfl) rfl (cell_of_blk ((Kp.h hW)).get.2 rfl)) (ltn rfl) ?_
      refine wd_takeT 4 rfl (by kernel_rfl) (by kernel_rfl) hS5d1 (fun _ => r_move rfl) (ltn rfl) ?_
      refine wd_takeT 5 rfl (by kernel_rfl) (by kernel_rfl) hS5d1 (fun _ => r_nil rfl) (ltn rfl) ?_
      refine wd_takeT 6 rfl (by kernel_rfl) (by kernel_rfl) hS5d1 (fun _ => (by first | exact r_field0 1 Try.underlying48 rfl rfl Try.sizeOf3 (by decide) rfl | exact r_field 1 Try.underlying48 rfl rfl Try.sizeOf3 (by decide) rfl)) (ltn rfl) ?_
      refine wd_take 7 rfl (by kernel_rfl) (by kernel_rfl) hS5d1 (by decide) (fun W hW => r_load (plain_of Try.underlying3 rfl) rfl (cell_of_blk ((Kp.h hW)).get.2 rfl)) (ltn rfl) ?_
      obtain ⟨bu, ou, cu, eu⟩ := Rd.posV ((H5d1.f2).row_rd) (by omega)
      cases eu
      refine wd_takeT 8 rfl (by kernel_rfl) (by kernel_rfl) hS5d1 (fun _ => r_index Try.underlying23 Try.sizeOf22 rfl rfl (by omega)) (ltn rfl) ?_
      refine wd_take 9 rfl (by kernel_rfl) (by kernel_rfl) hS5d1 (by decide) (fun W hW => r_load (plain_of Try.underlying22 rfl) rfl (by first | exact Rd.at1n (((Kp.h hW).f2).row_rd) (by omega) | exact Rd.at0 (((Kp.h hW).f2).row_rd) (by omega) | exact Rd.at1 (((Kp.h hW).f2).row_rd) (by omega))) (ltn rfl) ?_
      refine wd_gen (fun x44_2 hx44_2 => ?_)
      refine wd_eff 10 rfl (by kernel_rfl) (e_call (r_call rfl Try.func30 rfl rfl) (both1_ret H5d1 (fun W HW => (by rw [hx44_2]; exact (HW.f3).imms_rd (by omega))) (by omega))) (ltn rfl) ?_
      rintro u3 w3 H3
      have hS3n := Holds.kp (H3.f4.f4.f4.f4)
      refine keepX hS3n (by kernel_rfl) ?_
      refine wd_takeT 11 rfl (by kernel_rfl) (by kernel_rfl) hS3n (fun _ => r_assign rfl) (ltn rfl) ?_
      refine wd_takeT 12 rfl (by kernel_rfl) (by kernel_rfl) hS3n (fun _ => r_assign rfl) (ltn rfl) ?_
      refine wd_done (by kernel_rfl) ?_
      refine wq_seq ?_
      refine wc_ret ?_
      refine wq_end2 (.inl rfl) Try.results20 rfl rfl ?_
      rw [if_neg (by omega), if_neg (by omega), if_neg (by omega)]
      exact ⟨_, rfl, (Holds.mk_rring (Holds.mk_ll' (H3.f2.f2.f4.f4)).f3).f2⟩
end
end Go.Proofs.Ytkjkfbkapingbaa
