/- KillringDoes, walked. -/
import Derived.Test.YtkjkfbkapingbaaLawKOwn
import Derived.Test.YtkjkfbkapingbaaFlat
import Derived.Test.YtkjkfbkapingbaaKOpIn
set_option linter.unusedSimpArgs false
set_option linter.unusedVariables false
namespace Go.Proofs.Ytkjkfbkapingbaa
open Go.RowKit
/-- An operation. -/
structure KOp where
  kd : Int
  way : Int
  tx : Value
  text : List Int
  n : Int
  stop : Int
instance : Inhabited KOp := ⟨⟨0, 0, .slice none 0 0, [], 0, 0⟩⟩
def KOp.enc (o : KOp) : List Value := [.int .i64 o.kd, .int .i64 o.way, o.tx, .int .i64 o.n, .int .i64 o.stop]
theorem KOp.enc_len (o : KOp) : o.enc.length = 5 := rfl
theorem killring_does {w : World} {v : Value} {ops : List KOp} (g2 : Rd w 5 v ops.length (ops.flatMap KOp.enc)) (g3 : ∀ k, k < ops.length → RdI w .i32 (ops.getD k default).tx (ops.getD k default).text) :
    Ret Try.prog 5 #[v] w fun v w' => v = .bool true ∧ Below w.heap.size w w' := by
  obtain ⟨F, H⟩ : ∃ F, Holds w w F := ⟨_, Holds.start w⟩
  have hv : FRd w F 5 v ops.length (ops.flatMap KOp.enc) := FRd.of_start g2 F
  have hls : ∀ k, k < ops.length → FRdI w F .i32 (ops.getD k default).tx (ops.getD k default).text := fun k hk => FRdI.of_start (g3 k hk) F
  have hbl : (ops.length : Int) ≤ 9223372036854775807 := by obtain ⟨_, a, c, _, h1, h2, _⟩ := g2; omega
  refine ret_enter Try.func5 rfl Try.ntmps5 (Nat.le_of_ble_eq_true rfl) ?_
  dsimp only [slots0, Nat.reduceAdd]
  refine wc_seq ?_
  refine wc_region ?_
  refine wl_val (r_assign rfl) (ltn rfl) ?_
  refine wl_nil ?_
  refine wq_seq ?_
  refine wc_seq ?_
  refine wc_region ?_
  refine wl_eff (e_call (r_call rfl Try.func9 rfl rfl) (ring_new_ret H)) (ltn rfl) ?_
  rintro _ w1 ⟨p1, rfl, H1⟩
  refine wl_val (r_assign rfl) (ltn rfl) ?_
  refine wl_nil ?_
  refine wq_seq ?_
  refine wc_seq ?_
  refine wc_region ?_
  refine wl_val (r_build (pl := #[(0, 1), (1, 1)]) (_) Try.underlying48 Try.zeroValue48 (fun w => by kernel_rfl) rfl (rfl)) (ltn rfl) ?_
  refine wl_eff (e_boxL (l := [_, _]) H1 rfl rfl) (ltn rfl) ?_
  rintro _ w2 ⟨b2, rfl, H2⟩
  refine wl_val (r_assign rfl) (ltn rfl) ?_
  refine wl_nil ?_
  refine wq_seq ?_
  refine wc_seq ?_
  refine wc_seq ?_
  refine wc_region ?_
  refine wl_val (r_move rfl) (ltn rfl) ?_
  refine wl_val (r_ptr_nil Try.underlying24 rfl rfl) (ltn rfl) ?_
  refine wl_split rfl (ltn rfl) (fun h => by exfalso; (try simp only [beq_iff_eq, bne_iff_ne, ne_eq, decide_eq_true_eq, decide_eq_false_iff_not, beq_eq_false_iff_ne, bne_eq_false_iff_eq, Bool.not_eq_true', Bool.not_eq_false', Bool.not_eq_eq_eq_not, Bool.not_true, Bool.not_false, gt_iff_lt, ge_iff_le, Int.not_lt, Int.not_le] at h); simp at h) (fun h1 => ?_)
  (try simp only [beq_iff_eq, bne_iff_ne, ne_eq, decide_eq_true_eq, decide_eq_false_iff_not, beq_eq_false_iff_ne, bne_eq_false_iff_eq, Bool.not_eq_true', Bool.not_eq_false', Bool.not_eq_eq_eq_not, Bool.not_true, Bool.not_false, gt_iff_lt, ge_iff_le, Int.not_lt, Int.not_le] at h1)
  refine wl_yes rfl rfl ?_
  refine wl_eff (e_call (r_call rfl Try.func10 rfl rfl) (live_ret H2)) (ltn rfl) ?_
  rintro _ w3 ⟨rfl, H3⟩
  refine wl_yes rfl rfl ?_
  refine wl_val (r_not rfl) (ltn rfl) ?_
  refine wl_val (r_pick_f rfl rfl) (ltn rfl) ?_
  refine wl_nil ?_
  refine wq_seq ?_
  refine wc_cond rfl (fun h2 => ?_) (fun h2 => ?_)
  · (try simp only [beq_iff_eq, bne_iff_ne, ne_eq, decide_eq_true_eq, decide_eq_false_iff_not, beq_eq_false_iff_ne, bne_eq_false_iff_eq, Bool.not_eq_true', Bool.not_eq_false', Bool.not_eq_eq_eq_not, Bool.not_true, Bool.not_false, gt_iff_lt, ge_iff_le, Int.not_lt, Int.not_le] at h2)
    try (exfalso; first | contradiction | omega)
    all_goals
      
      refine wc_seq ?_
      refine wc_region ?_
      refine wl_val (r_assign rfl) (ltn rfl) ?_
      refine wl_nil ?_
      refine wq_seq ?_
      refine wc_ret ?_
      refine wq_then_ret ?_
      refine wq_end1 (.inl rfl) Try.results5 rfl ?_
      exact ⟨rfl, H3.base⟩
  · (try simp only [beq_iff_eq, bne_iff_ne, ne_eq, decide_eq_true_eq, decide_eq_false_iff_not, beq_eq_false_iff_ne, bne_eq_false_iff_eq, Bool.not_eq_true', Bool.not_eq_false', Bool.not_eq_eq_eq_not, Bool.not_true, Bool.not_false, gt_iff_lt, ge_iff_le, Int.not_lt, Int.not_le] at h2)
    try (exfalso; first | contradiction | omega)
    all_goals
      
      refine wc_skip ?_
      refine wq_seq ?_
      refine wc_seq ?_
      refine wc_seq ?_
      refine wc_region ?_
      refine wl_val (r_move rfl) (ltn rfl) ?_
      refine wl_val (r_lenS (hv _ (H3.right.right)) Try.underlying45 rfl) (ltn rfl) ?_
      refine wl_val (r_move rfl) (ltn rfl) ?_
      refine wl_nil ?_
      refine wq_seq ?_
      refine wc_block ?_
      have HR := Holds.mk_rring ((H3).ll_nil none).f2
      refine wc_loop [(4, _), (21, _), (22, _)] (fun (⟨k, p⟩ : Nat × Nat) => [(3, .pointer (some ⟨p, 0, none⟩)), (23, .int .i64 (k : Int))]) (fun (⟨k, p⟩ : Nat × Nat) W => k ≤ ops.length ∧ ∃ E place, Holds w W (RefRing b2 E place • RingRep p E place • F)) (fun (⟨k, p⟩ : Nat × Nat) => ops.length - k) ((0, p1)) (Sub.cons rfl (Sub.cons rfl (Sub.cons rfl (Sub.nil _)))) (Sub.cons rfl (Sub.cons rfl (Sub.nil _))) ⟨by omega, [], 0, HR⟩ ?_
      rintro ⟨k, p⟩ w4 ⟨hk, E, place, HL⟩
      dsimp only [List.cons_append, List.nil_append]
      obtain ⟨hE, hp, hm⟩ := ring_facts (HL.f2)
      refine wc_seq ?_
      refine wc_region ?_
      refine wl_val (r_lss rfl rfl) (ltn rfl) ?_
      refine wl_nil ?_
      refine wq_seq ?_
      refine wc_seq ?_
      refine wc_cond rfl (fun h3 => ?_) (fun h3 => ?_)
      · (try simp only [beq_iff_eq, bne_iff_ne, ne_eq, decide_eq_true_eq, decide_eq_false_iff_not, beq_eq_false_iff_ne, bne_eq_false_iff_eq, Bool.not_eq_true', Bool.not_eq_false', Bool.not_eq_eq_eq_not, Bool.not_true, Bool.not_false, gt_iff_lt, ge_iff_le, Int.not_lt, Int.not_le] at h3)
        try (exfalso; first | contradiction | omega)
        all_goals
          
          refine wc_skip ?_
          refine wq_seq ?_
          refine wc_seq ?_
          refine wc_block ?_
          refine wc_seq ?_
          refine wc_region ?_
          obtain ⟨bv, ov, cv, ev⟩ := Rd.posV (hv _ (HL.right.right)) (by omega)
          cases ev
          refine wl_val (r_index Try.underlying45 Try.sizeOf35 rfl rfl (by omega)) (ltn rfl) ?_
          refine wl_val (r_load_elem (ys := [_, _, _, _, _]) (hv _ (HL.right.right)) (by omega) Try.underlying35 rfl Try.sizeOf35 rfl (flat_elem KOp.enc_len (by omega) default) rfl) (ltn rfl) ?_
          have hop := hls k (by omega)
          refine wl_eff (e_allocL (l := [_, _, _, _, _]) HL Try.zeroValue35 rfl) (ltn rfl) ?_
          rintro _ w5 ⟨b5, rfl, H5⟩
          refine wl_eff0 (e_storePL 0 (l' := [_, _, _, _, _]) (us := [_, _, _, _, _]) H5 Try.sizeOf35 rfl rfl rfl (ones_cons (by first | rfl | assumption) (ones_cons (by first | rfl | assumption) (ones_cons (by first | rfl | exact Rd.one (hop _ (H5.right.right.right))) (ones_cons (by first | rfl | assumption) (ones_cons (by first | rfl | assumption) ones_nil))))) rfl rfl) ?_
          rintro _ w6 H6
          refine wl_nil ?_
          refine wq_seq ?_
          refine wc_seq ?_
          refine wc_region ?_
          refine wl_val (r_assign rfl) (ltn rfl) ?_
          refine wl_val (r_assign rfl) (ltn rfl) ?_
          refine wl_nil ?_
          refine wq_seq ?_
          refine wc_seq ?_
          refine wc_region ?_
          refine wl_val (r_assign rfl) (ltn rfl) ?_
          refine wl_val (r_assign rfl) (ltn rfl) ?_
          refine wl_nil ?_
          refine wq_seq ?_
          refine wc_join [(4, _), (6, _), (21, _), (22, _), (23, _)] (fun (⟨u1, u2, x, p2⟩ : Value × Value × Int × Nat) => [(7, u1), (8, u2), (9, .int .i64 x), (10, .int .i64 x), (3, .pointer (some ⟨p2, 0, none⟩))]) (fun (⟨u1, u2, x, p2⟩ : Value × Value × Int × Nat) W => ∃ E place la, Holds w W (RowI 21 .i32 u1 la • RowI 21 .i32 u2 la • RefRing b2 E place • RingRep p2 E place • blk b5 (.cells (KOp.enc (ops.getD k default)).toArray 35 (0, 0)) • F)) (Sub.cons rfl (Sub.cons rfl (Sub.cons rfl (Sub.cons rfl (Sub.cons rfl (Sub.nil _)))))) ?_ ?_
          · rintro ⟨u1, u2, x, p2⟩ w7 ⟨E, place, la, HJ⟩
            dsimp only [List.cons_append, List.nil_append]
            refine wc_seq ?_
            obtain ⟨ru, HU⟩ := (HJ.f3).rring
            obtain ⟨rus, HU⟩ := HU.swap.ll
            have H25d7 := HU.drew
            have hS25d7 := Holds.kp (H25d7.f7.f7.f7.f7.f7.f7.f7)
            refine wd_beginK [14, 16] hS25d7 (by kernel_rfl) (by kernel_rfl) rfl ?_
            refine wd_takeT 0 rfl (by kernel_rfl) (by kernel_rfl) hS25d7 (fun _ => r_move rfl) (ltn rfl) ?_
            refine wd_takeT 1 rfl (by kernel_rfl) (by kernel_rfl) hS25d7 (fun _ => r_move rfl) (ltn rfl) ?_
            refine wd_takeT 2 rfl (by kernel_rfl) (by kernel_rfl) hS25d7 (fun _ => r_neq rfl rfl) (ltn rfl) ?_
            refine wd_split 3 rfl rfl (by kernel_rfl) (by kernel_rfl) hS25d7 (ltn rfl) (fun h => by exfalso; (try simp only [beq_iff_eq, bne_iff_ne, ne_eq, decide_eq_true_eq, decide_eq_false_iff_not, beq_eq_false_iff_ne, bne_eq_false_iff_eq, Bool.not_eq_true', Bool.not_eq_false', Bool.not_eq_eq_eq_not, Bool.not_true, Bool.not_false, gt_iff_lt, ge_iff_le, Int.not_lt, Int.not_le] at h); simp at h) (fun h4 => ?_)
            (try simp only [beq_iff_eq, bne_iff_ne, ne_eq, decide_eq_true_eq, decide_eq_false_iff_not, beq_eq_false_iff_ne, bne_eq_false_iff_eq, Bool.not_eq_true', Bool.not_eq_false', Bool.not_eq_eq_eq_not, Bool.not_true, Bool.not_false, gt_iff_lt, ge_iff_le, Int.not_lt, Int.not_le] at h4)
            refine wd_takeT_yes 4 rfl rfl rfl (by kernel_rfl) (by kernel_rfl) hS25d7 (fun _ => r_move rfl) (ltn rfl) ?_
            refine wd_takeT_yes 5 rfl rfl rfl (by kernel_rfl) (by kernel_rfl) hS25d7 (fun _ => r_move rfl) (ltn rfl) ?_
            refine wd_eff_yes 6 rfl rfl rfl (by kernel_rfl) (e_call (r_call rfl Try.func13 rfl rfl) (equal_ret _ _ _ _ _ ((H25d7.f4).row_rd) ((H25d7.f5).row_rd))) (ltn rfl) ?_
            rintro _ w8 ⟨rfl, hD8⟩
            have HD8 := H25d7.drewn hD8
            have hS8n := Holds.kp (HD8.f7.f7.f7.f7.f7.f7.f7)
            refine keepX hS8n (by kernel_rfl) ?_
            refine wd_takeT_yes 7 rfl rfl rfl (by kernel_rfl) (by kernel_rfl) hS8n (fun _ => r_not rfl) (ltn rfl) ?_
            refine wd_takeT 8 rfl (by kernel_rfl) (by kernel_rfl) hS8n (fun _ => r_pick_f rfl rfl) (ltn rfl) ?_
            refine wd_split 9 rfl rfl (by kernel_rfl) (by kernel_rfl) hS8n (ltn rfl) (fun h => by exfalso; (try simp only [beq_iff_eq, bne_iff_ne, ne_eq, decide_eq_true_eq, decide_eq_false_iff_not, beq_eq_false_iff_ne, bne_eq_false_iff_eq, Bool.not_eq_true', Bool.not_eq_false', Bool.not_eq_eq_eq_not, Bool.not_true, Bool.not_false, gt_iff_lt, ge_iff_le, Int.not_lt, Int.not_le] at h); simp at h) (fun h5 => ?_)
            (try simp only [beq_iff_eq, bne_iff_ne, ne_eq, decide_eq_true_eq, decide_eq_false_iff_not, beq_eq_false_iff_ne, bne_eq_false_iff_eq, Bool.not_eq_true', Bool.not_eq_false', Bool.not_eq_eq_eq_not, Bool.not_true, Bool.not_false, gt_iff_lt, ge_iff_le, Int.not_lt, Int.not_le] at h5)
            refine wd_takeT_yes 10 rfl rfl rfl (by kernel_rfl) (by kernel_rfl) hS8n (fun _ => r_move rfl) (ltn rfl) ?_
            refine wd_takeT_yes 11 rfl rfl rfl (by kernel_rfl) (by kernel_rfl) hS8n (fun _ => r_move rfl) (ltn rfl) ?_
            refine wd_takeT_yes 12 rfl rfl rfl (by kernel_rfl) (by kernel_rfl) hS8n (fun _ => r_nil rfl) (ltn rfl) ?_
            refine wd_takeT_yes 13 rfl rfl rfl (by kernel_rfl) (by kernel_rfl) hS8n (fun _ => (by first | exact r_field0 0 Try.underlying48 rfl rfl Try.sizeOf23 (by decide) rfl | exact r_field 0 Try.underlying48 rfl rfl Try.sizeOf23 (by decide) rfl)) (ltn rfl) ?_
            refine wd_take_yes 14 rfl rfl rfl (by kernel_rfl) (by kernel_rfl) hS8n (by decide) (fun W hW => r_load (plain_of Try.underlying23 rfl) rfl (cell_of_blk ((Kp.h hW).f3).get.2 rfl)) (ltn rfl) ?_
            refine wd_takeT_yes 15 rfl rfl rfl (by kernel_rfl) (by kernel_rfl) hS8n (fun _ => (by first | exact r_field0 4 Try.underlying35 rfl rfl Try.sizeOf3 (by decide) rfl | exact r_field 4 Try.underlying35 rfl rfl Try.sizeOf3 (by decide) rfl)) (ltn rfl) ?_
            refine wd_take_yes 16 rfl rfl rfl (by kernel_rfl) (by kernel_rfl) hS8n (by decide) (fun W hW => r_load (plain_of Try.underlying3 rfl) rfl (cell_of_blk ((Kp.h hW).f7).get.2 rfl)) (ltn rfl) ?_
            refine wd_eff_yes 17 rfl rfl rfl (by kernel_rfl) (e_call (r_call rfl Try.func21 rfl rfl) (told_ret HD8.f6 (fun W HW => (HW).row_rd) (fun k hk W HW => (HW.f2).imms_rd hk))) (ltn rfl) ?_
            rintro _ w9 ⟨rfl, H9⟩
            have hS9n := Holds.kp (H9.f7.f7.f7.f7.f7.f7.f7)
            refine keepX hS9n (by kernel_rfl) ?_
            refine wd_takeT_yes 18 rfl rfl rfl (by kernel_rfl) (by kernel_rfl) hS9n (fun _ => r_not rfl) (ltn rfl) ?_
            refine wd_takeT 19 rfl (by kernel_rfl) (by kernel_rfl) hS9n (fun _ => r_pick_f rfl rfl) (ltn rfl) ?_
            refine wd_done (by kernel_rfl) ?_
            refine wq_seq ?_
            refine wc_cond rfl (fun h => by exfalso; (try simp only [beq_iff_eq, bne_iff_ne, ne_eq, decide_eq_true_eq, decide_eq_false_iff_not, beq_eq_false_iff_ne, bne_eq_false_iff_eq, Bool.not_eq_true', Bool.not_eq_false', Bool.not_eq_eq_eq_not, Bool.not_true, Bool.not_false, gt_iff_lt, ge_iff_le, Int.not_lt, Int.not_le] at h); simp at h) (fun h6 => ?_)
            (try simp only [beq_iff_eq, bne_iff_ne, ne_eq, decide_eq_true_eq, decide_eq_false_iff_not, beq_eq_false_iff_ne, bne_eq_false_iff_eq, Bool.not_eq_true', Bool.not_eq_false', Bool.not_eq_eq_eq_not, Bool.not_true, Bool.not_false, gt_iff_lt, ge_iff_le, Int.not_lt, Int.not_le] at h6)
            refine wc_skip ?_
            refine wq_block_normal ?_
            refine wq_seq ?_
            refine wc_region ?_
            refine wl_val (r_add rfl rfl (by omega)) (ltn rfl) ?_
            refine wl_val (r_move rfl) (ltn rfl) ?_
            refine wl_nil ?_
            refine wq_round ((k + 1, p2)) ?_ ?_ ?_ ?_
            · exact (Sub.cons rfl (Sub.cons rfl (Sub.nil _)))
            · exact (Sub.cons rfl (Sub.cons rfl (Sub.cons rfl (Sub.nil _))))
            · (try dsimp only)
              exact ⟨by omega, _, _, (Holds.mk_rring (Holds.mk_ll' (H9.f5.right.f5.right.f5.right.f4.f4.f4)).f2)⟩
            · (try dsimp only); omega
          · skip
            refine wc_seq ?_
            refine wc_region ?_
            refine wl_val ((by first | exact r_field0 0 Try.underlying35 rfl rfl Try.sizeOf3 (by decide) rfl | exact r_field 0 Try.underlying35 rfl rfl Try.sizeOf3 (by decide) rfl)) (ltn rfl) ?_
            refine wl_val (r_load (plain_of Try.underlying3 rfl) rfl (cell_of_blk (H6).get.2 rfl)) (ltn rfl) ?_
            refine wl_nil ?_
            refine wq_seq ?_
            refine wc_block ?_
            refine wc_seq ?_
            refine wc_region ?_
            refine wl_val (r_eql rfl rfl) (ltn rfl) ?_
            refine wl_val (r_assign rfl) (ltn rfl) ?_
            refine wl_nil ?_
            refine wq_seq ?_
            refine wc_cond rfl (fun h7 => ?_) (fun h7 => ?_)
            · (try simp only [beq_iff_eq, bne_iff_ne, ne_eq, decide_eq_true_eq, decide_eq_false_iff_not, beq_eq_false_iff_ne, bne_eq_false_iff_eq, Bool.not_eq_true', Bool.not_eq_false', Bool.not_eq_eq_eq_not, Bool.not_true, Bool.not_false, gt_iff_lt, ge_iff_le, Int.not_lt, Int.not_le] at h7)
              try (exfalso; first | contradiction | omega)
              all_goals
                
                have H18d9 := H6.drew
                have hS18d9 := Holds.kp (H18d9.f3.right.f2.f2)
                refine wd_beginK [2, 4, 8, 10] hS18d9 (by kernel_rfl) (by kernel_rfl) rfl ?_
                refine wd_takeT 0 rfl (by kernel_rfl) (by kernel_rfl) hS18d9 (fun _ => r_move rfl) (ltn rfl) ?_
                refine wd_takeT 1 rfl (by kernel_rfl) (by kernel_rfl) hS18d9 (fun _ => (by first | exact r_field0 1 Try.underlying35 rfl rfl Try.sizeOf3 (by decide) rfl | exact r_field 1 Try.underlying35 rfl rfl Try.sizeOf3 (by decide) rfl)) (ltn rfl) ?_
                refine wd_take 2 rfl (by kernel_rfl) (by kernel_rfl) hS18d9 (by decide) (fun W hW => r_load (plain_of Try.underlying3 rfl) rfl (cell_of_blk ((Kp.h hW)).get.2 rfl)) (ltn rfl) ?_
                refine wd_takeT 3 rfl (by kernel_rfl) (by kernel_rfl) hS18d9 (fun _ => (by first | exact r_field0 2 Try.underlying35 rfl rfl Try.sizeOf22 (by decide) rfl | exact r_field 2 Try.underlying35 rfl rfl Try.sizeOf22 (by decide) rfl)) (ltn rfl) ?_
                refine wd_take 4 rfl (by kernel_rfl) (by kernel_rfl) hS18d9 (by decide) (fun W hW => r_load (plain_of Try.underlying22 rfl) rfl (cell_of_blk ((Kp.h hW)).get.2 rfl)) (ltn rfl) ?_
                refine wd_takeT 6 rfl (by kernel_rfl) (by kernel_rfl) hS18d9 (fun _ => r_move rfl) (ltn rfl) ?_
                refine wd_takeT 7 rfl (by kernel_rfl) (by kernel_rfl) hS18d9 (fun _ => (by first | exact r_field0 1 Try.underlying35 rfl rfl Try.sizeOf3 (by decide) rfl | exact r_field 1 Try.underlying35 rfl rfl Try.sizeOf3 (by decide) rfl)) (ltn rfl) ?_
                refine wd_take 8 rfl (by kernel_rfl) (by kernel_rfl) hS18d9 (by decide) (fun W hW => r_load (plain_of Try.underlying3 rfl) rfl (cell_of_blk ((Kp.h hW)).get.2 rfl)) (ltn rfl) ?_
                refine wd_takeT 9 rfl (by kernel_rfl) (by kernel_rfl) hS18d9 (fun _ => (by first | exact r_field0 2 Try.underlying35 rfl rfl Try.sizeOf22 (by decide) rfl | exact r_field 2 Try.underlying35 rfl rfl Try.sizeOf22 (by decide) rfl)) (ltn rfl) ?_
                refine wd_take 10 rfl (by kernel_rfl) (by kernel_rfl) hS18d9 (by decide) (fun W hW => r_load (plain_of Try.underlying22 rfl) rfl (cell_of_blk ((Kp.h hW)).get.2 rfl)) (ltn rfl) ?_
                refine wd_eff 5 rfl (by kernel_rfl) (e_call (r_call rfl Try.func11 rfl rfl) (ring_kill_ret H18d9.f3 (fun W HW => hop _ (HW.right.right)))) (ltn rfl) ?_
                rintro _ w10 ⟨rfl, H10⟩
                have hS10n := Holds.kp (H10.f3.f3.f3)
                refine keepK hS10n (fun W hW => (Kp.h hW).right.f2.f2) ?_
                refine wd_eff 11 rfl (by kernel_rfl) (e_call (r_call rfl Try.func18 rfl rfl) (rring_kill_ret H10.f3 (fun W HW => hop _ (HW.right.right)) hE hm hp)) (ltn rfl) ?_
                rintro _ w11 ⟨rfl, H11⟩
                have hS11n := Holds.kp (H11.f3.f3.f3)
                refine keepX hS11n (by kernel_rfl) ?_
                refine wd_takeT 12 rfl (by kernel_rfl) (by kernel_rfl) hS11n (fun _ => r_assign rfl) (ltn rfl) ?_
                refine wd_takeT 13 rfl (by kernel_rfl) (by kernel_rfl) hS11n (fun _ => r_assign rfl) (ltn rfl) ?_
                have Hx12 := (H11.f3.f2.f3.rowi_nil (e := 21) (k := .i32) none).rowi_nil (e := 21) (k := .i32) none
                refine wd_done (by kernel_rfl) ?_
                refine wq_block_normal ?_
                refine wq_join (_, _, _, _) (Sub.cons rfl (Sub.cons rfl (Sub.cons rfl (Sub.cons rfl (Sub.cons rfl (Sub.nil _)))))) (Sub.cons rfl (Sub.cons rfl (Sub.cons rfl (Sub.cons rfl (Sub.cons rfl (Sub.nil _)))))) (by (try dsimp only); exact ⟨_, _, _, Hx12.f5.f4.f5.f5.f5⟩)
            · (try simp only [beq_iff_eq, bne_iff_ne, ne_eq, decide_eq_true_eq, decide_eq_false_iff_not, beq_eq_false_iff_ne, bne_eq_false_iff_eq, Bool.not_eq_true', Bool.not_eq_false', Bool.not_eq_eq_eq_not, Bool.not_true, Bool.not_false, gt_iff_lt, ge_iff_le, Int.not_lt, Int.not_le] at h7)
              try (exfalso; first | contradiction | omega)
              all_goals
                
                refine wc_seq ?_
                refine wc_region ?_
                refine wl_val (r_eql rfl rfl) (ltn rfl) ?_
                refine wl_val (r_assign rfl) (ltn rfl) ?_
                refine wl_nil ?_
                refine wq_seq ?_
                refine wc_cond rfl (fun h8 => ?_) (fun h8 => ?_)
                · (try simp only [beq_iff_eq, bne_iff_ne, ne_eq, decide_eq_true_eq, decide_eq_false_iff_not, beq_eq_false_iff_ne, bne_eq_false_iff_eq, Bool.not_eq_true', Bool.not_eq_false', Bool.not_eq_eq_eq_not, Bool.not_true, Bool.not_false, gt_iff_lt, ge_iff_le, Int.not_lt, Int.not_le] at h8)
                  try (exfalso; first | contradiction | omega)
                  all_goals
                    
                    refine wc_seq ?_
                    refine wc_region ?_
                    refine wl_val (r_move rfl) (ltn rfl) ?_
                    refine wl_eff (e_call (r_call rfl Try.func12 rfl rfl) (ring_yank_any H6.f3)) (ltn rfl) ?_
                    rintro _ w13 ⟨u13, rfl, H13⟩
                    refine wl_val (r_move rfl) (ltn rfl) ?_
                    refine wl_val (r_extract rfl rfl) (ltn rfl) ?_
                    refine wl_val (r_extract rfl rfl) (ltn rfl) ?_
                    refine wl_val (r_assign rfl) (ltn rfl) ?_
                    refine wl_val (r_assign rfl) (ltn rfl) ?_
                    refine wl_nil ?_
                    refine wq_seq ?_
                    refine wc_region ?_
                    refine wl_val (r_move rfl) (ltn rfl) ?_
                    refine wl_eff (e_call (r_call rfl Try.func19 rfl rfl) (rring_yank_ret H13.f4 hm hp)) (ltn rfl) ?_
                    rintro _ w14 ⟨u14, rfl, H14⟩
                    refine wl_val (r_move rfl) (ltn rfl) ?_
                    refine wl_val (r_extract rfl rfl) (ltn rfl) ?_
                    refine wl_val (r_extract rfl rfl) (ltn rfl) ?_
                    refine wl_val (r_assign rfl) (ltn rfl) ?_
                    refine wl_val (r_assign rfl) (ltn rfl) ?_
                    refine wl_nil ?_
                    refine wq_block_normal ?_
                    refine wq_join (_, _, _, _) (Sub.cons rfl (Sub.cons rfl (Sub.cons rfl (Sub.cons rfl (Sub.cons rfl (Sub.nil _)))))) (Sub.cons rfl (Sub.cons rfl (Sub.cons rfl (Sub.cons rfl (Sub.cons rfl (Sub.nil _)))))) (by (try dsimp only); exact ⟨_, _, _, H14.f5.f5.f4.f4.f5⟩)
                · (try simp only [beq_iff_eq, bne_iff_ne, ne_eq, decide_eq_true_eq, decide_eq_false_iff_not, beq_eq_false_iff_ne, bne_eq_false_iff_eq, Bool.not_eq_true', Bool.not_eq_false', Bool.not_eq_eq_eq_not, Bool.not_true, Bool.not_false, gt_iff_lt, ge_iff_le, Int.not_lt, Int.not_le] at h8)
                  try (exfalso; first | contradiction | omega)
                  all_goals
                    
                    refine wc_seq ?_
                    refine wc_region ?_
                    refine wl_val (r_eql rfl rfl) (ltn rfl) ?_
                    refine wl_val (r_assign rfl) (ltn rfl) ?_
                    refine wl_nil ?_
                    refine wq_seq ?_
                    refine wc_cond rfl (fun h9 => ?_) (fun h9 => ?_)
                    · (try simp only [beq_iff_eq, bne_iff_ne, ne_eq, decide_eq_true_eq, decide_eq_false_iff_not, beq_eq_false_iff_ne, bne_eq_false_iff_eq, Bool.not_eq_true', Bool.not_eq_false', Bool.not_eq_eq_eq_not, Bool.not_true, Bool.not_false, gt_iff_lt, ge_iff_le, Int.not_lt, Int.not_le] at h9)
                      try (exfalso; first | contradiction | omega)
                      all_goals
                        
                        refine wc_seq ?_
                        refine wc_region ?_
                        refine wl_val (r_move rfl) (ltn rfl) ?_
                        refine wl_val ((by first | exact r_field0 3 Try.underlying35 rfl rfl Try.sizeOf3 (by decide) rfl | exact r_field 3 Try.underlying35 rfl rfl Try.sizeOf3 (by decide) rfl)) (ltn rfl) ?_
                        refine wl_val (r_load (plain_of Try.underlying3 rfl) rfl (cell_of_blk (H6).get.2 rfl)) (ltn rfl) ?_
                        refine wl_eff (e_call (r_call rfl Try.func15 rfl rfl) (ring_rotate_any H6.f3)) (ltn rfl) ?_
                        rintro _ w15 ⟨u15, rfl, H15⟩
                        refine wl_val (r_move rfl) (ltn rfl) ?_
                        refine wl_val (r_extract rfl rfl) (ltn rfl) ?_
                        refine wl_val (r_extract rfl rfl) (ltn rfl) ?_
                        refine wl_val (r_assign rfl) (ltn rfl) ?_
                        refine wl_val (r_assign rfl) (ltn rfl) ?_
                        refine wl_nil ?_
                        refine wq_seq ?_
                        refine wc_region ?_
                        refine wl_val (r_move rfl) (ltn rfl) ?_
                        refine wl_val ((by first | exact r_field0 3 Try.underlying35 rfl rfl Try.sizeOf3 (by decide) rfl | exact r_field 3 Try.underlying35 rfl rfl Try.sizeOf3 (by decide) rfl)) (ltn rfl) ?_
                        refine wl_val (r_load (plain_of Try.underlying3 rfl) rfl (cell_of_blk (H15.f3).get.2 rfl)) (ltn rfl) ?_
                        refine wl_eff (e_call (r_call rfl Try.func20 rfl rfl) (rring_rotate_ret H15.f4 hE hm hp)) (ltn rfl) ?_
                        rintro _ w16 ⟨u16, rfl, H16⟩
                        refine wl_val (r_move rfl) (ltn rfl) ?_
                        refine wl_val (r_extract rfl rfl) (ltn rfl) ?_
                        refine wl_val (r_extract rfl rfl) (ltn rfl) ?_
                        refine wl_val (r_assign rfl) (ltn rfl) ?_
                        refine wl_val (r_assign rfl) (ltn rfl) ?_
                        refine wl_nil ?_
                        refine wq_block_normal ?_
                        refine wq_join (_, _, _, _) (Sub.cons rfl (Sub.cons rfl (Sub.cons rfl (Sub.cons rfl (Sub.cons rfl (Sub.nil _)))))) (Sub.cons rfl (Sub.cons rfl (Sub.cons rfl (Sub.cons rfl (Sub.cons rfl (Sub.nil _)))))) (by (try dsimp only); exact ⟨_, _, _, H16.f5.f5.f4.f4.f5⟩)
                    · (try simp only [beq_iff_eq, bne_iff_ne, ne_eq, decide_eq_true_eq, decide_eq_false_iff_not, beq_eq_false_iff_ne, bne_eq_false_iff_eq, Bool.not_eq_true', Bool.not_eq_false', Bool.not_eq_eq_eq_not, Bool.not_true, Bool.not_false, gt_iff_lt, ge_iff_le, Int.not_lt, Int.not_le] at h9)
                      try (exfalso; first | contradiction | omega)
                      all_goals
                        
                        refine wc_seq ?_
                        refine wc_region ?_
                        refine wl_val (r_move rfl) (ltn rfl) ?_
                        refine wl_eff (e_call (r_call rfl Try.func16 rfl rfl) (ring_clone_ret H6.f3)) (ltn rfl) ?_
                        rintro _ w17 ⟨pc17, rfl, H17⟩
                        refine wl_val (r_assign rfl) (ltn rfl) ?_
                        refine wl_nil ?_
                        refine wq_seq ?_
                        refine wc_seq ?_
                        refine wc_seq ?_
                        refine wc_region ?_
                        refine wl_val (r_move rfl) (ltn rfl) ?_
                        refine wl_val (r_ptr_nil Try.underlying24 rfl rfl) (ltn rfl) ?_
                        refine wl_nil ?_
                        refine wq_seq ?_
                        refine wc_cond rfl (fun h10 => ?_) (fun h10 => ?_)
                        · (try simp only [beq_iff_eq, bne_iff_ne, ne_eq, decide_eq_true_eq, decide_eq_false_iff_not, beq_eq_false_iff_ne, bne_eq_false_iff_eq, Bool.not_eq_true', Bool.not_eq_false', Bool.not_eq_eq_eq_not, Bool.not_true, Bool.not_false, gt_iff_lt, ge_iff_le, Int.not_lt, Int.not_le] at h10)
                          try (exfalso; first | contradiction | omega)
                          all_goals
                            
                            refine wc_seq ?_
                            refine wc_region ?_
                            refine wl_val (r_assign rfl) (ltn rfl) ?_
                            refine wl_nil ?_
                            refine wq_seq ?_
                            refine wc_ret ?_
                            refine wq_then_ret ?_
                            refine wq_block_ret ?_
                            refine wq_then_ret ?_
                            refine wq_block_ret ?_
                            refine wq_then_ret ?_
                            refine wq_then_ret ?_
                            refine wq_block_ret ?_
                            refine wq_then_ret ?_
                            refine wq_end1 (.inl rfl) Try.results5 rfl ?_
                            exact ⟨rfl, H17.base⟩
                        · (try simp only [beq_iff_eq, bne_iff_ne, ne_eq, decide_eq_true_eq, decide_eq_false_iff_not, beq_eq_false_iff_ne, bne_eq_false_iff_eq, Bool.not_eq_true', Bool.not_eq_false', Bool.not_eq_eq_eq_not, Bool.not_true, Bool.not_false, gt_iff_lt, ge_iff_le, Int.not_lt, Int.not_le] at h10)
                          try (exfalso; first | contradiction | omega)
                          all_goals
                            
                            refine wc_skip ?_
                            refine wq_seq ?_
                            refine wc_seq ?_
                            refine wc_region ?_
                            refine wl_val (r_move rfl) (ltn rfl) ?_
                            refine wl_val ((by first | exact r_field0 1 Try.underlying35 rfl rfl Try.sizeOf3 (by decide) rfl | exact r_field 1 Try.underlying35 rfl rfl Try.sizeOf3 (by decide) rfl)) (ltn rfl) ?_
                            refine wl_val (r_load (plain_of Try.underlying3 rfl) rfl (cell_of_blk (H17.f3).get.2 rfl)) (ltn rfl) ?_
                            refine wl_val ((by first | exact r_field0 2 Try.underlying35 rfl rfl Try.sizeOf22 (by decide) rfl | exact r_field 2 Try.underlying35 rfl rfl Try.sizeOf22 (by decide) rfl)) (ltn rfl) ?_
                            refine wl_val (r_load (plain_of Try.underlying22 rfl) rfl (cell_of_blk (H17.f3).get.2 rfl)) (ltn rfl) ?_
                            refine wl_eff (e_call (r_call rfl Try.func11 rfl rfl) (ring_kill_ret H17.f2 (fun W HW => hop _ (HW.right.right.right)))) (ltn rfl) ?_
                            rintro _ w18 ⟨rfl, H18⟩
                            refine wl_nil ?_
                            refine wq_seq ?_
                            refine wc_seq ?_
                            refine wc_region ?_
                            refine wl_val (r_move rfl) (ltn rfl) ?_
                            refine wl_eff (e_call (r_call rfl Try.func15 rfl rfl) (ring_rotate_any H18)) (ltn rfl) ?_
                            rintro _ w19 ⟨u19, rfl, H19⟩
                            refine wl_nil ?_
                            refine wq_seq ?_
                            refine wc_region ?_
                            refine wl_val (r_move rfl) (ltn rfl) ?_
                            refine wl_val (r_assign rfl) (ltn rfl) ?_
                            have Hx20 := (H19.right.right.f2.f3.f3.rowi_nil (e := 21) (k := .i32) none).rowi_nil (e := 21) (k := .i32) none
                            refine wl_nil ?_
                            refine wq_block_normal ?_
                            refine wq_join (_, _, _, _) (Sub.cons rfl (Sub.cons rfl (Sub.cons rfl (Sub.cons rfl (Sub.cons rfl (Sub.nil _)))))) (Sub.cons rfl (Sub.cons rfl (Sub.cons rfl (Sub.cons rfl (Sub.cons rfl (Sub.nil _)))))) (by (try dsimp only); exact ⟨_, _, _, Hx20.f5.f4.f5.f5.f5⟩)
      · (try simp only [beq_iff_eq, bne_iff_ne, ne_eq, decide_eq_true_eq, decide_eq_false_iff_not, beq_eq_false_iff_ne, bne_eq_false_iff_eq, Bool.not_eq_true', Bool.not_eq_false', Bool.not_eq_eq_eq_not, Bool.not_true, Bool.not_false, gt_iff_lt, ge_iff_le, Int.not_lt, Int.not_le] at h3)
        try (exfalso; first | contradiction | omega)
        all_goals
          
          refine wc_exit ?_
          refine wq_then_exit ?_
          refine wq_then_exit ?_
          refine wq_block_hit ?_
          refine wq_seq ?_
          refine wc_seq ?_
          refine wc_region ?_
          refine wl_val (r_assign rfl) (ltn rfl) ?_
          refine wl_nil ?_
          refine wq_seq ?_
          refine wc_ret ?_
          refine wq_end1 (.inl rfl) Try.results5 rfl ?_
          exact ⟨rfl, HL.base⟩
theorem killring_ops {W : World} {H : Type} {enc : TypeId × Value → H} {cs : List Value} (h : In enc Try.prog W 45 cs) : ∃ (v : Value) (ops : List KOp), cs = [v] ∧ Rd W 5 v ops.length (ops.flatMap KOp.enc) ∧ ∀ k, k < ops.length → RdI W .i32 (ops.getD k default).tx (ops.getD k default).text := by
  obtain ⟨v, n, xs, e1, h1, h2, h3⟩ := h.slice Try.underlying45 (by rw [show Try.prog.cellsOf 35 = 5 from by kernel_rfl]; decide)
  rw [show Try.prog.cellsOf 35 = 5 from by kernel_rfl] at h1 h3
  obtain ⟨l, g1, g2, g3⟩ := rows_of (enc := KOp.enc) (p := fun o => RdI W .i32 o.tx o.text) h1.len (fun k hk => by
    obtain ⟨x0, x1, v2, x2, x3, x4, e, -, -, ⟨g, -, -⟩, -, -⟩ := kop_in (h3 k hk)
    exact ⟨⟨x0, x1, v2, x2, x3, x4⟩, e, g⟩)
  subst g1 g2
  exact ⟨v, l, e1, h1, g3⟩
end Go.Proofs.Ytkjkfbkapingbaa
