/- UndoOwn, walked. -/
import Derived.Test.YtaabgcfeghcmnaaLawUDoes
import Derived.Test.YtaabgcfeghcmnaaUOwns
set_option linter.unusedSimpArgs false
set_option linter.unusedVariables false
namespace Go.Proofs.Ytaabgcfeghcmnaa
open Go.RowKit
def BEd.Reads (w : World) (o : BEd) : Prop := RdI w .i32 o.d o.dl ∧ RdI w .i32 o.i o.il ∧ o.dl.length ≤ 35184372087808 ∧ o.il.length ≤ 35184372087808
theorem enc_ins {fs : List BEd} {k : Nat} (hk : k < fs.length) : (fs.flatMap BEd.enc).getD (k * 3 + 2) undef = (fs.map (·.i)).getD k undef := by
  have h := congrArg (fun l => l.getD 2 undef) (flat_elem (l := fs) (enc := BEd.enc) BEd.enc_len hk default)
  simp only [List.getD_eq_getElem?_getD, List.getElem?_take, List.getElem?_drop] at h ⊢
  rw [if_pos (by decide)] at h
  rw [h, List.getElem?_map, List.getElem?_eq_getElem hk]
  rfl
theorem undo_own {w : World} {v lv : Value} {L : List Int} {es : List BEd} (g : RdI w .i32 v L) (b1 : L.length ≤ 35184372087808) (g2 : Rd w 3 lv es.length (es.flatMap BEd.enc)) (g3 : ∀ k, k < es.length → (es.getD k default).Reads w) :
    Ret Try.prog 5 #[v, lv] w fun v w' => v = .bool true ∧ Below w.heap.size w w' := by
  obtain ⟨F, H⟩ : ∃ F, Holds w w F := ⟨_, Holds.start w⟩
  have hl : FRdI w F .i32 v L := FRdI.of_start g F
  have hv : FRd w F 3 lv es.length (es.flatMap BEd.enc) := FRd.of_start g2 F
  have hbl : (es.length : Int) ≤ 9223372036854775807 := by obtain ⟨_, a, c, _, h1, h2, _⟩ := g2; omega
  refine ret_enter Try.func5 rfl Try.ntmps5 (Nat.le_of_ble_eq_true rfl) ?_
  dsimp only [slots0, Nat.reduceAdd]
  refine wc_seq ?_
  refine wc_region ?_
  refine wl_val (r_assign rfl) (ltn rfl) ?_
  refine wl_nil ?_
  refine wq_seq ?_
  refine wc_seq ?_
  refine wc_region ?_
  refine wl_eff (e_call (r_call rfl Try.func19 rfl rfl) (undo_new_ret H)) (ltn rfl) ?_
  rintro _ w1 ⟨p1, rfl, H1⟩
  refine wl_val (r_assign rfl) (ltn rfl) ?_
  refine wl_nil ?_
  refine wq_seq ?_
  refine wc_seq ?_
  refine wc_region ?_
  refine wl_val (r_build (pl := #[(0, 1), (1, 1), (2, 1)]) (_) Try.underlying45 Try.zeroValue45 (fun w => by kernel_rfl) rfl (rfl)) (ltn rfl) ?_
  refine wl_eff (e_boxL (l := [_, _, _]) H1 rfl rfl) (ltn rfl) ?_
  rintro _ w2 ⟨b2, rfl, H2⟩
  refine wl_val (r_assign rfl) (ltn rfl) ?_
  have Ho3 := H2
  have Hc4 := Ho3.rlist_new
  refine wl_nil ?_
  refine wq_seq ?_
  refine wc_seq ?_
  refine wc_seq ?_
  refine wc_region ?_
  refine wl_eff (e_call (r_call rfl Try.func13 rfl rfl) (begun_ret Hc4)) (ltn rfl) ?_
  rintro _ w5 ⟨rfl, H5⟩
  refine wl_val (r_not rfl) (ltn rfl) ?_
  refine wl_split rfl (ltn rfl) (fun h => by exfalso; (try simp only [beq_iff_eq, bne_iff_ne, ne_eq, decide_eq_true_eq, decide_eq_false_iff_not, beq_eq_false_iff_ne, bne_eq_false_iff_eq, Bool.not_eq_true', Bool.not_eq_false', Bool.not_eq_eq_eq_not, Bool.not_true, Bool.not_false, gt_iff_lt, ge_iff_le, Int.not_lt, Int.not_le] at h); simp at h) (fun h1 => ?_)
  (try simp only [beq_iff_eq, bne_iff_ne, ne_eq, decide_eq_true_eq, decide_eq_false_iff_not, beq_eq_false_iff_ne, bne_eq_false_iff_eq, Bool.not_eq_true', Bool.not_eq_false', Bool.not_eq_eq_eq_not, Bool.not_true, Bool.not_false, gt_iff_lt, ge_iff_le, Int.not_lt, Int.not_le] at h1)
  refine wl_yes rfl rfl ?_
  refine wl_val (r_move rfl) (ltn rfl) ?_
  refine wl_yes rfl rfl ?_
  refine wl_val (r_ptr_nil Try.underlying40 rfl rfl) (ltn rfl) ?_
  refine wl_val (r_pick_f rfl rfl) (ltn rfl) ?_
  refine wl_nil ?_
  refine wq_seq ?_
  refine wc_cond rfl (fun h => by exfalso; (try simp only [beq_iff_eq, bne_iff_ne, ne_eq, decide_eq_true_eq, decide_eq_false_iff_not, beq_eq_false_iff_ne, bne_eq_false_iff_eq, Bool.not_eq_true', Bool.not_eq_false', Bool.not_eq_eq_eq_not, Bool.not_true, Bool.not_false, gt_iff_lt, ge_iff_le, Int.not_lt, Int.not_le] at h); simp at h) (fun h2 => ?_)
  (try simp only [beq_iff_eq, bne_iff_ne, ne_eq, decide_eq_true_eq, decide_eq_false_iff_not, beq_eq_false_iff_ne, bne_eq_false_iff_eq, Bool.not_eq_true', Bool.not_eq_false', Bool.not_eq_eq_eq_not, Bool.not_true, Bool.not_false, gt_iff_lt, ge_iff_le, Int.not_lt, Int.not_le] at h2)
  refine wc_skip ?_
  refine wq_seq ?_
  refine wc_seq ?_
  refine wc_seq ?_
  refine wc_region ?_
  refine wl_val (r_move rfl) (ltn rfl) ?_
  refine wl_val (r_lenS (hv _ (H5.right.right)) Try.underlying39 rfl) (ltn rfl) ?_
  refine wl_val (r_move rfl) (ltn rfl) ?_
  refine wl_nil ?_
  refine wq_seq ?_
  refine wc_block ?_
  refine wc_loop [(0, _), (5, _), (6, _), (31, _), (32, _)] (fun (k : Nat) => [(33, .int .i64 (k : Int))]) (fun (k : Nat) W => k ≤ es.length ∧ ∃ G N, Holds w W (UList p1 G N 0 • RList b2 G N 0 • F)) (fun (k : Nat) => es.length - k) (0) (Sub.cons rfl (Sub.cons rfl (Sub.cons rfl (Sub.cons rfl (Sub.cons rfl (Sub.nil _)))))) (Sub.cons rfl (Sub.nil _)) ⟨by omega, [], [], H5.f2⟩ ?_
  rintro k w6 ⟨hk, G, N, HL⟩
  dsimp only [List.cons_append, List.nil_append]
  refine wc_seq ?_
  refine wc_region ?_
  refine wl_val (r_lss rfl rfl) (ltn rfl) ?_
  refine wl_nil ?_
  refine wq_seq ?_
  refine wc_seq ?_
  refine wc_cond rfl (fun h3 => ?_) (fun h3 => ?_)
  · (try simp only [beq_iff_eq, bne_iff_ne, ne_eq, decide_eq_true_eq, decide_eq_false_iff_not, beq_eq_false_iff_ne, bne_eq_false_iff_eq, Bool.not_eq_true', Bool.not_eq_false', Bool.not_eq_eq_eq_not, Bool.not_true, Bool.not_false, gt_iff_lt, ge_iff_le, Int.not_lt, Int.not_le] at h3)
    
    refine wc_skip ?_
    refine wq_seq ?_
    refine wc_seq ?_
    refine wc_block ?_
    refine wc_seq ?_
    refine wc_region ?_
    obtain ⟨blv, olv, clv, elv⟩ := Rd.posV (hv _ (HL.right.right)) (by omega)
    cases elv
    refine wl_val (r_index Try.underlying39 Try.sizeOf24 rfl rfl (by omega)) (ltn rfl) ?_
    refine wl_val (r_load_elem (ys := [_, _, _]) (hv _ (HL.right.right)) (by omega) Try.underlying24 rfl Try.sizeOf24 rfl (flat_elem BEd.enc_len (by omega) default) rfl) (ltn rfl) ?_
    have hkl : k < es.length := by omega
    obtain ⟨r1, r2, r3, r4⟩ := g3 k hkl
    have f1 := FRdI.of_start r1 F
    have f2 := FRdI.of_start r2 F
    refine wl_eff (e_allocL (l := [_, _, _]) HL Try.zeroValue24 rfl) (ltn rfl) ?_
    rintro _ w7 ⟨b7, rfl, H7⟩
    refine wl_eff0 (e_storePL 0 (l' := [_, _, _]) (us := [_, _, _]) H7 Try.sizeOf24 rfl rfl rfl (ones_cons (by first | rfl | assumption) (ones_cons (by first | rfl | exact Rd.one (f1 _ (H7.right.right.right))) (ones_cons (by first | rfl | exact Rd.one (f2 _ (H7.right.right.right))) ones_nil))) rfl rfl) ?_
    rintro _ w8 H8
    refine wl_nil ?_
    refine wq_seq ?_
    refine wc_seq ?_
    refine wc_region ?_
    refine wl_val (r_load_whole Try.underlying24 rfl Try.sizeOf24 rfl rfl (H8).get.2) (ltn rfl) ?_
    refine wl_eff (e_call (r_call rfl Try.func20 rfl rfl) (ref_clone_ret H8 (fun W HW => f1 _ (HW.right.right.right)) (fun W HW => f2 _ (HW.right.right.right)) (by omega) (by omega))) (ltn rfl) ?_
    rintro _ w9 ⟨d9, s9, rfl, H9⟩
    refine wl_eff (e_allocL (l := [_, _, _]) H9 Try.zeroValue24 rfl) (ltn rfl) ?_
    rintro _ w10 ⟨b10, rfl, H10⟩
    refine wl_eff0 (e_storePL 0 (l' := [_, _, _]) (us := [_, _, _]) H10 Try.sizeOf24 rfl rfl rfl (ones_cons (by first | rfl | assumption) (ones_cons (by first | rfl | exact Rd.one ((H10.f2).row_rd)) (ones_cons (by first | rfl | exact Rd.one ((H10.f3).row_rd)) ones_nil))) rfl rfl) ?_
    rintro _ w11 H11
    refine wl_nil ?_
    refine wq_seq ?_
    refine wc_seq ?_
    refine wc_region ?_
    refine wl_val (r_move rfl) (ltn rfl) ?_
    refine wl_val (r_load_whole Try.underlying24 rfl Try.sizeOf24 rfl rfl (H11).get.2) (ltn rfl) ?_
    refine wl_eff (e_call (r_call rfl Try.func21 rfl rfl) (undo_add_ret H11.f5 (fun W HW => (HW.f2).row_rd) (fun W HW => (HW.f3).row_rd) (by omega) (by omega))) (ltn rfl) ?_
    rintro _ w12 ⟨rfl, H12⟩
    refine wl_nil ?_
    refine wq_seq ?_
    refine wc_seq ?_
    refine wc_region ?_
    refine wl_val (r_move rfl) (ltn rfl) ?_
    refine wl_val (r_load_whole Try.underlying24 rfl Try.sizeOf24 rfl rfl (H12.f5).get.2) (ltn rfl) ?_
    refine wl_eff (e_call (r_call rfl Try.func22 rfl rfl) (rl_add_ret H12.f6 (fun W HW => f1 _ (HW.right.right.right.right.right)) (fun W HW => f2 _ (HW.right.right.right.right.right)) (by omega) (by omega))) (ltn rfl) ?_
    rintro _ w13 ⟨rfl, H13⟩
    refine wl_nil ?_
    refine wq_seq ?_
    refine wc_seq ?_
    refine wc_region ?_
    refine wl_val (r_move rfl) (ltn rfl) ?_
    refine wl_eff (e_append_ints (l := []) (H13.row_nil none) (hl _ (H13.right.right.right.right.right.right)) Try.underlying22 (show (Try.prog.info? 21).map (fun i => (i.zero, i.size, i.bytes)) = some (some (.int .i32 0), 1, 4) by kernel_rfl) rfl rfl (by first | omega | (simp only [List.length_append, List.length_nil, List.length_cons]; omega) | (simp; omega)) (by first | omega | (simp only [List.length_append, List.length_nil, List.length_cons]; omega) | (simp; omega))) (ltn rfl) ?_
    rintro l14 w14 H14
    try simp only [List.nil_append] at H14
    refine wl_val (r_assign rfl) (ltn rfl) ?_
    refine wl_nil ?_
    refine wq_seq ?_
    refine wc_seq ?_
    refine wc_region ?_
    refine wl_val (r_move rfl) (ltn rfl) ?_
    refine wl_val (r_load_whole Try.underlying24 rfl Try.sizeOf24 rfl rfl (H14.f4).get.2) (ltn rfl) ?_
    refine wl_eff (e_call (r_call rfl Try.func9 rfl rfl) (undo_apply_ret H14 (fun W HW => (HW).row_rd) (fun W HW => (HW.f5).row_rd) (fun W HW => (HW.f6).row_rd) (by omega) (by omega) (by omega))) (ltn rfl) ?_
    rintro _ w15 ⟨u15, rfl, H15⟩
    refine wl_val (r_move rfl) (ltn rfl) ?_
    refine wl_val (r_extract rfl rfl) (ltn rfl) ?_
    refine wl_val (r_extract rfl rfl) (ltn rfl) ?_
    refine wl_val (r_assign rfl) (ltn rfl) ?_
    refine wl_val (r_assign rfl) (ltn rfl) ?_
    refine wl_nil ?_
    refine wq_seq ?_
    refine wc_seq ?_
    refine wc_seq ?_
    refine wc_region ?_
    refine wl_val (r_move rfl) (ltn rfl) ?_
    refine wl_val (r_lenR ((H15).row_rd) Try.underlying22 rfl) (ltn rfl) ?_
    refine wl_val (r_move rfl) (ltn rfl) ?_
    refine wl_nil ?_
    refine wq_seq ?_
    refine wc_block ?_
    obtain ⟨n16, R16, ⟨hn16, hb16⟩, hR16, m16, hm16, HR16⟩ := Holds.hideI (H15)
    refine wc_loop [(0, _), (5, _), (6, _), (8, _), (9, _), (10, _), (11, _), (12, _), (31, _), (32, _), (33, _), (54, _)] (fun (i : Nat) => [(55, .int .i64 (i : Int))]) (fun (i : Nat) W => i ≤ n16 ∧ ∃ m, m.length = n16 ∧ Holds w W (RowI 21 .i32 u15 m • R16)) (fun (i : Nat) => n16 - i) (0) (Sub.cons rfl (Sub.cons rfl (Sub.cons rfl (Sub.cons rfl (Sub.cons rfl (Sub.cons rfl (Sub.cons rfl (Sub.cons rfl (Sub.cons rfl (Sub.cons rfl (Sub.cons rfl (Sub.cons rfl (Sub.nil _))))))))))))) (Sub.cons rfl (Sub.nil _)) ⟨by omega, m16, by omega, HR16⟩ ?_
    rintro i w17 ⟨hi, m, hm, HL⟩
    dsimp only [List.cons_append, List.nil_append]
    refine wc_seq ?_
    refine wc_region ?_
    refine wl_val (r_lss rfl rfl) (ltn rfl) ?_
    refine wl_nil ?_
    refine wq_seq ?_
    refine wc_seq ?_
    refine wc_cond rfl (fun h4 => ?_) (fun h4 => ?_)
    · (try simp only [beq_iff_eq, bne_iff_ne, ne_eq, decide_eq_true_eq, decide_eq_false_iff_not, beq_eq_false_iff_ne, bne_eq_false_iff_eq, Bool.not_eq_true', Bool.not_eq_false', Bool.not_eq_eq_eq_not, Bool.not_true, Bool.not_false, gt_iff_lt, ge_iff_le, Int.not_lt, Int.not_le] at h4)
      
      refine wc_skip ?_
      refine wq_seq ?_
      refine wc_seq ?_
      refine wc_block ?_
      refine wc_seq ?_
      refine wc_region ?_
      refine wl_val (r_move rfl) (ltn rfl) ?_
      refine wl_val (r_assign rfl) (ltn rfl) ?_
      refine wl_nil ?_
      refine wq_seq ?_
      refine wc_region ?_
      refine wl_val (r_move rfl) (ltn rfl) ?_
      refine wl_val (r_move rfl) (ltn rfl) ?_
      obtain ⟨bu15, ou15, cu15, eu15⟩ := RdI.posV ((HL).row_rd) (by omega)
      cases eu15
      refine wl_val (r_index Try.underlying22 Try.sizeOf21 rfl rfl (by omega)) (ltn rfl) ?_
      refine wl_eff0 (e_store_elem HL Try.sizeOf21 rfl rfl (by first | exact rfl | omega | simp) (by omega)) ?_
      rintro _ w18 H18
      refine wl_nil ?_
      refine wq_block_normal ?_
      refine wq_seq ?_
      refine wc_region ?_
      refine wl_val (r_add rfl rfl (by omega)) (ltn rfl) ?_
      refine wl_val (r_move rfl) (ltn rfl) ?_
      refine wl_nil ?_
      refine wq_round (i + 1) ?_ ?_ ?_ ?_
      · exact (Sub.cons rfl (Sub.nil _))
      · exact (Sub.cons rfl (Sub.cons rfl (Sub.cons rfl (Sub.cons rfl (Sub.cons rfl (Sub.cons rfl (Sub.cons rfl (Sub.cons rfl (Sub.cons rfl (Sub.cons rfl (Sub.cons rfl (Sub.cons rfl (Sub.nil _)))))))))))))
      · (try dsimp only)
        exact ⟨by omega, _, by simp [hm], H18⟩
      · (try dsimp only); omega
    · (try simp only [beq_iff_eq, bne_iff_ne, ne_eq, decide_eq_true_eq, decide_eq_false_iff_not, beq_eq_false_iff_ne, bne_eq_false_iff_eq, Bool.not_eq_true', Bool.not_eq_false', Bool.not_eq_eq_eq_not, Bool.not_true, Bool.not_false, gt_iff_lt, ge_iff_le, Int.not_lt, Int.not_le] at h4)
      
      refine wc_exit ?_
      refine wq_then_exit ?_
      subst hR16
      refine wq_then_exit ?_
      refine wq_block_hit ?_
      refine wq_seq ?_
      refine wc_seq ?_
      refine wc_seq ?_
      refine wc_region ?_
      refine wl_val (r_move rfl) (ltn rfl) ?_
      refine wl_val (r_eql rfl rfl) (ltn rfl) ?_
      refine wl_split rfl (ltn rfl) (fun h5 => ?_) (fun h5 => ?_)
      · (try simp only [beq_iff_eq, bne_iff_ne, ne_eq, decide_eq_true_eq, decide_eq_false_iff_not, beq_eq_false_iff_ne, bne_eq_false_iff_eq, Bool.not_eq_true', Bool.not_eq_false', Bool.not_eq_eq_eq_not, Bool.not_true, Bool.not_false, gt_iff_lt, ge_iff_le, Int.not_lt, Int.not_le] at h5)
        refine wl_yes rfl rfl ?_
        refine wl_val (r_move rfl) (ltn rfl) ?_
        refine wl_yes rfl rfl ?_
        refine wl_val (r_move rfl) (ltn rfl) ?_
        refine wl_yes rfl rfl ?_
        refine wl_eff (e_call (r_call rfl Try.func14 rfl rfl) (same_runes_ret _ _ _ _ _ ((HL.f2).row_rd) (hl _ (HL.right.right.right.right.right.right.right.right)))) (ltn rfl) ?_
        rintro _ w19 ⟨rfl, hD19⟩
        have HD19 := HL.drewn hD19
        refine wl_yes rfl rfl ?_
        refine wl_val (r_known_f (r_not rfl) (by simp)) (ltn rfl) ?_
        refine wl_val (r_pick_t rfl rfl) (ltn rfl) ?_
        refine wl_nil ?_
        refine wq_seq ?_
        refine wc_cond_f rfl ?_
        refine wc_skip ?_
        refine wq_seq ?_
        refine wc_seq ?_
        refine wc_region ?_
        refine wl_val (r_load_whole Try.underlying24 rfl Try.sizeOf24 rfl rfl (HD19.f5).get.2) (ltn rfl) ?_
        refine wl_eff (e_call (r_call rfl Try.func16 rfl rfl) (undo_inverse_ret HD19 (fun W HW => (HW.f6).row_rd) (fun W HW => (HW.f7).row_rd) (by omega) (by omega))) (ltn rfl) ?_
        rintro _ w20 ⟨d20, s20, rfl, H20⟩
        refine wl_eff (e_allocL (l := [_, _, _]) H20 Try.zeroValue24 rfl) (ltn rfl) ?_
        rintro _ w21 ⟨b21, rfl, H21⟩
        refine wl_eff0 (e_storePL 0 (l' := [_, _, _]) (us := [_, _, _]) H21 Try.sizeOf24 rfl rfl rfl (ones_cons (by first | rfl | assumption) (ones_cons (by first | rfl | exact Rd.one ((H21.f2).row_rd)) (ones_cons (by first | rfl | exact Rd.one ((H21.f3).row_rd)) ones_nil))) rfl rfl) ?_
        rintro _ w22 H22
        refine wl_nil ?_
        refine wq_seq ?_
        refine wc_seq ?_
        refine wc_seq ?_
        refine wc_region ?_
        refine wl_val ((by first | exact r_field0 1 Try.underlying24 rfl rfl Try.sizeOf22 (by decide) rfl | exact r_field 1 Try.underlying24 rfl rfl Try.sizeOf22 (by decide) rfl)) (ltn rfl) ?_
        refine wl_val (r_load (plain_of Try.underlying22 rfl) rfl (cell_of_blk (H22).get.2 rfl)) (ltn rfl) ?_
        refine wl_val (r_lenR ((H22.f2).row_rd) Try.underlying22 rfl) (ltn rfl) ?_
        refine wl_val (r_move rfl) (ltn rfl) ?_
        refine wl_nil ?_
        refine wq_seq ?_
        refine wc_block ?_
        obtain ⟨n23, R23, ⟨hn23, hb23⟩, hR23, m23, hm23, HR23⟩ := Holds.hideI1 (H22.f2)
        refine wc_loop [(0, _), (5, _), (6, _), (8, _), (9, _), (14, _), (31, _), (32, _), (33, _), (65, _), (66, _), (67, _), (68, _), (74, _)] (fun (i : Nat) => [(75, .int .i64 (i : Int))]) (fun (i : Nat) W => i ≤ n23 ∧ ∃ m, m.length = n23 ∧ Holds w W (RowI 21 .i32 d20 m • blk b21 (.cells #[.int .i64 (es.getD k default).a, d20, s20] 24 (0, 0)) • R23)) (fun (i : Nat) => n23 - i) (0) (Sub.cons rfl (Sub.cons rfl (Sub.cons rfl (Sub.cons rfl (Sub.cons rfl (Sub.cons rfl (Sub.cons rfl (Sub.cons rfl (Sub.cons rfl (Sub.cons rfl (Sub.cons rfl (Sub.cons rfl (Sub.cons rfl (Sub.cons rfl (Sub.nil _))))))))))))))) (Sub.cons rfl (Sub.nil _)) ⟨by omega, m23, by omega, HR23⟩ ?_
        rintro i w24 ⟨hi, m, hm, HL⟩
        dsimp only [List.cons_append, List.nil_append]
        refine wc_seq ?_
        refine wc_region ?_
        refine wl_val (r_lss rfl rfl) (ltn rfl) ?_
        refine wl_nil ?_
        refine wq_seq ?_
        refine wc_seq ?_
        refine wc_cond rfl (fun h6 => ?_) (fun h6 => ?_)
        · (try simp only [beq_iff_eq, bne_iff_ne, ne_eq, decide_eq_true_eq, decide_eq_false_iff_not, beq_eq_false_iff_ne, bne_eq_false_iff_eq, Bool.not_eq_true', Bool.not_eq_false', Bool.not_eq_eq_eq_not, Bool.not_true, Bool.not_false, gt_iff_lt, ge_iff_le, Int.not_lt, Int.not_le] at h6)
          
          refine wc_skip ?_
          refine wq_seq ?_
          refine wc_seq ?_
          refine wc_block ?_
          refine wc_seq ?_
          refine wc_region ?_
          refine wl_val (r_move rfl) (ltn rfl) ?_
          refine wl_val (r_assign rfl) (ltn rfl) ?_
          refine wl_nil ?_
          refine wq_seq ?_
          refine wc_region ?_
          refine wl_val ((by first | exact r_field0 1 Try.underlying24 rfl rfl Try.sizeOf22 (by decide) rfl | exact r_field 1 Try.underlying24 rfl rfl Try.sizeOf22 (by decide) rfl)) (ltn rfl) ?_
          refine wl_val (r_load (plain_of Try.underlying22 rfl) rfl (cell_of_blk (HL.f2).get.2 rfl)) (ltn rfl) ?_
          refine wl_val (r_move rfl) (ltn rfl) ?_
          obtain ⟨bd20, od20, cd20, ed20⟩ := RdI.posV ((HL).row_rd) (by omega)
          cases ed20
          refine wl_val (r_index Try.underlying22 Try.sizeOf21 rfl rfl (by omega)) (ltn rfl) ?_
          refine wl_eff0 (e_store_elem HL Try.sizeOf21 rfl rfl (by first | exact rfl | omega | simp) (by omega)) ?_
          rintro _ w25 H25
          refine wl_nil ?_
          refine wq_block_normal ?_
          refine wq_seq ?_
          refine wc_region ?_
          refine wl_val (r_add rfl rfl (by omega)) (ltn rfl) ?_
          refine wl_val (r_move rfl) (ltn rfl) ?_
          refine wl_nil ?_
          refine wq_round (i + 1) ?_ ?_ ?_ ?_
          · exact (Sub.cons rfl (Sub.nil _))
          · exact (Sub.cons rfl (Sub.cons rfl (Sub.cons rfl (Sub.cons rfl (Sub.cons rfl (Sub.cons rfl (Sub.cons rfl (Sub.cons rfl (Sub.cons rfl (Sub.cons rfl (Sub.cons rfl (Sub.cons rfl (Sub.cons rfl (Sub.cons rfl (Sub.nil _)))))))))))))))
          · (try dsimp only)
            exact ⟨by omega, _, by simp [hm], H25.f2.f2⟩
          · (try dsimp only); omega
        · (try simp only [beq_iff_eq, bne_iff_ne, ne_eq, decide_eq_true_eq, decide_eq_false_iff_not, beq_eq_false_iff_ne, bne_eq_false_iff_eq, Bool.not_eq_true', Bool.not_eq_false', Bool.not_eq_eq_eq_not, Bool.not_true, Bool.not_false, gt_iff_lt, ge_iff_le, Int.not_lt, Int.not_le] at h6)
          
          refine wc_exit ?_
          refine wq_then_exit ?_
          subst hR23
          refine wq_then_exit ?_
          refine wq_block_hit ?_
          refine wq_seq ?_
          refine wc_seq ?_
          refine wc_seq ?_
          refine wc_region ?_
          refine wl_val ((by first | exact r_field0 2 Try.underlying24 rfl rfl Try.sizeOf22 (by decide) rfl | exact r_field 2 Try.underlying24 rfl rfl Try.sizeOf22 (by decide) rfl)) (ltn rfl) ?_
          refine wl_val (r_load (plain_of Try.underlying22 rfl) rfl (cell_of_blk (HL.f2).get.2 rfl)) (ltn rfl) ?_
          refine wl_val (r_lenR ((HL.f3).row_rd) Try.underlying22 rfl) (ltn rfl) ?_
          refine wl_val (r_move rfl) (ltn rfl) ?_
          refine wl_nil ?_
          refine wq_seq ?_
          refine wc_block ?_
          obtain ⟨n26, R26, ⟨hn26, hb26⟩, hR26, m26, hm26, HR26⟩ := Holds.hideI1 (HL.f2.f3)
          refine wc_loop [(0, _), (5, _), (6, _), (8, _), (9, _), (14, _), (31, _), (32, _), (33, _), (65, _), (66, _), (67, _), (68, _), (85, _)] (fun (i : Nat) => [(86, .int .i64 (i : Int))]) (fun (i : Nat) W => i ≤ n26 ∧ ∃ m, m.length = n26 ∧ Holds w W (RowI 21 .i32 s20 m • blk b21 (.cells #[.int .i64 (es.getD k default).a, d20, s20] 24 (0, 0)) • R26)) (fun (i : Nat) => n26 - i) (0) (Sub.cons rfl (Sub.cons rfl (Sub.cons rfl (Sub.cons rfl (Sub.cons rfl (Sub.cons rfl (Sub.cons rfl (Sub.cons rfl (Sub.cons rfl (Sub.cons rfl (Sub.cons rfl (Sub.cons rfl (Sub.cons rfl (Sub.cons rfl (Sub.nil _))))))))))))))) (Sub.cons rfl (Sub.nil _)) ⟨by omega, m26, by omega, HR26⟩ ?_
          rintro i w27 ⟨hi, m, hm, HL⟩
          dsimp only [List.cons_append, List.nil_append]
          refine wc_seq ?_
          refine wc_region ?_
          refine wl_val (r_lss rfl rfl) (ltn rfl) ?_
          refine wl_nil ?_
          refine wq_seq ?_
          refine wc_seq ?_
          refine wc_cond rfl (fun h7 => ?_) (fun h7 => ?_)
          · (try simp only [beq_iff_eq, bne_iff_ne, ne_eq, decide_eq_true_eq, decide_eq_false_iff_not, beq_eq_false_iff_ne, bne_eq_false_iff_eq, Bool.not_eq_true', Bool.not_eq_false', Bool.not_eq_eq_eq_not, Bool.not_true, Bool.not_false, gt_iff_lt, ge_iff_le, Int.not_lt, Int.not_le] at h7)
            
            refine wc_skip ?_
            refine wq_seq ?_
            refine wc_seq ?_
            refine wc_block ?_
            refine wc_seq ?_
            refine wc_region ?_
            refine wl_val (r_move rfl) (ltn rfl) ?_
            refine wl_val (r_assign rfl) (ltn rfl) ?_
            refine wl_nil ?_
            refine wq_seq ?_
            refine wc_region ?_
            refine wl_val ((by first | exact r_field0 2 Try.underlying24 rfl rfl Try.sizeOf22 (by decide) rfl | exact r_field 2 Try.underlying24 rfl rfl Try.sizeOf22 (by decide) rfl)) (ltn rfl) ?_
            refine wl_val (r_load (plain_of Try.underlying22 rfl) rfl (cell_of_blk (HL.f2).get.2 rfl)) (ltn rfl) ?_
            refine wl_val (r_move rfl) (ltn rfl) ?_
            obtain ⟨bs20, os20, cs20, es20⟩ := RdI.posV ((HL).row_rd) (by omega)
            cases es20
            refine wl_val (r_index Try.underlying22 Try.sizeOf21 rfl rfl (by omega)) (ltn rfl) ?_
            refine wl_eff0 (e_store_elem HL Try.sizeOf21 rfl rfl (by first | exact rfl | omega | simp) (by omega)) ?_
            rintro _ w28 H28
            refine wl_nil ?_
            refine wq_block_normal ?_
            refine wq_seq ?_
            refine wc_region ?_
            refine wl_val (r_add rfl rfl (by omega)) (ltn rfl) ?_
            refine wl_val (r_move rfl) (ltn rfl) ?_
            refine wl_nil ?_
            refine wq_round (i + 1) ?_ ?_ ?_ ?_
            · exact (Sub.cons rfl (Sub.nil _))
            · exact (Sub.cons rfl (Sub.cons rfl (Sub.cons rfl (Sub.cons rfl (Sub.cons rfl (Sub.cons rfl (Sub.cons rfl (Sub.cons rfl (Sub.cons rfl (Sub.cons rfl (Sub.cons rfl (Sub.cons rfl (Sub.cons rfl (Sub.cons rfl (Sub.nil _)))))))))))))))
            · (try dsimp only)
              exact ⟨by omega, _, by simp [hm], H28.f2.f2⟩
            · (try dsimp only); omega
          · (try simp only [beq_iff_eq, bne_iff_ne, ne_eq, decide_eq_true_eq, decide_eq_false_iff_not, beq_eq_false_iff_ne, bne_eq_false_iff_eq, Bool.not_eq_true', Bool.not_eq_false', Bool.not_eq_eq_eq_not, Bool.not_true, Bool.not_false, gt_iff_lt, ge_iff_le, Int.not_lt, Int.not_le] at h7)
            
            refine wc_exit ?_
            refine wq_then_exit ?_
            subst hR26
            refine wq_then_exit ?_
            refine wq_block_hit ?_
            refine wq_seq ?_
            refine wc_seq ?_
            refine wc_seq ?_
            refine wc_region ?_
            refine wl_val (r_load_whole Try.underlying24 rfl Try.sizeOf24 rfl rfl (HL.f8).get.2) (ltn rfl) ?_
            refine wl_val (r_load_whole Try.underlying24 rfl Try.sizeOf24 rfl rfl (HL.f11).get.2) (ltn rfl) ?_
            refine wl_eff (e_call (r_call rfl Try.func15 rfl rfl) (same_ed_ret HL (fun W HW => (HW.f9).row_rd) (fun W HW => (HW.f10).row_rd) (fun W HW => f1 _ (HW.right.right.right.right.right.right.right.right.right.right.right)) (fun W HW => f2 _ (HW.right.right.right.right.right.right.right.right.right.right.right)))) (ltn rfl) ?_
            rintro _ w29 ⟨rfl, H29⟩
            refine wl_val (r_known_f (r_not rfl) (by simp)) (ltn rfl) ?_
            refine wl_nil ?_
            refine wq_seq ?_
            refine wc_cond_f rfl ?_
            refine wc_skip ?_
            refine wq_seq ?_
            refine wc_seq ?_
            refine wc_seq ?_
            refine wc_region ?_
            refine wl_val ((by first | exact r_field0 1 Try.underlying24 rfl rfl Try.sizeOf22 (by decide) rfl | exact r_field 1 Try.underlying24 rfl rfl Try.sizeOf22 (by decide) rfl)) (ltn rfl) ?_
            refine wl_val (r_load (plain_of Try.underlying22 rfl) rfl (cell_of_blk (H29.f8).get.2 rfl)) (ltn rfl) ?_
            refine wl_val (r_lenR ((H29.f9).row_rd) Try.underlying22 rfl) (ltn rfl) ?_
            refine wl_val (r_move rfl) (ltn rfl) ?_
            refine wl_nil ?_
            refine wq_seq ?_
            refine wc_block ?_
            obtain ⟨n30, R30, ⟨hn30, hb30⟩, hR30, m30, hm30, HR30⟩ := Holds.hideI1 (H29.f8.f9)
            refine wc_loop [(0, _), (5, _), (6, _), (9, _), (31, _), (32, _), (33, _), (65, _), (66, _), (67, _), (68, _), (100, _)] (fun (i : Nat) => [(101, .int .i64 (i : Int))]) (fun (i : Nat) W => i ≤ n30 ∧ ∃ m, m.length = n30 ∧ Holds w W (RowI 21 .i32 d9 m • blk b10 (.cells #[.int .i64 (es.getD k default).a, d9, s9] 24 (0, 0)) • R30)) (fun (i : Nat) => n30 - i) (0) (Sub.cons rfl (Sub.cons rfl (Sub.cons rfl (Sub.cons rfl (Sub.cons rfl (Sub.cons rfl (Sub.cons rfl (Sub.cons rfl (Sub.cons rfl (Sub.cons rfl (Sub.cons rfl (Sub.cons rfl (Sub.nil _))))))))))))) (Sub.cons rfl (Sub.nil _)) ⟨by omega, m30, by omega, HR30⟩ ?_
            rintro i w31 ⟨hi, m, hm, HL⟩
            dsimp only [List.cons_append, List.nil_append]
            refine wc_seq ?_
            refine wc_region ?_
            refine wl_val (r_lss rfl rfl) (ltn rfl) ?_
            refine wl_nil ?_
            refine wq_seq ?_
            refine wc_seq ?_
            refine wc_cond rfl (fun h8 => ?_) (fun h8 => ?_)
            · (try simp only [beq_iff_eq, bne_iff_ne, ne_eq, decide_eq_true_eq, decide_eq_false_iff_not, beq_eq_false_iff_ne, bne_eq_false_iff_eq, Bool.not_eq_true', Bool.not_eq_false', Bool.not_eq_eq_eq_not, Bool.not_true, Bool.not_false, gt_iff_lt, ge_iff_le, Int.not_lt, Int.not_le] at h8)
              
              refine wc_skip ?_
              refine wq_seq ?_
              refine wc_seq ?_
              refine wc_block ?_
              refine wc_seq ?_
              refine wc_region ?_
              refine wl_val (r_move rfl) (ltn rfl) ?_
              refine wl_val (r_assign rfl) (ltn rfl) ?_
              refine wl_nil ?_
              refine wq_seq ?_
              refine wc_region ?_
              refine wl_val ((by first | exact r_field0 1 Try.underlying24 rfl rfl Try.sizeOf22 (by decide) rfl | exact r_field 1 Try.underlying24 rfl rfl Try.sizeOf22 (by decide) rfl)) (ltn rfl) ?_
              refine wl_val (r_load (plain_of Try.underlying22 rfl) rfl (cell_of_blk (HL.f2).get.2 rfl)) (ltn rfl) ?_
              refine wl_val (r_move rfl) (ltn rfl) ?_
              obtain ⟨bd9, od9, cd9, ed9⟩ := RdI.posV ((HL).row_rd) (by omega)
              cases ed9
              refine wl_val (r_index Try.underlying22 Try.sizeOf21 rfl rfl (by omega)) (ltn rfl) ?_
              refine wl_eff0 (e_store_elem HL Try.sizeOf21 rfl rfl (by first | exact rfl | omega | simp) (by omega)) ?_
              rintro _ w32 H32
              refine wl_nil ?_
              refine wq_block_normal ?_
              refine wq_seq ?_
              refine wc_region ?_
              refine wl_val (r_add rfl rfl (by omega)) (ltn rfl) ?_
              refine wl_val (r_move rfl) (ltn rfl) ?_
              refine wl_nil ?_
              refine wq_round (i + 1) ?_ ?_ ?_ ?_
              · exact (Sub.cons rfl (Sub.nil _))
              · exact (Sub.cons rfl (Sub.cons rfl (Sub.cons rfl (Sub.cons rfl (Sub.cons rfl (Sub.cons rfl (Sub.cons rfl (Sub.cons rfl (Sub.cons rfl (Sub.cons rfl (Sub.cons rfl (Sub.cons rfl (Sub.nil _)))))))))))))
              · (try dsimp only)
                exact ⟨by omega, _, by simp [hm], H32.f2.f2⟩
              · (try dsimp only); omega
            · (try simp only [beq_iff_eq, bne_iff_ne, ne_eq, decide_eq_true_eq, decide_eq_false_iff_not, beq_eq_false_iff_ne, bne_eq_false_iff_eq, Bool.not_eq_true', Bool.not_eq_false', Bool.not_eq_eq_eq_not, Bool.not_true, Bool.not_false, gt_iff_lt, ge_iff_le, Int.not_lt, Int.not_le] at h8)
              
              refine wc_exit ?_
              refine wq_then_exit ?_
              subst hR30
              refine wq_then_exit ?_
              refine wq_block_hit ?_
              refine wq_seq ?_
              refine wc_seq ?_
              refine wc_region ?_
              refine wl_val ((by first | exact r_field0 2 Try.underlying24 rfl rfl Try.sizeOf22 (by decide) rfl | exact r_field 2 Try.underlying24 rfl rfl Try.sizeOf22 (by decide) rfl)) (ltn rfl) ?_
              refine wl_val (r_load (plain_of Try.underlying22 rfl) rfl (cell_of_blk (HL.f2).get.2 rfl)) (ltn rfl) ?_
              refine wl_val (r_lenR ((HL.f10).row_rd) Try.underlying22 rfl) (ltn rfl) ?_
              refine wl_val (r_move rfl) (ltn rfl) ?_
              refine wl_nil ?_
              refine wq_seq ?_
              refine wc_block ?_
              obtain ⟨n33, R33, ⟨hn33, hb33⟩, hR33, m33, hm33, HR33⟩ := Holds.hideI1 (HL.f2.f10)
              refine wc_loop [(0, _), (5, _), (6, _), (9, _), (31, _), (32, _), (33, _), (65, _), (66, _), (67, _), (68, _), (111, _)] (fun (i : Nat) => [(112, .int .i64 (i : Int))]) (fun (i : Nat) W => i ≤ n33 ∧ ∃ m, m.length = n33 ∧ Holds w W (RowI 21 .i32 s9 m • blk b10 (.cells #[.int .i64 (es.getD k default).a, d9, s9] 24 (0, 0)) • R33)) (fun (i : Nat) => n33 - i) (0) (Sub.cons rfl (Sub.cons rfl (Sub.cons rfl (Sub.cons rfl (Sub.cons rfl (Sub.cons rfl (Sub.cons rfl (Sub.cons rfl (Sub.cons rfl (Sub.cons rfl (Sub.cons rfl (Sub.cons rfl (Sub.nil _))))))))))))) (Sub.cons rfl (Sub.nil _)) ⟨by omega, m33, by omega, HR33⟩ ?_
              rintro i w34 ⟨hi, m, hm, HL⟩
              dsimp only [List.cons_append, List.nil_append]
              refine wc_seq ?_
              refine wc_region ?_
              refine wl_val (r_lss rfl rfl) (ltn rfl) ?_
              refine wl_nil ?_
              refine wq_seq ?_
              refine wc_seq ?_
              refine wc_cond rfl (fun h9 => ?_) (fun h9 => ?_)
              · (try simp only [beq_iff_eq, bne_iff_ne, ne_eq, decide_eq_true_eq, decide_eq_false_iff_not, beq_eq_false_iff_ne, bne_eq_false_iff_eq, Bool.not_eq_true', Bool.not_eq_false', Bool.not_eq_eq_eq_not, Bool.not_true, Bool.not_false, gt_iff_lt, ge_iff_le, Int.not_lt, Int.not_le] at h9)
                
                refine wc_skip ?_
                refine wq_seq ?_
                refine wc_seq ?_
                refine wc_block ?_
                refine wc_seq ?_
                refine wc_region ?_
                refine wl_val (r_move rfl) (ltn rfl) ?_
                refine wl_val (r_assign rfl) (ltn rfl) ?_
                refine wl_nil ?_
                refine wq_seq ?_
                refine wc_region ?_
                refine wl_val ((by first | exact r_field0 2 Try.underlying24 rfl rfl Try.sizeOf22 (by decide) rfl | exact r_field 2 Try.underlying24 rfl rfl Try.sizeOf22 (by decide) rfl)) (ltn rfl) ?_
                refine wl_val (r_load (plain_of Try.underlying22 rfl) rfl (cell_of_blk (HL.f2).get.2 rfl)) (ltn rfl) ?_
                refine wl_val (r_move rfl) (ltn rfl) ?_
                obtain ⟨bs9, os9, cs9, es9⟩ := RdI.posV ((HL).row_rd) (by omega)
                cases es9
                refine wl_val (r_index Try.underlying22 Try.sizeOf21 rfl rfl (by omega)) (ltn rfl) ?_
                refine wl_eff0 (e_store_elem HL Try.sizeOf21 rfl rfl (by first | exact rfl | omega | simp) (by omega)) ?_
                rintro _ w35 H35
                refine wl_nil ?_
                refine wq_block_normal ?_
                refine wq_seq ?_
                refine wc_region ?_
                refine wl_val (r_add rfl rfl (by omega)) (ltn rfl) ?_
                refine wl_val (r_move rfl) (ltn rfl) ?_
                refine wl_nil ?_
                refine wq_round (i + 1) ?_ ?_ ?_ ?_
                · exact (Sub.cons rfl (Sub.nil _))
                · exact (Sub.cons rfl (Sub.cons rfl (Sub.cons rfl (Sub.cons rfl (Sub.cons rfl (Sub.cons rfl (Sub.cons rfl (Sub.cons rfl (Sub.cons rfl (Sub.cons rfl (Sub.cons rfl (Sub.cons rfl (Sub.nil _)))))))))))))
                · (try dsimp only)
                  exact ⟨by omega, _, by simp [hm], H35.f2.f2⟩
                · (try dsimp only); omega
              · (try simp only [beq_iff_eq, bne_iff_ne, ne_eq, decide_eq_true_eq, decide_eq_false_iff_not, beq_eq_false_iff_ne, bne_eq_false_iff_eq, Bool.not_eq_true', Bool.not_eq_false', Bool.not_eq_eq_eq_not, Bool.not_true, Bool.not_false, gt_iff_lt, ge_iff_le, Int.not_lt, Int.not_le] at h9)
                
                refine wc_exit ?_
                refine wq_then_exit ?_
                subst hR33
                refine wq_then_exit ?_
                refine wq_block_hit ?_
                refine wq_block_normal ?_
                refine wq_seq ?_
                refine wc_region ?_
                refine wl_val (r_add rfl rfl (by omega)) (ltn rfl) ?_
                refine wl_val (r_move rfl) (ltn rfl) ?_
                refine wl_nil ?_
                refine wq_round (k + 1) ?_ ?_ ?_ ?_
                · exact (Sub.cons rfl (Sub.nil _))
                · exact (Sub.cons rfl (Sub.cons rfl (Sub.cons rfl (Sub.cons rfl (Sub.cons rfl (Sub.nil _))))))
                · (try dsimp only)
                  exact ⟨by omega, _, _, HL.right.right.right.right.right.right.right.right.f3.right.f2⟩
                · (try dsimp only); omega
      · (try simp only [beq_iff_eq, bne_iff_ne, ne_eq, decide_eq_true_eq, decide_eq_false_iff_not, beq_eq_false_iff_ne, bne_eq_false_iff_eq, Bool.not_eq_true', Bool.not_eq_false', Bool.not_eq_eq_eq_not, Bool.not_true, Bool.not_false, gt_iff_lt, ge_iff_le, Int.not_lt, Int.not_le] at h5)
        refine wl_no rfl rfl rfl (ltn rfl) ?_
        refine wl_no rfl rfl rfl (ltn rfl) ?_
        refine wl_no rfl rfl rfl (ltn rfl) ?_
        refine wl_no rfl rfl rfl (ltn rfl) ?_
        refine wl_val (r_pick_f rfl rfl) (ltn rfl) ?_
        refine wl_nil ?_
        refine wq_seq ?_
        refine wc_cond_f rfl ?_
        refine wc_skip ?_
        refine wq_seq ?_
        refine wc_seq ?_
        refine wc_region ?_
        refine wl_val (r_load_whole Try.underlying24 rfl Try.sizeOf24 rfl rfl (HL.f5).get.2) (ltn rfl) ?_
        refine wl_eff (e_call (r_call rfl Try.func16 rfl rfl) (undo_inverse_ret HL (fun W HW => (HW.f6).row_rd) (fun W HW => (HW.f7).row_rd) (by omega) (by omega))) (ltn rfl) ?_
        rintro _ w36 ⟨d36, s36, rfl, H36⟩
        refine wl_eff (e_allocL (l := [_, _, _]) H36 Try.zeroValue24 rfl) (ltn rfl) ?_
        rintro _ w37 ⟨b37, rfl, H37⟩
        refine wl_eff0 (e_storePL 0 (l' := [_, _, _]) (us := [_, _, _]) H37 Try.sizeOf24 rfl rfl rfl (ones_cons (by first | rfl | assumption) (ones_cons (by first | rfl | exact Rd.one ((H37.f2).row_rd)) (ones_cons (by first | rfl | exact Rd.one ((H37.f3).row_rd)) ones_nil))) rfl rfl) ?_
        rintro _ w38 H38
        refine wl_nil ?_
        refine wq_seq ?_
        refine wc_seq ?_
        refine wc_seq ?_
        refine wc_region ?_
        refine wl_val ((by first | exact r_field0 1 Try.underlying24 rfl rfl Try.sizeOf22 (by decide) rfl | exact r_field 1 Try.underlying24 rfl rfl Try.sizeOf22 (by decide) rfl)) (ltn rfl) ?_
        refine wl_val (r_load (plain_of Try.underlying22 rfl) rfl (cell_of_blk (H38).get.2 rfl)) (ltn rfl) ?_
        refine wl_val (r_lenR ((H38.f2).row_rd) Try.underlying22 rfl) (ltn rfl) ?_
        refine wl_val (r_move rfl) (ltn rfl) ?_
        refine wl_nil ?_
        refine wq_seq ?_
        refine wc_block ?_
        obtain ⟨n39, R39, ⟨hn39, hb39⟩, hR39, m39, hm39, HR39⟩ := Holds.hideI1 (H38.f2)
        refine wc_loop [(0, _), (5, _), (6, _), (8, _), (9, _), (14, _), (31, _), (32, _), (33, _), (65, _), (66, _), (67, _), (68, _), (74, _)] (fun (i : Nat) => [(75, .int .i64 (i : Int))]) (fun (i : Nat) W => i ≤ n39 ∧ ∃ m, m.length = n39 ∧ Holds w W (RowI 21 .i32 d36 m • blk b37 (.cells #[.int .i64 (es.getD k default).a, d36, s36] 24 (0, 0)) • R39)) (fun (i : Nat) => n39 - i) (0) (Sub.cons rfl (Sub.cons rfl (Sub.cons rfl (Sub.cons rfl (Sub.cons rfl (Sub.cons rfl (Sub.cons rfl (Sub.cons rfl (Sub.cons rfl (Sub.cons rfl (Sub.cons rfl (Sub.cons rfl (Sub.cons rfl (Sub.cons rfl (Sub.nil _))))))))))))))) (Sub.cons rfl (Sub.nil _)) ⟨by omega, m39, by omega, HR39⟩ ?_
        rintro i w40 ⟨hi, m, hm, HL⟩
        dsimp only [List.cons_append, List.nil_append]
        refine wc_seq ?_
        refine wc_region ?_
        refine wl_val (r_lss rfl rfl) (ltn rfl) ?_
        refine wl_nil ?_
        refine wq_seq ?_
        refine wc_seq ?_
        refine wc_cond rfl (fun h10 => ?_) (fun h10 => ?_)
        · (try simp only [beq_iff_eq, bne_iff_ne, ne_eq, decide_eq_true_eq, decide_eq_false_iff_not, beq_eq_false_iff_ne, bne_eq_false_iff_eq, Bool.not_eq_true', Bool.not_eq_false', Bool.not_eq_eq_eq_not, Bool.not_true, Bool.not_false, gt_iff_lt, ge_iff_le, Int.not_lt, Int.not_le] at h10)
          
          refine wc_skip ?_
          refine wq_seq ?_
          refine wc_seq ?_
          refine wc_block ?_
          refine wc_seq ?_
          refine wc_region ?_
          refine wl_val (r_move rfl) (ltn rfl) ?_
          refine wl_val (r_assign rfl) (ltn rfl) ?_
          refine wl_nil ?_
          refine wq_seq ?_
          refine wc_region ?_
          refine wl_val ((by first | exact r_field0 1 Try.underlying24 rfl rfl Try.sizeOf22 (by decide) rfl | exact r_field 1 Try.underlying24 rfl rfl Try.sizeOf22 (by decide) rfl)) (ltn rfl) ?_
          refine wl_val (r_load (plain_of Try.underlying22 rfl) rfl (cell_of_blk (HL.f2).get.2 rfl)) (ltn rfl) ?_
          refine wl_val (r_move rfl) (ltn rfl) ?_
          obtain ⟨bd36, od36, cd36, ed36⟩ := RdI.posV ((HL).row_rd) (by omega)
          cases ed36
          refine wl_val (r_index Try.underlying22 Try.sizeOf21 rfl rfl (by omega)) (ltn rfl) ?_
          refine wl_eff0 (e_store_elem HL Try.sizeOf21 rfl rfl (by first | exact rfl | omega | simp) (by omega)) ?_
          rintro _ w41 H41
          refine wl_nil ?_
          refine wq_block_normal ?_
          refine wq_seq ?_
          refine wc_region ?_
          refine wl_val (r_add rfl rfl (by omega)) (ltn rfl) ?_
          refine wl_val (r_move rfl) (ltn rfl) ?_
          refine wl_nil ?_
          refine wq_round (i + 1) ?_ ?_ ?_ ?_
          · exact (Sub.cons rfl (Sub.nil _))
          · exact (Sub.cons rfl (Sub.cons rfl (Sub.cons rfl (Sub.cons rfl (Sub.cons rfl (Sub.cons rfl (Sub.cons rfl (Sub.cons rfl (Sub.cons rfl (Sub.cons rfl (Sub.cons rfl (Sub.cons rfl (Sub.cons rfl (Sub.cons rfl (Sub.nil _)))))))))))))))
          · (try dsimp only)
            exact ⟨by omega, _, by simp [hm], H41.f2.f2⟩
          · (try dsimp only); omega
        · (try simp only [beq_iff_eq, bne_iff_ne, ne_eq, decide_eq_true_eq, decide_eq_false_iff_not, beq_eq_false_iff_ne, bne_eq_false_iff_eq, Bool.not_eq_true', Bool.not_eq_false', Bool.not_eq_eq_eq_not, Bool.not_true, Bool.not_false, gt_iff_lt, ge_iff_le, Int.not_lt, Int.not_le] at h10)
          
          refine wc_exit ?_
          refine wq_then_exit ?_
          subst hR39
          refine wq_then_exit ?_
          refine wq_block_hit ?_
          refine wq_seq ?_
          refine wc_seq ?_
          refine wc_seq ?_
          refine wc_region ?_
          refine wl_val ((by first | exact r_field0 2 Try.underlying24 rfl rfl Try.sizeOf22 (by decide) rfl | exact r_field 2 Try.underlying24 rfl rfl Try.sizeOf22 (by decide) rfl)) (ltn rfl) ?_
          refine wl_val (r_load (plain_of Try.underlying22 rfl) rfl (cell_of_blk (HL.f2).get.2 rfl)) (ltn rfl) ?_
          refine wl_val (r_lenR ((HL.f3).row_rd) Try.underlying22 rfl) (ltn rfl) ?_
          refine wl_val (r_move rfl) (ltn rfl) ?_
          refine wl_nil ?_
          refine wq_seq ?_
          refine wc_block ?_
          obtain ⟨n42, R42, ⟨hn42, hb42⟩, hR42, m42, hm42, HR42⟩ := Holds.hideI1 (HL.f2.f3)
          refine wc_loop [(0, _), (5, _), (6, _), (8, _), (9, _), (14, _), (31, _), (32, _), (33, _), (65, _), (66, _), (67, _), (68, _), (85, _)] (fun (i : Nat) => [(86, .int .i64 (i : Int))]) (fun (i : Nat) W => i ≤ n42 ∧ ∃ m, m.length = n42 ∧ Holds w W (RowI 21 .i32 s36 m • blk b37 (.cells #[.int .i64 (es.getD k default).a, d36, s36] 24 (0, 0)) • R42)) (fun (i : Nat) => n42 - i) (0) (Sub.cons rfl (Sub.cons rfl (Sub.cons rfl (Sub.cons rfl (Sub.cons rfl (Sub.cons rfl (Sub.cons rfl (Sub.cons rfl (Sub.cons rfl (Sub.cons rfl (Sub.cons rfl (Sub.cons rfl (Sub.cons rfl (Sub.cons rfl (Sub.nil _))))))))))))))) (Sub.cons rfl (Sub.nil _)) ⟨by omega, m42, by omega, HR42⟩ ?_
          rintro i w43 ⟨hi, m, hm, HL⟩
          dsimp only [List.cons_append, List.nil_append]
          refine wc_seq ?_
          refine wc_region ?_
          refine wl_val (r_lss rfl rfl) (ltn rfl) ?_
          refine wl_nil ?_
          refine wq_seq ?_
          refine wc_seq ?_
          refine wc_cond rfl (fun h11 => ?_) (fun h11 => ?_)
          · (try simp only [beq_iff_eq, bne_iff_ne, ne_eq, decide_eq_true_eq, decide_eq_false_iff_not, beq_eq_false_iff_ne, bne_eq_false_iff_eq, Bool.not_eq_true', Bool.not_eq_false', Bool.not_eq_eq_eq_not, Bool.not_true, Bool.not_false, gt_iff_lt, ge_iff_le, Int.not_lt, Int.not_le] at h11)
            
            refine wc_skip ?_
            refine wq_seq ?_
            refine wc_seq ?_
            refine wc_block ?_
            refine wc_seq ?_
            refine wc_region ?_
            refine wl_val (r_move rfl) (ltn rfl) ?_
            refine wl_val (r_assign rfl) (ltn rfl) ?_
            refine wl_nil ?_
            refine wq_seq ?_
            refine wc_region ?_
            refine wl_val ((by first | exact r_field0 2 Try.underlying24 rfl rfl Try.sizeOf22 (by decide) rfl | exact r_field 2 Try.underlying24 rfl rfl Try.sizeOf22 (by decide) rfl)) (ltn rfl) ?_
            refine wl_val (r_load (plain_of Try.underlying22 rfl) rfl (cell_of_blk (HL.f2).get.2 rfl)) (ltn rfl) ?_
            refine wl_val (r_move rfl) (ltn rfl) ?_
            obtain ⟨bs36, os36, cs36, es36⟩ := RdI.posV ((HL).row_rd) (by omega)
            cases es36
            refine wl_val (r_index Try.underlying22 Try.sizeOf21 rfl rfl (by omega)) (ltn rfl) ?_
            refine wl_eff0 (e_store_elem HL Try.sizeOf21 rfl rfl (by first | exact rfl | omega | simp) (by omega)) ?_
            rintro _ w44 H44
            refine wl_nil ?_
            refine wq_block_normal ?_
            refine wq_seq ?_
            refine wc_region ?_
            refine wl_val (r_add rfl rfl (by omega)) (ltn rfl) ?_
            refine wl_val (r_move rfl) (ltn rfl) ?_
            refine wl_nil ?_
            refine wq_round (i + 1) ?_ ?_ ?_ ?_
            · exact (Sub.cons rfl (Sub.nil _))
            · exact (Sub.cons rfl (Sub.cons rfl (Sub.cons rfl (Sub.cons rfl (Sub.cons rfl (Sub.cons rfl (Sub.cons rfl (Sub.cons rfl (Sub.cons rfl (Sub.cons rfl (Sub.cons rfl (Sub.cons rfl (Sub.cons rfl (Sub.cons rfl (Sub.nil _)))))))))))))))
            · (try dsimp only)
              exact ⟨by omega, _, by simp [hm], H44.f2.f2⟩
            · (try dsimp only); omega
          · (try simp only [beq_iff_eq, bne_iff_ne, ne_eq, decide_eq_true_eq, decide_eq_false_iff_not, beq_eq_false_iff_ne, bne_eq_false_iff_eq, Bool.not_eq_true', Bool.not_eq_false', Bool.not_eq_eq_eq_not, Bool.not_true, Bool.not_false, gt_iff_lt, ge_iff_le, Int.not_lt, Int.not_le] at h11)
            
            refine wc_exit ?_
            refine wq_then_exit ?_
            subst hR42
            refine wq_then_exit ?_
            refine wq_block_hit ?_
            refine wq_seq ?_
            refine wc_seq ?_
            refine wc_seq ?_
            refine wc_region ?_
            refine wl_val (r_load_whole Try.underlying24 rfl Try.sizeOf24 rfl rfl (HL.f8).get.2) (ltn rfl) ?_
            refine wl_val (r_load_whole Try.underlying24 rfl Try.sizeOf24 rfl rfl (HL.f11).get.2) (ltn rfl) ?_
            refine wl_eff (e_call (r_call rfl Try.func15 rfl rfl) (same_ed_ret HL (fun W HW => (HW.f9).row_rd) (fun W HW => (HW.f10).row_rd) (fun W HW => f1 _ (HW.right.right.right.right.right.right.right.right.right.right.right)) (fun W HW => f2 _ (HW.right.right.right.right.right.right.right.right.right.right.right)))) (ltn rfl) ?_
            rintro _ w45 ⟨rfl, H45⟩
            refine wl_val (r_known_f (r_not rfl) (by simp)) (ltn rfl) ?_
            refine wl_nil ?_
            refine wq_seq ?_
            refine wc_cond_f rfl ?_
            refine wc_skip ?_
            refine wq_seq ?_
            refine wc_seq ?_
            refine wc_seq ?_
            refine wc_region ?_
            refine wl_val ((by first | exact r_field0 1 Try.underlying24 rfl rfl Try.sizeOf22 (by decide) rfl | exact r_field 1 Try.underlying24 rfl rfl Try.sizeOf22 (by decide) rfl)) (ltn rfl) ?_
            refine wl_val (r_load (plain_of Try.underlying22 rfl) rfl (cell_of_blk (H45.f8).get.2 rfl)) (ltn rfl) ?_
            refine wl_val (r_lenR ((H45.f9).row_rd) Try.underlying22 rfl) (ltn rfl) ?_
            refine wl_val (r_move rfl) (ltn rfl) ?_
            refine wl_nil ?_
            refine wq_seq ?_
            refine wc_block ?_
            obtain ⟨n46, R46, ⟨hn46, hb46⟩, hR46, m46, hm46, HR46⟩ := Holds.hideI1 (H45.f8.f9)
            refine wc_loop [(0, _), (5, _), (6, _), (9, _), (31, _), (32, _), (33, _), (65, _), (66, _), (67, _), (68, _), (100, _)] (fun (i : Nat) => [(101, .int .i64 (i : Int))]) (fun (i : Nat) W => i ≤ n46 ∧ ∃ m, m.length = n46 ∧ Holds w W (RowI 21 .i32 d9 m • blk b10 (.cells #[.int .i64 (es.getD k default).a, d9, s9] 24 (0, 0)) • R46)) (fun (i : Nat) => n46 - i) (0) (Sub.cons rfl (Sub.cons rfl (Sub.cons rfl (Sub.cons rfl (Sub.cons rfl (Sub.cons rfl (Sub.cons rfl (Sub.cons rfl (Sub.cons rfl (Sub.cons rfl (Sub.cons rfl (Sub.cons rfl (Sub.nil _))))))))))))) (Sub.cons rfl (Sub.nil _)) ⟨by omega, m46, by omega, HR46⟩ ?_
            rintro i w47 ⟨hi, m, hm, HL⟩
            dsimp only [List.cons_append, List.nil_append]
            refine wc_seq ?_
            refine wc_region ?_
            refine wl_val (r_lss rfl rfl) (ltn rfl) ?_
            refine wl_nil ?_
            refine wq_seq ?_
            refine wc_seq ?_
            refine wc_cond rfl (fun h12 => ?_) (fun h12 => ?_)
            · (try simp only [beq_iff_eq, bne_iff_ne, ne_eq, decide_eq_true_eq, decide_eq_false_iff_not, beq_eq_false_iff_ne, bne_eq_false_iff_eq, Bool.not_eq_true', Bool.not_eq_false', Bool.not_eq_eq_eq_not, Bool.not_true, Bool.not_false, gt_iff_lt, ge_iff_le, Int.not_lt, Int.not_le] at h12)
              
              refine wc_skip ?_
              refine wq_seq ?_
              refine wc_seq ?_
              refine wc_block ?_
              refine wc_seq ?_
              refine wc_region ?_
              refine wl_val (r_move rfl) (ltn rfl) ?_
              refine wl_val (r_assign rfl) (ltn rfl) ?_
              refine wl_nil ?_
              refine wq_seq ?_
              refine wc_region ?_
              refine wl_val ((by first | exact r_field0 1 Try.underlying24 rfl rfl Try.sizeOf22 (by decide) rfl | exact r_field 1 Try.underlying24 rfl rfl Try.sizeOf22 (by decide) rfl)) (ltn rfl) ?_
              refine wl_val (r_load (plain_of Try.underlying22 rfl) rfl (cell_of_blk (HL.f2).get.2 rfl)) (ltn rfl) ?_
              refine wl_val (r_move rfl) (ltn rfl) ?_
              obtain ⟨bd9, od9, cd9, ed9⟩ := RdI.posV ((HL).row_rd) (by omega)
              cases ed9
              refine wl_val (r_index Try.underlying22 Try.sizeOf21 rfl rfl (by omega)) (ltn rfl) ?_
              refine wl_eff0 (e_store_elem HL Try.sizeOf21 rfl rfl (by first | exact rfl | omega | simp) (by omega)) ?_
              rintro _ w48 H48
              refine wl_nil ?_
              refine wq_block_normal ?_
              refine wq_seq ?_
              refine wc_region ?_
              refine wl_val (r_add rfl rfl (by omega)) (ltn rfl) ?_
              refine wl_val (r_move rfl) (ltn rfl) ?_
              refine wl_nil ?_
              refine wq_round (i + 1) ?_ ?_ ?_ ?_
              · exact (Sub.cons rfl (Sub.nil _))
              · exact (Sub.cons rfl (Sub.cons rfl (Sub.cons rfl (Sub.cons rfl (Sub.cons rfl (Sub.cons rfl (Sub.cons rfl (Sub.cons rfl (Sub.cons rfl (Sub.cons rfl (Sub.cons rfl (Sub.cons rfl (Sub.nil _)))))))))))))
              · (try dsimp only)
                exact ⟨by omega, _, by simp [hm], H48.f2.f2⟩
              · (try dsimp only); omega
            · (try simp only [beq_iff_eq, bne_iff_ne, ne_eq, decide_eq_true_eq, decide_eq_false_iff_not, beq_eq_false_iff_ne, bne_eq_false_iff_eq, Bool.not_eq_true', Bool.not_eq_false', Bool.not_eq_eq_eq_not, Bool.not_true, Bool.not_false, gt_iff_lt, ge_iff_le, Int.not_lt, Int.not_le] at h12)
              
              refine wc_exit ?_
              refine wq_then_exit ?_
              subst hR46
              refine wq_then_exit ?_
              refine wq_block_hit ?_
              refine wq_seq ?_
              refine wc_seq ?_
              refine wc_region ?_
              refine wl_val ((by first | exact r_field0 2 Try.underlying24 rfl rfl Try.sizeOf22 (by decide) rfl | exact r_field 2 Try.underlying24 rfl rfl Try.sizeOf22 (by decide) rfl)) (ltn rfl) ?_
              refine wl_val (r_load (plain_of Try.underlying22 rfl) rfl (cell_of_blk (HL.f2).get.2 rfl)) (ltn rfl) ?_
              refine wl_val (r_lenR ((HL.f10).row_rd) Try.underlying22 rfl) (ltn rfl) ?_
              refine wl_val (r_move rfl) (ltn rfl) ?_
              refine wl_nil ?_
              refine wq_seq ?_
              refine wc_block ?_
              obtain ⟨n49, R49, ⟨hn49, hb49⟩, hR49, m49, hm49, HR49⟩ := Holds.hideI1 (HL.f2.f10)
              refine wc_loop [(0, _), (5, _), (6, _), (9, _), (31, _), (32, _), (33, _), (65, _), (66, _), (67, _), (68, _), (111, _)] (fun (i : Nat) => [(112, .int .i64 (i : Int))]) (fun (i : Nat) W => i ≤ n49 ∧ ∃ m, m.length = n49 ∧ Holds w W (RowI 21 .i32 s9 m • blk b10 (.cells #[.int .i64 (es.getD k default).a, d9, s9] 24 (0, 0)) • R49)) (fun (i : Nat) => n49 - i) (0) (Sub.cons rfl (Sub.cons rfl (Sub.cons rfl (Sub.cons rfl (Sub.cons rfl (Sub.cons rfl (Sub.cons rfl (Sub.cons rfl (Sub.cons rfl (Sub.cons rfl (Sub.cons rfl (Sub.cons rfl (Sub.nil _))))))))))))) (Sub.cons rfl (Sub.nil _)) ⟨by omega, m49, by omega, HR49⟩ ?_
              rintro i w50 ⟨hi, m, hm, HL⟩
              dsimp only [List.cons_append, List.nil_append]
              refine wc_seq ?_
              refine wc_region ?_
              refine wl_val (r_lss rfl rfl) (ltn rfl) ?_
              refine wl_nil ?_
              refine wq_seq ?_
              refine wc_seq ?_
              refine wc_cond rfl (fun h13 => ?_) (fun h13 => ?_)
              · (try simp only [beq_iff_eq, bne_iff_ne, ne_eq, decide_eq_true_eq, decide_eq_false_iff_not, beq_eq_false_iff_ne, bne_eq_false_iff_eq, Bool.not_eq_true', Bool.not_eq_false', Bool.not_eq_eq_eq_not, Bool.not_true, Bool.not_false, gt_iff_lt, ge_iff_le, Int.not_lt, Int.not_le] at h13)
                
                refine wc_skip ?_
                refine wq_seq ?_
                refine wc_seq ?_
                refine wc_block ?_
                refine wc_seq ?_
                refine wc_region ?_
                refine wl_val (r_move rfl) (ltn rfl) ?_
                refine wl_val (r_assign rfl) (ltn rfl) ?_
                refine wl_nil ?_
                refine wq_seq ?_
                refine wc_region ?_
                refine wl_val ((by first | exact r_field0 2 Try.underlying24 rfl rfl Try.sizeOf22 (by decide) rfl | exact r_field 2 Try.underlying24 rfl rfl Try.sizeOf22 (by decide) rfl)) (ltn rfl) ?_
                refine wl_val (r_load (plain_of Try.underlying22 rfl) rfl (cell_of_blk (HL.f2).get.2 rfl)) (ltn rfl) ?_
                refine wl_val (r_move rfl) (ltn rfl) ?_
                obtain ⟨bs9, os9, cs9, es9⟩ := RdI.posV ((HL).row_rd) (by omega)
                cases es9
                refine wl_val (r_index Try.underlying22 Try.sizeOf21 rfl rfl (by omega)) (ltn rfl) ?_
                refine wl_eff0 (e_store_elem HL Try.sizeOf21 rfl rfl (by first | exact rfl | omega | simp) (by omega)) ?_
                rintro _ w51 H51
                refine wl_nil ?_
                refine wq_block_normal ?_
                refine wq_seq ?_
                refine wc_region ?_
                refine wl_val (r_add rfl rfl (by omega)) (ltn rfl) ?_
                refine wl_val (r_move rfl) (ltn rfl) ?_
                refine wl_nil ?_
                refine wq_round (i + 1) ?_ ?_ ?_ ?_
                · exact (Sub.cons rfl (Sub.nil _))
                · exact (Sub.cons rfl (Sub.cons rfl (Sub.cons rfl (Sub.cons rfl (Sub.cons rfl (Sub.cons rfl (Sub.cons rfl (Sub.cons rfl (Sub.cons rfl (Sub.cons rfl (Sub.cons rfl (Sub.cons rfl (Sub.nil _)))))))))))))
                · (try dsimp only)
                  exact ⟨by omega, _, by simp [hm], H51.f2.f2⟩
                · (try dsimp only); omega
              · (try simp only [beq_iff_eq, bne_iff_ne, ne_eq, decide_eq_true_eq, decide_eq_false_iff_not, beq_eq_false_iff_ne, bne_eq_false_iff_eq, Bool.not_eq_true', Bool.not_eq_false', Bool.not_eq_eq_eq_not, Bool.not_true, Bool.not_false, gt_iff_lt, ge_iff_le, Int.not_lt, Int.not_le] at h13)
                
                refine wc_exit ?_
                refine wq_then_exit ?_
                subst hR49
                refine wq_then_exit ?_
                refine wq_block_hit ?_
                refine wq_block_normal ?_
                refine wq_seq ?_
                refine wc_region ?_
                refine wl_val (r_add rfl rfl (by omega)) (ltn rfl) ?_
                refine wl_val (r_move rfl) (ltn rfl) ?_
                refine wl_nil ?_
                refine wq_round (k + 1) ?_ ?_ ?_ ?_
                · exact (Sub.cons rfl (Sub.nil _))
                · exact (Sub.cons rfl (Sub.cons rfl (Sub.cons rfl (Sub.cons rfl (Sub.cons rfl (Sub.nil _))))))
                · (try dsimp only)
                  exact ⟨by omega, _, _, HL.right.right.right.right.right.right.right.right.f3.right.f2⟩
                · (try dsimp only); omega
  · (try simp only [beq_iff_eq, bne_iff_ne, ne_eq, decide_eq_true_eq, decide_eq_false_iff_not, beq_eq_false_iff_ne, bne_eq_false_iff_eq, Bool.not_eq_true', Bool.not_eq_false', Bool.not_eq_eq_eq_not, Bool.not_true, Bool.not_false, gt_iff_lt, ge_iff_le, Int.not_lt, Int.not_le] at h3)
    
    refine wc_exit ?_
    refine wq_then_exit ?_
    refine wq_then_exit ?_
    refine wq_block_hit ?_
    refine wq_seq ?_
    refine wc_seq ?_
    refine wc_seq ?_
    obtain ⟨hBo, hLo⟩ := allG_ok (HL).uok1
    refine wc_region ?_
    refine wl_val (r_move rfl) (ltn rfl) ?_
    refine wl_eff (e_call (r_call rfl Try.func23 rfl rfl) (undo_groups_ret HL)) (ltn rfl) ?_
    rintro _ w52 ⟨bG52, rfl, H52⟩
    refine wl_nil ?_
    refine wq_seq ?_
    refine wc_block ?_
    obtain ⟨R53, hR53, HR53⟩ := Holds.hide1 (H52)
    refine wc_rangeFunc rfl (groups_iterO bG52 hBo hLo) (fun j => R53) (fact False) (fun _ => fact False) (HR53.comm) (by rfl) ?_ ?_ ?_ ?_
    · rintro l54 j hkR0 vs54 A54 ⟨u1, fs1, rfl, rfl⟩ G54 w54 H54
      try simp only [sep_assoc, emp_sep, sep_emp] at H54
      refine ⟨rfl, ?_⟩
      dsimp only [zipL]
      refine wc_region ?_
      refine wl_val (r_assign rfl) (ltn rfl) ?_
      refine wl_nil ?_
      refine wq_mid (H54.g3) ?_
      intro G55 w55 H55
      try simp only [sep_assoc] at H55
      refine wc_block ?_
      refine wc_seq ?_
      refine wc_region ?_
      refine wl_val (r_move rfl) (ltn rfl) ?_
      refine wl_val (r_lenS ((H55).row_rd) Try.underlying39 rfl) (ltn rfl) ?_
      refine wl_val (r_move rfl) (ltn rfl) ?_
      refine wl_nil ?_
      refine wq_seq ?_
      refine wc_block ?_
      have hfb : (fs1.length : Int) ≤ 9223372036854775807 := by obtain ⟨_, _, _, _, q1, q2, _⟩ := (H55).row_rd; omega
      obtain ⟨R56, hR56, HR56⟩ := Holds.hide2 (H55.f2.f2)
      refine wc_loop [(19, _), (125, _)] (fun (r : Nat) => [(126, .int .i64 (r : Int))]) (fun (r : Nat) W => r ≤ fs1.length ∧ ∃ xs ms, ((∀ q, q < fs1.length → xs.getD (q * 3 + 2) undef = (fs1.map (·.i)).getD q undef) ∧ ms.length = fs1.length ∧ xs.length = fs1.length * 3) ∧ Holds w W (Row 24 3 u1 fs1.length xs • Owns 21 .i32 (fs1.map (·.i)) ms • R56)) (fun (r : Nat) => fs1.length - r) (0) (Sub.cons rfl (Sub.cons rfl (Sub.nil _))) (Sub.cons rfl (Sub.nil _)) ⟨by omega, _, _, ⟨fun q hq => enc_ins hq, by simp, (HR56).row_len⟩, HR56⟩ ?_
      rintro r w57 ⟨hr, xs, ms, ⟨hx1, hx2, hx3⟩, HM⟩
      dsimp only [List.cons_append, List.nil_append]
      refine wc_seq ?_
      refine wc_region ?_
      refine wl_val (r_lss rfl rfl) (ltn rfl) ?_
      refine wl_nil ?_
      refine wq_seq ?_
      refine wc_seq ?_
      refine wc_cond rfl (fun h14 => ?_) (fun h14 => ?_)
      · (try simp only [beq_iff_eq, bne_iff_ne, ne_eq, decide_eq_true_eq, decide_eq_false_iff_not, beq_eq_false_iff_ne, bne_eq_false_iff_eq, Bool.not_eq_true', Bool.not_eq_false', Bool.not_eq_eq_eq_not, Bool.not_true, Bool.not_false, gt_iff_lt, ge_iff_le, Int.not_lt, Int.not_le] at h14)
        
        refine wc_skip ?_
        refine wq_seq ?_
        refine wc_seq ?_
        refine wc_block ?_
        refine wc_seq ?_
        refine wc_region ?_
        refine wl_val (r_move rfl) (ltn rfl) ?_
        refine wl_val (r_assign rfl) (ltn rfl) ?_
        refine wl_nil ?_
        refine wq_seq ?_
        refine wc_seq ?_
        refine wc_region ?_
        refine wl_val (r_move rfl) (ltn rfl) ?_
        refine wl_val (r_move rfl) (ltn rfl) ?_
        obtain ⟨bu1, ou1, cu1, eu1⟩ := Rd.posV ((HM).row_rd) (by omega)
        cases eu1
        refine wl_val (r_index Try.underlying39 Try.sizeOf24 rfl rfl (by omega)) (ltn rfl) ?_
        refine wl_val ((by first | exact r_field0 0 Try.underlying24 rfl rfl Try.sizeOf3 (by decide) rfl | exact r_field 0 Try.underlying24 rfl rfl Try.sizeOf3 (by decide) rfl)) (ltn rfl) ?_
        refine wl_eff0 (e_store_rowS 0 HM Try.sizeOf3 rfl rfl (by first | rfl | assumption) (by omega) (by decide)) ?_
        rintro _ w58 H58
        refine wl_nil ?_
        refine wq_seq ?_
        refine wc_seq ?_
        have hil : r < fs1.length := by omega
        have hy1 : ∀ q, q < fs1.length → (xs.set ((r : Int).toNat * 3 + 0) (.int .i64 (-9))).getD (q * 3 + 2) undef = (fs1.map (·.i)).getD q undef := fun q hq => by
          rw [← hx1 q hq, List.getD_eq_getElem?_getD, List.getD_eq_getElem?_getD, List.getElem?_set_ne (by omega)]
        refine wc_region ?_
        refine wl_val (r_move rfl) (ltn rfl) ?_
        refine wl_val (r_move rfl) (ltn rfl) ?_
        refine wl_val (r_index Try.underlying39 Try.sizeOf24 rfl rfl (by omega)) (ltn rfl) ?_
        refine wl_val ((by first | exact r_field0 2 Try.underlying24 rfl rfl Try.sizeOf22 (by decide) rfl | exact r_field 2 Try.underlying24 rfl rfl Try.sizeOf22 (by decide) rfl)) (ltn rfl) ?_
        refine wl_val (r_load (plain_of Try.underlying22 rfl) rfl (Rd.atS ((H58).row_rd) (by omega) (by decide))) (ltn rfl) ?_
        rw [hy1 r hil]
        refine wl_gen (fun x hx => ?_)
        obtain ⟨R2, HT, hback⟩ := (H58.f2).owns_take (j := r) (by omega)
        rw [← hx] at HT hback
        refine wl_val (r_lenR ((HT).row_rd) Try.underlying22 rfl) (ltn rfl) ?_
        refine wl_val (r_move rfl) (ltn rfl) ?_
        refine wl_nil ?_
        refine wq_seq ?_
        refine wc_block ?_
        obtain ⟨n59, R59, ⟨hn59, hb59⟩, hR59, m59, hm59, HR59⟩ := Holds.hideI1 (HT.f3.f2)
        refine wc_loop [(19, _), (20, _), (125, _), (126, _), (138, _)] (fun (i : Nat) => [(139, .int .i64 (i : Int))]) (fun (i : Nat) W => i ≤ n59 ∧ ∃ m, m.length = n59 ∧ Holds w W (RowI 21 .i32 x m • Row 24 3 (.slice (some ⟨bu1, ou1, none⟩) (fs1.length) cu1) fs1.length (xs.set ((r : Int).toNat * 3 + 0) (.int .i64 (-9))) • R59)) (fun (i : Nat) => n59 - i) (0) (Sub.cons rfl (Sub.cons rfl (Sub.cons rfl (Sub.cons rfl (Sub.cons rfl (Sub.nil _)))))) (Sub.cons rfl (Sub.nil _)) ⟨by omega, m59, by omega, HR59⟩ ?_
        rintro i w60 ⟨hi, m, hm, HL⟩
        dsimp only [List.cons_append, List.nil_append]
        refine wc_seq ?_
        refine wc_region ?_
        refine wl_val (r_lss rfl rfl) (ltn rfl) ?_
        refine wl_nil ?_
        refine wq_seq ?_
        refine wc_seq ?_
        refine wc_cond rfl (fun h15 => ?_) (fun h15 => ?_)
        · (try simp only [beq_iff_eq, bne_iff_ne, ne_eq, decide_eq_true_eq, decide_eq_false_iff_not, beq_eq_false_iff_ne, bne_eq_false_iff_eq, Bool.not_eq_true', Bool.not_eq_false', Bool.not_eq_eq_eq_not, Bool.not_true, Bool.not_false, gt_iff_lt, ge_iff_le, Int.not_lt, Int.not_le] at h15)
          
          refine wc_skip ?_
          refine wq_seq ?_
          refine wc_seq ?_
          refine wc_block ?_
          refine wc_seq ?_
          refine wc_region ?_
          refine wl_val (r_move rfl) (ltn rfl) ?_
          refine wl_val (r_assign rfl) (ltn rfl) ?_
          refine wl_nil ?_
          refine wq_seq ?_
          refine wc_region ?_
          refine wl_val (r_move rfl) (ltn rfl) ?_
          refine wl_val (r_move rfl) (ltn rfl) ?_
          obtain ⟨bu1, ou1, cu1, eu1⟩ := Rd.posV ((HL.f2).row_rd) (by omega)
          cases eu1
          refine wl_val (r_index Try.underlying39 Try.sizeOf24 rfl rfl (by omega)) (ltn rfl) ?_
          refine wl_val ((by first | exact r_field0 2 Try.underlying24 rfl rfl Try.sizeOf22 (by decide) rfl | exact r_field 2 Try.underlying24 rfl rfl Try.sizeOf22 (by decide) rfl)) (ltn rfl) ?_
          refine wl_val (r_load (plain_of Try.underlying22 rfl) rfl (Rd.atS ((HL.f2).row_rd) (by omega) (by decide))) (ltn rfl) ?_
          rw [hy1 r hil, ← hx]
          refine wl_val (r_move rfl) (ltn rfl) ?_
          obtain ⟨bx, ox, cx, ex⟩ := RdI.posV ((HL).row_rd) (by omega)
          cases ex
          refine wl_val (r_index Try.underlying22 Try.sizeOf21 rfl rfl (by omega)) (ltn rfl) ?_
          refine wl_eff0 (e_store_elem HL Try.sizeOf21 rfl rfl (by first | exact rfl | omega | simp) (by omega)) ?_
          rintro _ w61 H61
          refine wl_nil ?_
          refine wq_block_normal ?_
          refine wq_seq ?_
          refine wc_region ?_
          refine wl_val (r_add rfl rfl (by omega)) (ltn rfl) ?_
          refine wl_val (r_move rfl) (ltn rfl) ?_
          refine wl_nil ?_
          refine wq_round (i + 1) ?_ ?_ ?_ ?_
          · exact (Sub.cons rfl (Sub.nil _))
          · exact (Sub.cons rfl (Sub.cons rfl (Sub.cons rfl (Sub.cons rfl (Sub.cons rfl (Sub.nil _))))))
          · (try dsimp only)
            exact ⟨by omega, _, by simp [hm], H61.f2.f2⟩
          · (try dsimp only); omega
        · (try simp only [beq_iff_eq, bne_iff_ne, ne_eq, decide_eq_true_eq, decide_eq_false_iff_not, beq_eq_false_iff_ne, bne_eq_false_iff_eq, Bool.not_eq_true', Bool.not_eq_false', Bool.not_eq_eq_eq_not, Bool.not_true, Bool.not_false, gt_iff_lt, ge_iff_le, Int.not_lt, Int.not_le] at h15)
          
          refine wc_exit ?_
          refine wq_then_exit ?_
          subst hR59
          refine wq_then_exit ?_
          refine wq_block_hit ?_
          refine wq_block_normal ?_
          refine wq_seq ?_
          refine wc_region ?_
          refine wl_val (r_add rfl rfl (by omega)) (ltn rfl) ?_
          refine wl_val (r_move rfl) (ltn rfl) ?_
          refine wl_nil ?_
          have HB2 := (hback _ _ _ HL.f2.f3.f3).f2
          refine wq_round (r + 1) ?_ ?_ ?_ ?_
          · exact (Sub.cons rfl (Sub.nil _))
          · exact (Sub.cons rfl (Sub.cons rfl (Sub.nil _)))
          · (try dsimp only)
            exact ⟨by omega, _, _, ⟨hy1, by simpa using hx2, by simpa using hx3⟩, HB2⟩
          · (try dsimp only); omega
      · (try simp only [beq_iff_eq, bne_iff_ne, ne_eq, decide_eq_true_eq, decide_eq_false_iff_not, beq_eq_false_iff_ne, bne_eq_false_iff_eq, Bool.not_eq_true', Bool.not_eq_false', Bool.not_eq_eq_eq_not, Bool.not_true, Bool.not_false, gt_iff_lt, ge_iff_le, Int.not_lt, Int.not_le] at h14)
        
        refine wc_exit ?_
        refine wq_then_exit ?_
        subst hR56
        refine wq_then_exit ?_
        refine wq_block_hit ?_
        refine wq_block_normal ?_
        refine wq_rnormal ?_
        exact HM.right.right
    · rintro D62 w62 H62
      have H62d := H62.ed
      try simp only [sep_assoc, emp_sep, sep_emp] at H62d
      have H62m := H62d.mark1
      subst hR53
      refine wq_block_normal ?_
      refine wq_seq ?_
      refine wc_seq ?_
      refine wc_region ?_
      refine wl_val (r_move rfl) (ltn rfl) ?_
      refine wl_val (r_move rfl) (ltn rfl) ?_
      refine wl_eff (e_call (r_call rfl Try.func25 rfl rfl) (rl_all_ret H62m.f4)) (ltn rfl) ?_
      rintro u63 w63 ⟨hs63, hhs63, H63⟩
      refine wl_eff (e_call (r_call rfl Try.func24 rfl rfl) (groups_ret H63.f2.f2.f5 (by assumption))) (ltn rfl) ?_
      rintro _ w64 ⟨rfl, H64⟩
      refine wl_val (r_assign rfl) (ltn rfl) ?_
      refine wl_nil ?_
      refine wq_seq ?_
      refine wc_ret ?_
      refine wq_endM (.inl rfl) (H64) (fun w65 H65 => ?_)
      refine ⟨_, res1 Try.results5 rfl, ?_⟩
      exact ⟨rfl, H65.base⟩
    · rintro D w H; exact absurd H.swap.fact.1 id
    · rintro id D w H; exact absurd H.swap.fact.1 fun h => h
end Go.Proofs.Ytaabgcfeghcmnaa
