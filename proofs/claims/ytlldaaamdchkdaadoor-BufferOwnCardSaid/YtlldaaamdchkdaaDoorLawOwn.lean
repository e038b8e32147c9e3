/- BufferOwn, walked. -/
import Derived.Test.YtlldaaamdchkdaaDoorRef7c
set_option linter.unusedSimpArgs false
set_option linter.unusedVariables false
namespace Go.Proofs.YtlldaaamdchkdaaDoor
open Go.RowKit
theorem buf_insert_long {w0 w : World} {F : HP} {p : Nat} {L : List Int} {pt mk : Int} {v : Value} {l : List Int} {q : Nat} (H : Holds w0 w (BufRep p L pt mk • F)) (hq : pt = q) (hqL : q ≤ L.length) (hr : FRdI w0 F .i32 v l) (hl : 1024 < L.length + l.length) :
    Ret Tryd.prog 19 #[.pointer (some ⟨p, 0, none⟩), v] w fun v' w' => v' = .tuple #[.agg (edCells 0 (.slice none 0 0) (.slice none 0 0)), .int .i64 3] ∧ Holds w0 w' (BufRep p L pt mk • F) := by
  subst hq
  obtain ⟨a, c, rfl, hac, hac2, _⟩ := (hr w H.right).open
  refine ret_enter Tryd.func19 rfl Tryd.ntmps19 (Nat.le_of_ble_eq_true rfl) ?_
  dsimp only [slots0, Nat.reduceAdd]
  refine wc_seq ?_
  refine wc_region ?_
  refine wl_eff (e_alloc H Tryd.zeroValue24) (by decide) ?_
  rintro _ w1 ⟨b1, rfl, H1⟩
  refine wl_val (r_assign rfl) (by decide) ?_
  refine wl_nil ?_
  refine wq_seq ?_
  refine wc_seq ?_
  refine wc_region ?_
  refine wl_val (r_move rfl) (by decide) ?_
  refine wl_val (r_move rfl) (by decide) ?_
  refine wl_eff (e_call (r_call rfl Tryd.func23 rfl rfl) (buf_point_ret H1.swap)) (by decide) ?_
  rintro _ _ ⟨rfl, rfl⟩
  refine wl_val (r_move rfl) (by decide) ?_
  refine wl_eff (e_call (r_call rfl Tryd.func23 rfl rfl) (buf_point_ret H1.swap)) (by decide) ?_
  rintro _ _ ⟨rfl, rfl⟩
  refine wl_val (r_move rfl) (by decide) ?_
  refine wl_eff (e_call (r_call rfl Tryd.func13 rfl rfl) (buf_replace_long H1.swap hr.under (by omega) (by omega))) (by decide) ?_
  rintro _ w4 ⟨rfl, H4⟩
  refine wl_val (r_extract rfl rfl) (by decide) ?_
  refine wl_val (r_extract rfl rfl) (by decide) ?_
  refine wl_eff0 (e_store_whole (cs := edCells 0 (.slice none 0 0) (.slice none 0 0)) H4.swap Tryd.sizeOf24 rfl rfl rfl rfl (ed_ones rfl rfl)) ?_
  rintro _ w5 H5
  refine wl_val (r_assign rfl) (by decide) ?_
  refine wl_nil ?_
  refine wq_seq ?_
  refine wc_ret ?_
  refine wq_endCT (.inl rfl) Tryd.results19 rfl rfl Tryd.underlying24 rfl (by rw [show (Tryd.prog.info? 24).map (·.size) = some 3 from by kernel_rfl]; rfl) H5.get.2 ?_
  exact ⟨rfl, H5.right⟩
section
variable {w : World} {v vm : Value} {l m : List Int} {x : Int}
theorem own_long (hT : Tabs w) (g : RdI w .i32 v l) (hb : l.length ≤ 35184372088832) (hl : 1024 < l.length) :
    Ret Tryd.prog 4 #[v, vm, .int .i64 x] w fun v w' => v = .bool true ∧ Below w.heap.size w w' := by
  have H := Holds.start w
  obtain ⟨a1, c1, hv1, _, _, _⟩ := g.open
  subst hv1
  refine ret_enter Tryd.func4 rfl Tryd.ntmps4 (Nat.le_of_ble_eq_true rfl) ?_
  dsimp only [slots0, Nat.reduceAdd]
  refine wc_seq ?_
  refine wc_region ?_
  refine wl_val (r_assign rfl) (by decide) ?_
  refine wl_nil ?_
  refine wq_seq ?_
  refine wc_seq ?_
  refine wc_region ?_
  refine wl_eff (e_lit_row (vs := []) H Tryd.underlying22 Tryd.sizeOf21 Tryd.zeroValue21 rfl rfl rfl (by decide) (by simp)) (by decide) ?_
  rintro _ w1 H1
  refine wl_val (r_move rfl) (by decide) ?_
  refine wl_eff (e_append_ints (l := []) H1 (Holds.rd H1 g) Tryd.underlying22 info_i32 rfl rfl (by simp only [List.length_nil]; omega) (by simp only [List.length_nil]; omega)) (by decide) ?_
  rintro u w2 H2
  rw [List.nil_append] at H2
  obtain ⟨a7, c7, hu7, _⟩ := (H2.row_rd).form
  subst hu7
  refine wl_val (r_assign rfl) (by decide) ?_
  refine wl_nil ?_
  refine wq_seq ?_
  refine wc_seq ?_
  refine wc_region ?_
  refine wl_val (r_move rfl) (by decide) ?_
  refine wl_eff (e_call (r_call rfl Tryd.func11 rfl rfl) (buf_new_long H2 (fun W HW => HW.row_rd) hl)) (by decide) ?_
  rintro _ _ ⟨rfl, rfl⟩
  refine wl_val (r_move rfl) (by decide) ?_
  refine wl_val (r_extract rfl rfl) (by decide) ?_
  refine wl_val (r_extract rfl rfl) (by decide) ?_
  refine wl_val (r_assign rfl) (by decide) ?_
  refine wl_val (r_assign rfl) (by decide) ?_
  refine wl_nil ?_
  refine wq_seq ?_
  refine wc_seq ?_
  refine wc_region ?_
  refine wl_val (r_move rfl) (by decide) ?_
  refine wl_eff (e_call (r_call rfl Tryd.func16 rfl rfl) (ref_new_long H2 (FRdI.of_start g _) hl)) (by decide) ?_
  rintro _ _ ⟨rfl, rfl⟩
  refine wl_val (r_move rfl) (by decide) ?_
  refine wl_val (r_extract rfl rfl) (by decide) ?_
  refine wl_val (r_extract rfl rfl) (by decide) ?_
  refine wl_val (r_assign rfl) (by decide) ?_
  refine wl_val (r_assign rfl) (by decide) ?_
  refine wl_nil ?_
  refine wq_seq ?_
  refine wc_seq ?_
  refine wc_seq ?_
  refine wc_region ?_
  refine wl_val (r_move rfl) (by decide) ?_
  refine wl_val (r_move rfl) (by decide) ?_
  refine wl_val (r_neq rfl rfl) (by decide) ?_
  refine wl_split rfl (by decide) (fun h => by exfalso; (try simp only [beq_iff_eq, bne_iff_ne, ne_eq, decide_eq_true_eq, decide_eq_false_iff_not, beq_eq_false_iff_ne, bne_eq_false_iff_eq, Bool.not_eq_true', Bool.not_eq_false', Bool.not_eq_eq_eq_not, Bool.not_true, Bool.not_false, gt_iff_lt, ge_iff_le, Int.not_lt, Int.not_le] at h); simp at h) (fun h1 => ?_)
  (try simp only [beq_iff_eq, bne_iff_ne, ne_eq, decide_eq_true_eq, decide_eq_false_iff_not, beq_eq_false_iff_ne, bne_eq_false_iff_eq, Bool.not_eq_true', Bool.not_eq_false', Bool.not_eq_eq_eq_not, Bool.not_true, Bool.not_false, gt_iff_lt, ge_iff_le, Int.not_lt, Int.not_le] at h1)
  refine wl_yes rfl rfl ?_
  refine wl_val (r_move rfl) (by decide) ?_
  refine wl_yes rfl rfl ?_
  refine wl_val (r_known_t (r_neq rfl rfl) (by decide)) (by decide) ?_
  refine wl_val (r_pick_f rfl rfl) (by decide) ?_
  refine wl_val (r_move rfl) (by decide) ?_
  refine wl_no rfl rfl rfl (by decide) ?_
  refine wl_no rfl rfl rfl (by decide) ?_
  refine wl_val (r_pick_t rfl rfl) (by decide) ?_
  refine wl_nil ?_
  refine wq_seq ?_
  refine wc_cond_t rfl ?_
  refine wc_seq ?_
  refine wc_region ?_
  refine wl_eff (e_call (r_call rfl Tryd.func12 rfl rfl) (live_ret H2 hT)) (by decide) ?_
  rintro _ w5 ⟨rfl, H5⟩
  refine wl_val (r_move rfl) (by decide) ?_
  refine wl_yes rfl rfl ?_
  refine wl_val (r_move rfl) (by decide) ?_
  refine wl_yes rfl rfl ?_
  refine wl_val (r_move rfl) (by decide) ?_
  refine wl_yes rfl rfl ?_
  refine wl_val (r_eql rfl rfl) (by decide) ?_
  refine wl_val (r_pick_t rfl rfl) (by decide) ?_
  refine wl_val (r_assign rfl) (by decide) ?_
  refine wl_nil ?_
  refine wq_seq ?_
  refine wc_ret ?_
  refine wq_then_ret ?_
  refine wq_end1 (.inl rfl) Tryd.results4 rfl ?_
  exact ⟨by simp, H5.base⟩
theorem own_ok {Q : Nat} (hT : Tabs w) (g : RdI w .i32 v l) (gm : RdI w .i32 vm m) (hl : l.length ≤ 1024) (hQ : mvP l.length l.length x = Q) (hQL : Q ≤ l.length) (hm : l.length + m.length ≤ 1024) :
    Ret Tryd.prog 4 #[v, vm, .int .i64 x] w fun v w' => v = .bool true ∧ Below w.heap.size w w' := by
  have H := Holds.start w
  obtain ⟨a1, c1, hv1, _, _, _⟩ := g.open
  subst hv1
  obtain ⟨a2, c2, hv2, _, _, _⟩ := gm.open
  subst hv2
  refine ret_enter Tryd.func4 rfl Tryd.ntmps4 (Nat.le_of_ble_eq_true rfl) ?_
  dsimp only [slots0, Nat.reduceAdd]
  refine wc_seq ?_
  refine wc_region ?_
  refine wl_val (r_assign rfl) (by decide) ?_
  refine wl_nil ?_
  refine wq_seq ?_
  refine wc_seq ?_
  refine wc_region ?_
  refine wl_eff (e_lit_row (vs := []) H Tryd.underlying22 Tryd.sizeOf21 Tryd.zeroValue21 rfl rfl rfl (by decide) (by simp)) (by decide) ?_
  rintro _ w1 H1
  refine wl_val (r_move rfl) (by decide) ?_
  refine wl_eff (e_append_ints (l := []) H1 (Holds.rd H1 g) Tryd.underlying22 info_i32 rfl rfl (by simp only [List.length_nil]; omega) (by simp only [List.length_nil]; omega)) (by decide) ?_
  rintro u w2 H2
  rw [List.nil_append] at H2
  obtain ⟨a7, c7, hu7, _⟩ := (H2.row_rd).form
  subst hu7
  refine wl_val (r_assign rfl) (by decide) ?_
  refine wl_nil ?_
  refine wq_seq ?_
  refine wc_seq ?_
  refine wc_region ?_
  refine wl_val (r_move rfl) (by decide) ?_
  refine wl_eff (e_call (r_call rfl Tryd.func11 rfl rfl) (buf_new_ret H2 (fun W HW => HW.row_rd) hl)) (by decide) ?_
  rintro _ w3 ⟨p, rfl, H3⟩
  refine wl_val (r_move rfl) (by decide) ?_
  refine wl_val (r_extract rfl rfl) (by decide) ?_
  refine wl_val (r_extract rfl rfl) (by decide) ?_
  refine wl_val (r_assign rfl) (by decide) ?_
  refine wl_val (r_assign rfl) (by decide) ?_
  refine wl_nil ?_
  refine wq_seq ?_
  refine wc_seq ?_
  refine wc_region ?_
  refine wl_val (r_move rfl) (by decide) ?_
  refine wl_eff (e_call (r_call rfl Tryd.func16 rfl rfl) (ref_new_ret H3 (FRdI.of_start g _) hl)) (by decide) ?_
  rintro _ w4 ⟨q, rfl, H4⟩
  refine wl_val (r_move rfl) (by decide) ?_
  refine wl_val (r_extract rfl rfl) (by decide) ?_
  refine wl_val (r_extract rfl rfl) (by decide) ?_
  refine wl_val (r_assign rfl) (by decide) ?_
  refine wl_val (r_assign rfl) (by decide) ?_
  refine wl_nil ?_
  refine wq_seq ?_
  refine wc_seq ?_
  refine wc_seq ?_
  refine wc_region ?_
  refine wl_val (r_move rfl) (by decide) ?_
  refine wl_val (r_move rfl) (by decide) ?_
  refine wl_val (r_neq rfl rfl) (by decide) ?_
  refine wl_split rfl (by decide) (fun h => by exfalso; (try simp only [beq_iff_eq, bne_iff_ne, ne_eq, decide_eq_true_eq, decide_eq_false_iff_not, beq_eq_false_iff_ne, bne_eq_false_iff_eq, Bool.not_eq_true', Bool.not_eq_false', Bool.not_eq_eq_eq_not, Bool.not_true, Bool.not_false, gt_iff_lt, ge_iff_le, Int.not_lt, Int.not_le] at h); simp at h) (fun h1 => ?_)
  (try simp only [beq_iff_eq, bne_iff_ne, ne_eq, decide_eq_true_eq, decide_eq_false_iff_not, beq_eq_false_iff_ne, bne_eq_false_iff_eq, Bool.not_eq_true', Bool.not_eq_false', Bool.not_eq_eq_eq_not, Bool.not_true, Bool.not_false, gt_iff_lt, ge_iff_le, Int.not_lt, Int.not_le] at h1)
  refine wl_yes rfl rfl ?_
  refine wl_val (r_move rfl) (by decide) ?_
  refine wl_yes rfl rfl ?_
  refine wl_val (r_known_f (r_neq rfl rfl) (by decide)) (by decide) ?_
  refine wl_val (r_pick_f rfl rfl) (by decide) ?_
  refine wl_val (r_move rfl) (by decide) ?_
  refine wl_yes rfl rfl ?_
  refine wl_eff (e_call (r_call rfl Tryd.func12 rfl rfl) (live_ret H4 hT)) (by decide) ?_
  rintro _ w5 ⟨rfl, H5⟩
  refine wl_yes rfl rfl ?_
  refine wl_val (r_not rfl) (by decide) ?_
  refine wl_val (r_pick_f rfl rfl) (by decide) ?_
  refine wl_nil ?_
  refine wq_seq ?_
  refine wc_cond rfl (fun h => by exfalso; (try simp only [beq_iff_eq, bne_iff_ne, ne_eq, decide_eq_true_eq, decide_eq_false_iff_not, beq_eq_false_iff_ne, bne_eq_false_iff_eq, Bool.not_eq_true', Bool.not_eq_false', Bool.not_eq_eq_eq_not, Bool.not_true, Bool.not_false, gt_iff_lt, ge_iff_le, Int.not_lt, Int.not_le] at h); first | contradiction | omega | (simp at h <;> omega)) (fun h2 => ?_)
  (try simp only [beq_iff_eq, bne_iff_ne, ne_eq, decide_eq_true_eq, decide_eq_false_iff_not, beq_eq_false_iff_ne, bne_eq_false_iff_eq, Bool.not_eq_true', Bool.not_eq_false', Bool.not_eq_eq_eq_not, Bool.not_true, Bool.not_false, gt_iff_lt, ge_iff_le, Int.not_lt, Int.not_le] at h2)
  refine wc_skip ?_
  refine wq_seq ?_
  refine wc_seq ?_
  refine wc_seq ?_
  have H6 := H5.rot
  refine wc_region ?_
  refine wl_val (r_move rfl) (by decide) ?_
  refine wl_val (r_len Tryd.underlying22 rfl) (by decide) ?_
  refine wl_val (r_move rfl) (by decide) ?_
  refine wl_nil ?_
  refine wq_seq ?_
  refine wc_block ?_
  refine wc_loop [(1, _), (2, _), (7, _), (8, _), (10, _), (53, _)] (fun (⟨k, z⟩ : Nat × List Int) => [(54, .int .i64 (k : Int))]) (fun (⟨k, z⟩ : Nat × List Int) W => k ≤ l.length ∧ z.length = l.length ∧ Holds w W (RowI 21 .i32 (.slice a7 l.length c7) z • RefRep q l l.length (-1) • BufRep p l l.length (-1) • emp)) (fun (⟨k, z⟩ : Nat × List Int) => l.length - k) ((0, l)) (Sub.cons rfl (Sub.cons rfl (Sub.cons rfl (Sub.cons rfl (Sub.cons rfl (Sub.cons rfl (Sub.nil _))))))) (Sub.cons rfl (Sub.nil _)) ⟨by omega, rfl, H6⟩ ?_
  rintro ⟨k, z⟩ w6 ⟨hk, hz, HL⟩
  dsimp only [List.cons_append, List.nil_append]
  refine wc_seq ?_
  refine wc_region ?_
  refine wl_val (r_lss rfl rfl) (by decide) ?_
  refine wl_nil ?_
  refine wq_seq ?_
  refine wc_seq ?_
  refine wc_cond rfl (fun h3 => ?_) (fun h3 => ?_)
  · (try simp only [beq_iff_eq, bne_iff_ne, ne_eq, decide_eq_true_eq, decide_eq_false_iff_not, beq_eq_false_iff_ne, bne_eq_false_iff_eq, Bool.not_eq_true', Bool.not_eq_false', Bool.not_eq_eq_eq_not, Bool.not_true, Bool.not_false, gt_iff_lt, ge_iff_le, Int.not_lt, Int.not_le] at h3)
    try (exfalso; first | contradiction | omega)
    all_goals
      
      refine wc_skip ?_
      refine wq_seq ?_
      refine wc_seq ?_
      refine wc_block ?_
      refine wc_seq ?_
      refine wc_region ?_
      refine wl_val (r_move rfl) (by decide) ?_
      refine wl_val (r_assign rfl) (by decide) ?_
      refine wl_nil ?_
      refine wq_seq ?_
      obtain ⟨a', c', ee, _, _, hf⟩ := (HL.row_rd).form
      have ea : a7 = a' := by injection ee
      subst ea
      obtain ⟨b0, o0, rfl, _⟩ := hf (by omega)
      refine wc_region ?_
      refine wl_val (r_move rfl) (by decide) ?_
      refine wl_val (r_move rfl) (by decide) ?_
      refine wl_val (r_index Tryd.underlying22 Tryd.sizeOf21 rfl rfl (by omega)) (by decide) ?_
      refine wl_eff0 (e_store_elem (i := k) HL Tryd.sizeOf21 rfl rfl (by omega) (by omega)) ?_
      rintro _ w7 H7
      have HN := H7
      refine wl_nil ?_
      refine wq_block_normal ?_
      refine wq_seq ?_
      refine wc_region ?_
      refine wl_val (r_add rfl rfl (by omega)) (by decide) ?_
      refine wl_val (r_move rfl) (by decide) ?_
      refine wl_nil ?_
      refine wq_round ((k + 1, z.set k 63)) ?_ ?_ ?_ ?_
      · exact (Sub.cons rfl (Sub.nil _))
      · exact (Sub.cons rfl (Sub.cons rfl (Sub.cons rfl (Sub.cons rfl (Sub.cons rfl (Sub.cons rfl (Sub.nil _)))))))
      · exact ⟨by omega, by simp [hz], HN⟩
      · (try dsimp only); omega
  · (try simp only [beq_iff_eq, bne_iff_ne, ne_eq, decide_eq_true_eq, decide_eq_false_iff_not, beq_eq_false_iff_ne, bne_eq_false_iff_eq, Bool.not_eq_true', Bool.not_eq_false', Bool.not_eq_eq_eq_not, Bool.not_true, Bool.not_false, gt_iff_lt, ge_iff_le, Int.not_lt, Int.not_le] at h3)
    try (exfalso; first | contradiction | omega)
    all_goals
      
      refine wc_exit ?_
      refine wq_then_exit ?_
      refine wq_then_exit ?_
      refine wq_block_hit ?_
      refine wq_seq ?_
      refine wc_seq ?_
      have H11 := HL.right
      refine wc_region ?_
      refine wl_val (r_move rfl) (by decide) ?_
      refine wl_val (r_move rfl) (by decide) ?_
      refine wl_eff (e_call (r_call rfl Tryd.func17 rfl rfl) (buf_move_ret H11.swap)) (by decide) ?_
      rintro _ w8 ⟨rfl, H8⟩
      refine wl_nil ?_
      refine wq_seq ?_
      refine wc_seq ?_
      refine wc_region ?_
      refine wl_val (r_move rfl) (by decide) ?_
      refine wl_val (r_move rfl) (by decide) ?_
      refine wl_eff (e_call (r_call rfl Tryd.func18 rfl rfl) (ref_move_ret H8.swap)) (by decide) ?_
      rintro _ w9 ⟨rfl, H9⟩
      rw [hQ] at H9
      refine wl_nil ?_
      refine wq_seq ?_
      refine wc_seq ?_
      refine wc_region ?_
      refine wl_eff (e_lit_row (vs := []) H9 Tryd.underlying22 Tryd.sizeOf21 Tryd.zeroValue21 rfl rfl rfl (by decide) (by simp)) (by decide) ?_
      rintro _ w10 H10
      refine wl_val (r_move rfl) (by decide) ?_
      refine wl_eff (e_append_ints (l := []) H10 (Holds.rd H10 gm) Tryd.underlying22 info_i32 rfl rfl (by simp only [List.length_nil]; omega) (by simp only [List.length_nil]; omega)) (by decide) ?_
      rintro u2 w11 H11
      rw [List.nil_append] at H11
      obtain ⟨a8, c8, hu8, _⟩ := (H11.row_rd).form
      subst hu8
      refine wl_val (r_assign rfl) (by decide) ?_
      refine wl_nil ?_
      refine wq_seq ?_
      refine wc_seq ?_
      refine wc_region ?_
      refine wl_val (r_move rfl) (by decide) ?_
      refine wl_val (r_move rfl) (by decide) ?_
      refine wl_eff (e_call (r_call rfl Tryd.func19 rfl rfl) (buf_insert_ret (q := Q) H11.rot rfl (fun W HW => HW.row_rd) hm)) (by decide) ?_
      rintro _ w12 ⟨d, s, rfl, H12⟩
      have hd1 := H12.row_rd.one
      have H14 := H12.right
      obtain ⟨a9, c9, hs9, _⟩ := (H14.row_rd).form
      subst hs9
      refine wl_val (r_move rfl) (by decide) ?_
      refine wl_val (r_extract rfl rfl) (by decide) ?_
      refine wl_val (r_extract rfl rfl) (by decide) ?_
      refine wl_eff (e_alloc H14 Tryd.zeroValue24) (by decide) ?_
      rintro _ w13 ⟨b13, rfl, H13⟩
      refine wl_eff0 (e_store_whole (cs := edCells Q d (.slice a9 m.length c9)) H13 Tryd.sizeOf24 rfl rfl rfl rfl (ed_ones hd1 rfl)) ?_
      rintro _ w14 H14
      refine wl_val (r_assign rfl) (by decide) ?_
      refine wl_nil ?_
      refine wq_seq ?_
      refine wc_seq ?_
      obtain ⟨ar, cr, g1, g2, g3, hr1, hr2, H15⟩ := H14.r5.ref
      refine wd_begin (n := 11) (fun W => W.heap[q]? = some (.cells (refCells (.slice ar l.length cr) Q (-1)) 44 (0, 0))) (by kernel_rfl) (by kernel_rfl) rfl ?_
      have hS0 : (fun W => W.heap[q]? = some (.cells (refCells (.slice ar l.length cr) Q (-1)) 44 (0, 0))) (w14.drew) := H15.get.2
      have H15d := H15.drew
      refine wd_take 0 rfl (by kernel_rfl) (by kernel_rfl) hS0 (fun _ _ => r_move rfl) (by decide) ?_
      refine wd_take 1 rfl (by kernel_rfl) (by kernel_rfl) hS0 (fun _ _ => r_move rfl) (by decide) ?_
      refine wd_take 2 rfl (by kernel_rfl) (by kernel_rfl) hS0 (fun _ _ => r_nil rfl) (by decide) ?_
      refine wd_take 3 rfl (by kernel_rfl) (by kernel_rfl) hS0 (fun _ _ => (by first | exact r_field0 1 Tryd.underlying44 rfl rfl Tryd.sizeOf3 (by decide) rfl | exact r_field 1 Tryd.underlying44 rfl rfl Tryd.sizeOf3 (by decide) rfl)) (by decide) ?_
      refine wd_take 4 rfl (by kernel_rfl) (by kernel_rfl) hS0 (fun W hW => r_load (plain_of Tryd.underlying3 rfl) rfl (cell_of_blk hW rfl)) (by decide) ?_
      refine wd_take 5 rfl (by kernel_rfl) (by kernel_rfl) hS0 (fun _ _ => r_move rfl) (by decide) ?_
      refine wd_take 6 rfl (by kernel_rfl) (by kernel_rfl) hS0 (fun _ _ => r_nil rfl) (by decide) ?_
      refine wd_take 7 rfl (by kernel_rfl) (by kernel_rfl) hS0 (fun _ _ => (by first | exact r_field0 1 Tryd.underlying44 rfl rfl Tryd.sizeOf3 (by decide) rfl | exact r_field 1 Tryd.underlying44 rfl rfl Tryd.sizeOf3 (by decide) rfl)) (by decide) ?_
      refine wd_take 8 rfl (by kernel_rfl) (by kernel_rfl) hS0 (fun W hW => r_load (plain_of Tryd.underlying3 rfl) rfl (cell_of_blk hW rfl)) (by decide) ?_
      refine wd_take 9 rfl (by kernel_rfl) (by kernel_rfl) hS0 (fun _ _ => r_move rfl) (by decide) ?_
      refine wd_eff 10 rfl (by kernel_rfl) (e_call (r_call rfl Tryd.func20 rfl rfl) (ref_replace_ok (i := Q) (j := Q) (Holds.mk_ref g1 g2 g3 H15d) (FRdI.of_start gm _) ⟨Nat.le_refl _, hQL⟩ (by omega))) (by decide) ?_
      rintro _ w15 ⟨d2, s2, rfl, H15⟩
      have HR := H15.right.right
      refine ⟨.inr (by kernel_rfl), ?_⟩
      refine wd_done (by kernel_rfl) ?_
      refine wq_seq ?_
      refine wc_seq ?_
      refine wc_seq ?_
      have H16 := HR.r5
      refine wc_region ?_
      refine wl_val (r_move rfl) (by decide) ?_
      refine wl_val (r_len Tryd.underlying22 rfl) (by decide) ?_
      refine wl_val (r_move rfl) (by decide) ?_
      refine wl_nil ?_
      refine wq_seq ?_
      refine wc_block ?_
      refine wc_loop [(8, _), (10, _), (13, _), (14, _), (88, _)] (fun (⟨k, z⟩ : Nat × List Int) => [(89, .int .i64 (k : Int))]) (fun (⟨k, z⟩ : Nat × List Int) W => k ≤ m.length ∧ z.length = m.length ∧ Holds w W (RowI 21 .i32 (.slice a8 m.length c8) z • RefRep q (l.take Q ++ m ++ l.drop Q) (movedP (Q : Int) Q Q m.length) (movedM (-1) Q Q m.length) • blk b13 (.cells (edCells Q d (.slice a9 m.length c9)) 24 (0, 0)) • RowI 21 .i32 (.slice a9 m.length c9) m • BufRep p (l.take Q ++ m ++ l.drop Q) (movedP (Q : Int) Q Q m.length) (movedM (-1) Q Q m.length) • emp)) (fun (⟨k, z⟩ : Nat × List Int) => m.length - k) ((0, m)) (Sub.cons rfl (Sub.cons rfl (Sub.cons rfl (Sub.cons rfl (Sub.cons rfl (Sub.nil _)))))) (Sub.cons rfl (Sub.nil _)) ⟨by omega, rfl, H16⟩ ?_
      rintro ⟨k, z⟩ w16 ⟨hk, hz, HL⟩
      dsimp only [List.cons_append, List.nil_append]
      refine wc_seq ?_
      refine wc_region ?_
      refine wl_val (r_lss rfl rfl) (by decide) ?_
      refine wl_nil ?_
      refine wq_seq ?_
      refine wc_seq ?_
      refine wc_cond rfl (fun h4 => ?_) (fun h4 => ?_)
      · (try simp only [beq_iff_eq, bne_iff_ne, ne_eq, decide_eq_true_eq, decide_eq_false_iff_not, beq_eq_false_iff_ne, bne_eq_false_iff_eq, Bool.not_eq_true', Bool.not_eq_false', Bool.not_eq_eq_eq_not, Bool.not_true, Bool.not_false, gt_iff_lt, ge_iff_le, Int.not_lt, Int.not_le] at h4)
        try (exfalso; first | contradiction | omega)
        all_goals
          
          refine wc_skip ?_
          refine wq_seq ?_
          refine wc_seq ?_
          refine wc_block ?_
          refine wc_seq ?_
          refine wc_region ?_
          refine wl_val (r_move rfl) (by decide) ?_
          refine wl_val (r_assign rfl) (by decide) ?_
          refine wl_nil ?_
          refine wq_seq ?_
          obtain ⟨a', c', ee, _, _, hf⟩ := (HL.row_rd).form
          have ea : a8 = a' := by injection ee
          subst ea
          obtain ⟨b0, o0, rfl, _⟩ := hf (by omega)
          refine wc_region ?_
          refine wl_val (r_move rfl) (by decide) ?_
          refine wl_val (r_move rfl) (by decide) ?_
          refine wl_val (r_index Tryd.underlying22 Tryd.sizeOf21 rfl rfl (by omega)) (by decide) ?_
          refine wl_eff0 (e_store_elem (i := k) HL Tryd.sizeOf21 rfl rfl (by omega) (by omega)) ?_
          rintro _ w17 H17
          have HN := H17
          refine wl_nil ?_
          refine wq_block_normal ?_
          refine wq_seq ?_
          refine wc_region ?_
          refine wl_val (r_add rfl rfl (by omega)) (by decide) ?_
          refine wl_val (r_move rfl) (by decide) ?_
          refine wl_nil ?_
          refine wq_round ((k + 1, z.set k 63)) ?_ ?_ ?_ ?_
          · exact (Sub.cons rfl (Sub.nil _))
          · exact (Sub.cons rfl (Sub.cons rfl (Sub.cons rfl (Sub.cons rfl (Sub.cons rfl (Sub.nil _))))))
          · exact ⟨by omega, by simp [hz], HN⟩
          · (try dsimp only); omega
      · (try simp only [beq_iff_eq, bne_iff_ne, ne_eq, decide_eq_true_eq, decide_eq_false_iff_not, beq_eq_false_iff_ne, bne_eq_false_iff_eq, Bool.not_eq_true', Bool.not_eq_false', Bool.not_eq_eq_eq_not, Bool.not_true, Bool.not_false, gt_iff_lt, ge_iff_le, Int.not_lt, Int.not_le] at h4)
        try (exfalso; first | contradiction | omega)
        all_goals
          
          refine wc_exit ?_
          refine wq_then_exit ?_
          refine wq_then_exit ?_
          refine wq_block_hit ?_
          refine wq_seq ?_
          refine wc_seq ?_
          refine wc_seq ?_
          have H21 := HL.right.rot
          refine wc_region ?_
          refine wl_val ((by first | exact r_field0 2 Tryd.underlying24 rfl rfl Tryd.sizeOf22 (by decide) rfl | exact r_field 2 Tryd.underlying24 rfl rfl Tryd.sizeOf22 (by decide) rfl)) (by decide) ?_
          refine wl_val (r_load (plain_of Tryd.underlying22 rfl) rfl (cell_of_blk H21.rot.get.2 rfl)) (by decide) ?_
          refine wl_val (r_len Tryd.underlying22 rfl) (by decide) ?_
          refine wl_val (r_move rfl) (by decide) ?_
          refine wl_nil ?_
          refine wq_seq ?_
          refine wc_block ?_
          refine wc_loop [(8, _), (10, _), (14, _), (98, _)] (fun (⟨k, z⟩ : Nat × List Int) => [(99, .int .i64 (k : Int))]) (fun (⟨k, z⟩ : Nat × List Int) W => k ≤ m.length ∧ z.length = m.length ∧ Holds w W (RowI 21 .i32 (.slice a9 m.length c9) z • RefRep q (l.take Q ++ m ++ l.drop Q) (movedP (Q : Int) Q Q m.length) (movedM (-1) Q Q m.length) • blk b13 (.cells (edCells Q d (.slice a9 m.length c9)) 24 (0, 0)) • BufRep p (l.take Q ++ m ++ l.drop Q) (movedP (Q : Int) Q Q m.length) (movedM (-1) Q Q m.length) • emp)) (fun (⟨k, z⟩ : Nat × List Int) => m.length - k) ((0, m)) (Sub.cons rfl (Sub.cons rfl (Sub.cons rfl (Sub.cons rfl (Sub.nil _))))) (Sub.cons rfl (Sub.nil _)) ⟨by omega, rfl, H21⟩ ?_
          rintro ⟨k, z⟩ w18 ⟨hk, hz, HL⟩
          dsimp only [List.cons_append, List.nil_append]
          refine wc_seq ?_
          refine wc_region ?_
          refine wl_val (r_lss rfl rfl) (by decide) ?_
          refine wl_nil ?_
          refine wq_seq ?_
          refine wc_seq ?_
          refine wc_cond rfl (fun h5 => ?_) (fun h5 => ?_)
          · (try simp only [beq_iff_eq, bne_iff_ne, ne_eq, decide_eq_true_eq, decide_eq_false_iff_not, beq_eq_false_iff_ne, bne_eq_false_iff_eq, Bool.not_eq_true', Bool.not_eq_false', Bool.not_eq_eq_eq_not, Bool.not_true, Bool.not_false, gt_iff_lt, ge_iff_le, Int.not_lt, Int.not_le] at h5)
            try (exfalso; first | contradiction | omega)
            all_goals
              
              refine wc_skip ?_
              refine wq_seq ?_
              refine wc_seq ?_
              refine wc_block ?_
              refine wc_seq ?_
              refine wc_region ?_
              refine wl_val (r_move rfl) (by decide) ?_
              refine wl_val (r_assign rfl) (by decide) ?_
              refine wl_nil ?_
              refine wq_seq ?_
              obtain ⟨a', c', ee, _, _, hf⟩ := (HL.row_rd).form
              have ea : a9 = a' := by injection ee
              subst ea
              obtain ⟨b0, o0, rfl, _⟩ := hf (by omega)
              refine wc_region ?_
              refine wl_val ((by first | exact r_field0 2 Tryd.underlying24 rfl rfl Tryd.sizeOf22 (by decide) rfl | exact r_field 2 Tryd.underlying24 rfl rfl Tryd.sizeOf22 (by decide) rfl)) (by decide) ?_
              refine wl_val (r_load (plain_of Tryd.underlying22 rfl) rfl (cell_of_blk HL.rot.get.2 rfl)) (by decide) ?_
              refine wl_val (r_move rfl) (by decide) ?_
              refine wl_val (r_index Tryd.underlying22 Tryd.sizeOf21 rfl rfl (by omega)) (by decide) ?_
              refine wl_eff0 (e_store_elem (i := k) HL Tryd.sizeOf21 rfl rfl (by omega) (by omega)) ?_
              rintro _ w19 H19
              have HN := H19
              refine wl_nil ?_
              refine wq_block_normal ?_
              refine wq_seq ?_
              refine wc_region ?_
              refine wl_val (r_add rfl rfl (by omega)) (by decide) ?_
              refine wl_val (r_move rfl) (by decide) ?_
              refine wl_nil ?_
              refine wq_round ((k + 1, z.set k 63)) ?_ ?_ ?_ ?_
              · exact (Sub.cons rfl (Sub.nil _))
              · exact (Sub.cons rfl (Sub.cons rfl (Sub.cons rfl (Sub.cons rfl (Sub.nil _)))))
              · exact ⟨by omega, by simp [hz], HN⟩
              · (try dsimp only); omega
          · (try simp only [beq_iff_eq, bne_iff_ne, ne_eq, decide_eq_true_eq, decide_eq_false_iff_not, beq_eq_false_iff_ne, bne_eq_false_iff_eq, Bool.not_eq_true', Bool.not_eq_false', Bool.not_eq_eq_eq_not, Bool.not_true, Bool.not_false, gt_iff_lt, ge_iff_le, Int.not_lt, Int.not_le] at h5)
            try (exfalso; first | contradiction | omega)
            all_goals
              
              refine wc_exit ?_
              refine wq_then_exit ?_
              refine wq_then_exit ?_
              refine wq_block_hit ?_
              refine wq_seq ?_
              refine wc_seq ?_
              have H26 := HL.right.swap.right.swap
              refine wc_region ?_
              refine wl_val (r_move rfl) (by decide) ?_
              refine wl_eff (e_call (r_call rfl Tryd.func15 rfl rfl) (buf_text_ret H26)) (by decide) ?_
              rintro y w20 H20
              obtain ⟨ay, cy, hy, _⟩ := (H20.row_rd).form
              subst hy
              refine wl_val (r_move rfl) (by decide) ?_
              refine wl_eff (e_call (r_call rfl Tryd.func21 rfl rfl) (buf_line_ret H20.swap)) (by decide) ?_
              rintro _ w21 ⟨zz, rfl, H21⟩
              obtain ⟨az, cz, hzz, _⟩ := (H21.row_rd).form
              subst hzz
              refine wl_eff (e_alloc H21 Tryd.zeroValue46) (by decide) ?_
              rintro _ w22 ⟨b22, rfl, H22⟩
              refine wl_val (r_assign rfl) (by decide) ?_
              refine wl_eff0 (e_store_whole (cs := lineCells (.slice az (l.take Q ++ m ++ l.drop Q).length cz) (movedP (Q : Int) Q Q m.length) (movedM (-1) Q Q m.length)) H22 Tryd.sizeOf46 rfl rfl rfl rfl (line_ones rfl)) ?_
              rintro _ w23 H23
              refine wl_nil ?_
              refine wq_seq ?_
              refine wc_seq ?_
              refine wc_seq ?_
              have H27 := H23.r4
              refine wc_region ?_
              refine wl_val (r_move rfl) (by decide) ?_
              refine wl_val (r_len Tryd.underlying22 rfl) (by decide) ?_
              refine wl_val (r_move rfl) (by decide) ?_
              refine wl_nil ?_
              refine wq_seq ?_
              refine wc_block ?_
              refine wc_loop [(8, _), (10, _), (18, _), (19, _), (112, _)] (fun (⟨k, z⟩ : Nat × List Int) => [(113, .int .i64 (k : Int))]) (fun (⟨k, z⟩ : Nat × List Int) W => k ≤ (l.take Q ++ m ++ l.drop Q).length ∧ z.length = (l.take Q ++ m ++ l.drop Q).length ∧ Holds w W (RowI 21 .i32 (.slice ay (l.take Q ++ m ++ l.drop Q).length cy) z • blk b22 (.cells (lineCells (.slice az (l.take Q ++ m ++ l.drop Q).length cz) (movedP (Q : Int) Q Q m.length) (movedM (-1) Q Q m.length)) 46 (0, 0)) • RowI 21 .i32 (.slice az (l.take Q ++ m ++ l.drop Q).length cz) (l.take Q ++ m ++ l.drop Q) • BufRep p (l.take Q ++ m ++ l.drop Q) (movedP (Q : Int) Q Q m.length) (movedM (-1) Q Q m.length) • RefRep q (l.take Q ++ m ++ l.drop Q) (movedP (Q : Int) Q Q m.length) (movedM (-1) Q Q m.length) • emp)) (fun (⟨k, z⟩ : Nat × List Int) => (l.take Q ++ m ++ l.drop Q).length - k) ((0, l.take Q ++ m ++ l.drop Q)) (Sub.cons rfl (Sub.cons rfl (Sub.cons rfl (Sub.cons rfl (Sub.cons rfl (Sub.nil _)))))) (Sub.cons rfl (Sub.nil _)) ⟨by omega, rfl, H27⟩ ?_
              rintro ⟨k, z⟩ w24 ⟨hk, hz, HL⟩
              dsimp only [List.cons_append, List.nil_append]
              refine wc_seq ?_
              refine wc_region ?_
              refine wl_val (r_lss rfl rfl) (by decide) ?_
              refine wl_nil ?_
              refine wq_seq ?_
              refine wc_seq ?_
              refine wc_cond rfl (fun h6 => ?_) (fun h6 => ?_)
              · (try simp only [beq_iff_eq, bne_iff_ne, ne_eq, decide_eq_true_eq, decide_eq_false_iff_not, beq_eq_false_iff_ne, bne_eq_false_iff_eq, Bool.not_eq_true', Bool.not_eq_false', Bool.not_eq_eq_eq_not, Bool.not_true, Bool.not_false, gt_iff_lt, ge_iff_le, Int.not_lt, Int.not_le] at h6)
                try (exfalso; first | contradiction | omega)
                all_goals
                  
                  refine wc_skip ?_
                  refine wq_seq ?_
                  refine wc_seq ?_
                  refine wc_block ?_
                  refine wc_seq ?_
                  refine wc_region ?_
                  refine wl_val (r_move rfl) (by decide) ?_
                  refine wl_val (r_assign rfl) (by decide) ?_
                  refine wl_nil ?_
                  refine wq_seq ?_
                  obtain ⟨a', c', ee, _, _, hf⟩ := (HL.row_rd).form
                  have ea : ay = a' := by injection ee
                  subst ea
                  obtain ⟨b0, o0, rfl, _⟩ := hf (by omega)
                  refine wc_region ?_
                  refine wl_val (r_move rfl) (by decide) ?_
                  refine wl_val (r_move rfl) (by decide) ?_
                  refine wl_val (r_index Tryd.underlying22 Tryd.sizeOf21 rfl rfl (by omega)) (by decide) ?_
                  refine wl_eff0 (e_store_elem (i := k) HL Tryd.sizeOf21 rfl rfl (by omega) (by omega)) ?_
                  rintro _ w25 H25
                  have HN := H25
                  refine wl_nil ?_
                  refine wq_block_normal ?_
                  refine wq_seq ?_
                  refine wc_region ?_
                  refine wl_val (r_add rfl rfl (by omega)) (by decide) ?_
                  refine wl_val (r_move rfl) (by decide) ?_
                  refine wl_nil ?_
                  refine wq_round ((k + 1, z.set k 63)) ?_ ?_ ?_ ?_
                  · exact (Sub.cons rfl (Sub.nil _))
                  · exact (Sub.cons rfl (Sub.cons rfl (Sub.cons rfl (Sub.cons rfl (Sub.cons rfl (Sub.nil _))))))
                  · exact ⟨by omega, by simp only [List.length_set]; exact hz, HN⟩
                  · (try dsimp only); omega
              · (try simp only [beq_iff_eq, bne_iff_ne, ne_eq, decide_eq_true_eq, decide_eq_false_iff_not, beq_eq_false_iff_ne, bne_eq_false_iff_eq, Bool.not_eq_true', Bool.not_eq_false', Bool.not_eq_eq_eq_not, Bool.not_true, Bool.not_false, gt_iff_lt, ge_iff_le, Int.not_lt, Int.not_le] at h6)
                try (exfalso; first | contradiction | omega)
                all_goals
                  
                  refine wc_exit ?_
                  refine wq_then_exit ?_
                  refine wq_then_exit ?_
                  refine wq_block_hit ?_
                  refine wq_seq ?_
                  refine wc_seq ?_
                  refine wc_seq ?_
                  have H32 := HL.right.swap
                  refine wc_region ?_
                  refine wl_val ((by first | exact r_field0 0 Tryd.underlying46 rfl rfl Tryd.sizeOf22 (by decide) rfl | exact r_field 0 Tryd.underlying46 rfl rfl Tryd.sizeOf22 (by decide) rfl)) (by decide) ?_
                  refine wl_val (r_load (plain_of Tryd.underlying22 rfl) rfl (cell_of_blk H32.swap.get.2 rfl)) (by decide) ?_
                  refine wl_val (r_len Tryd.underlying22 rfl) (by decide) ?_
                  refine wl_val (r_move rfl) (by decide) ?_
                  refine wl_nil ?_
                  refine wq_seq ?_
                  refine wc_block ?_
                  refine wc_loop [(8, _), (10, _), (19, _), (122, _)] (fun (⟨k, z⟩ : Nat × List Int) => [(123, .int .i64 (k : Int))]) (fun (⟨k, z⟩ : Nat × List Int) W => k ≤ (l.take Q ++ m ++ l.drop Q).length ∧ z.length = (l.take Q ++ m ++ l.drop Q).length ∧ Holds w W (RowI 21 .i32 (.slice az (l.take Q ++ m ++ l.drop Q).length cz) z • blk b22 (.cells (lineCells (.slice az (l.take Q ++ m ++ l.drop Q).length cz) (movedP (Q : Int) Q Q m.length) (movedM (-1) Q Q m.length)) 46 (0, 0)) • BufRep p (l.take Q ++ m ++ l.drop Q) (movedP (Q : Int) Q Q m.length) (movedM (-1) Q Q m.length) • RefRep q (l.take Q ++ m ++ l.drop Q) (movedP (Q : Int) Q Q m.length) (movedM (-1) Q Q m.length) • emp)) (fun (⟨k, z⟩ : Nat × List Int) => (l.take Q ++ m ++ l.drop Q).length - k) ((0, l.take Q ++ m ++ l.drop Q)) (Sub.cons rfl (Sub.cons rfl (Sub.cons rfl (Sub.cons rfl (Sub.nil _))))) (Sub.cons rfl (Sub.nil _)) ⟨by omega, rfl, H32⟩ ?_
                  rintro ⟨k, z⟩ w26 ⟨hk, hz, HL⟩
                  dsimp only [List.cons_append, List.nil_append]
                  refine wc_seq ?_
                  refine wc_region ?_
                  refine wl_val (r_lss rfl rfl) (by decide) ?_
                  refine wl_nil ?_
                  refine wq_seq ?_
                  refine wc_seq ?_
                  refine wc_cond rfl (fun h7 => ?_) (fun h7 => ?_)
                  · (try simp only [beq_iff_eq, bne_iff_ne, ne_eq, decide_eq_true_eq, decide_eq_false_iff_not, beq_eq_false_iff_ne, bne_eq_false_iff_eq, Bool.not_eq_true', Bool.not_eq_false', Bool.not_eq_eq_eq_not, Bool.not_true, Bool.not_false, gt_iff_lt, ge_iff_le, Int.not_lt, Int.not_le] at h7)
                    try (exfalso; first | contradiction | omega)
                    all_goals
                      
                      refine wc_skip ?_
                      refine wq_seq ?_
                      refine wc_seq ?_
                      refine wc_block ?_
                      refine wc_seq ?_
                      refine wc_region ?_
                      refine wl_val (r_move rfl) (by decide) ?_
                      refine wl_val (r_assign rfl) (by decide) ?_
                      refine wl_nil ?_
                      refine wq_seq ?_
                      obtain ⟨a', c', ee, _, _, hf⟩ := (HL.row_rd).form
                      have ea : az = a' := by injection ee
                      subst ea
                      obtain ⟨b0, o0, rfl, _⟩ := hf (by omega)
                      refine wc_region ?_
                      refine wl_val ((by first | exact r_field0 0 Tryd.underlying46 rfl rfl Tryd.sizeOf22 (by decide) rfl | exact r_field 0 Tryd.underlying46 rfl rfl Tryd.sizeOf22 (by decide) rfl)) (by decide) ?_
                      refine wl_val (r_load (plain_of Tryd.underlying22 rfl) rfl (cell_of_blk HL.swap.get.2 rfl)) (by decide) ?_
                      refine wl_val (r_move rfl) (by decide) ?_
                      refine wl_val (r_index Tryd.underlying22 Tryd.sizeOf21 rfl rfl (by omega)) (by decide) ?_
                      refine wl_eff0 (e_store_elem (i := k) HL Tryd.sizeOf21 rfl rfl (by omega) (by omega)) ?_
                      rintro _ w27 H27
                      have HN := H27
                      refine wl_nil ?_
                      refine wq_block_normal ?_
                      refine wq_seq ?_
                      refine wc_region ?_
                      refine wl_val (r_add rfl rfl (by omega)) (by decide) ?_
                      refine wl_val (r_move rfl) (by decide) ?_
                      refine wl_nil ?_
                      refine wq_round ((k + 1, z.set k 63)) ?_ ?_ ?_ ?_
                      · exact (Sub.cons rfl (Sub.nil _))
                      · exact (Sub.cons rfl (Sub.cons rfl (Sub.cons rfl (Sub.cons rfl (Sub.nil _)))))
                      · exact ⟨by omega, by simp only [List.length_set]; exact hz, HN⟩
                      · (try dsimp only); omega
                  · (try simp only [beq_iff_eq, bne_iff_ne, ne_eq, decide_eq_true_eq, decide_eq_false_iff_not, beq_eq_false_iff_ne, bne_eq_false_iff_eq, Bool.not_eq_true', Bool.not_eq_false', Bool.not_eq_eq_eq_not, Bool.not_true, Bool.not_false, gt_iff_lt, ge_iff_le, Int.not_lt, Int.not_le] at h7)
                    try (exfalso; first | contradiction | omega)
                    all_goals
                      
                      refine wc_exit ?_
                      refine wq_then_exit ?_
                      refine wq_then_exit ?_
                      refine wq_block_hit ?_
                      refine wq_seq ?_
                      refine wc_seq ?_
                      have H37 := HL.right.right
                      refine wc_region ?_
                      refine wl_val (r_move rfl) (by decide) ?_
                      refine wl_val (r_move rfl) (by decide) ?_
                      refine wl_eff (e_call (r_call rfl Tryd.func22 rfl rfl) (is_same_ret H37)) (by decide) ?_
                      rintro _ w28 ⟨rfl, H28⟩
                      refine wl_val (r_assign rfl) (by decide) ?_
                      refine wl_nil ?_
                      refine wq_seq ?_
                      refine wc_ret ?_
                      refine wq_end1 (.inl rfl) Tryd.results4 rfl ?_
                      exact ⟨rfl, H28.base⟩
theorem own_much {Q : Nat} (hT : Tabs w) (g : RdI w .i32 v l) (gm : RdI w .i32 vm m) (hl : l.length ≤ 1024) (hQ : mvP l.length l.length x = Q) (hQL : Q ≤ l.length) (hm : 1024 < l.length + m.length) (hmb : m.length ≤ 35184372088832) :
    Ret Tryd.prog 4 #[v, vm, .int .i64 x] w fun v w' => v = .bool true ∧ Below w.heap.size w w' := by
  have H := Holds.start w
  obtain ⟨a1, c1, hv1, _, _, _⟩ := g.open
  subst hv1
  obtain ⟨a2, c2, hv2, _, _, _⟩ := gm.open
  subst hv2
  refine ret_enter Tryd.func4 rfl Tryd.ntmps4 (Nat.le_of_ble_eq_true rfl) ?_
  dsimp only [slots0, Nat.reduceAdd]
  refine wc_seq ?_
  refine wc_region ?_
  refine wl_val (r_assign rfl) (by decide) ?_
  refine wl_nil ?_
  refine wq_seq ?_
  refine wc_seq ?_
  refine wc_region ?_
  refine wl_eff (e_lit_row (vs := []) H Tryd.underlying22 Tryd.sizeOf21 Tryd.zeroValue21 rfl rfl rfl (by decide) (by simp)) (by decide) ?_
  rintro _ w1 H1
  refine wl_val (r_move rfl) (by decide) ?_
  refine wl_eff (e_append_ints (l := []) H1 (Holds.rd H1 g) Tryd.underlying22 info_i32 rfl rfl (by simp only [List.length_nil]; omega) (by simp only [List.length_nil]; omega)) (by decide) ?_
  rintro u w2 H2
  rw [List.nil_append] at H2
  obtain ⟨a7, c7, hu7, _⟩ := (H2.row_rd).form
  subst hu7
  refine wl_val (r_assign rfl) (by decide) ?_
  refine wl_nil ?_
  refine wq_seq ?_
  refine wc_seq ?_
  refine wc_region ?_
  refine wl_val (r_move rfl) (by decide) ?_
  refine wl_eff (e_call (r_call rfl Tryd.func11 rfl rfl) (buf_new_ret H2 (fun W HW => HW.row_rd) hl)) (by decide) ?_
  rintro _ w3 ⟨p, rfl, H3⟩
  refine wl_val (r_move rfl) (by decide) ?_
  refine wl_val (r_extract rfl rfl) (by decide) ?_
  refine wl_val (r_extract rfl rfl) (by decide) ?_
  refine wl_val (r_assign rfl) (by decide) ?_
  refine wl_val (r_assign rfl) (by decide) ?_
  refine wl_nil ?_
  refine wq_seq ?_
  refine wc_seq ?_
  refine wc_region ?_
  refine wl_val (r_move rfl) (by decide) ?_
  refine wl_eff (e_call (r_call rfl Tryd.func16 rfl rfl) (ref_new_ret H3 (FRdI.of_start g _) hl)) (by decide) ?_
  rintro _ w4 ⟨q, rfl, H4⟩
  refine wl_val (r_move rfl) (by decide) ?_
  refine wl_val (r_extract rfl rfl) (by decide) ?_
  refine wl_val (r_extract rfl rfl) (by decide) ?_
  refine wl_val (r_assign rfl) (by decide) ?_
  refine wl_val (r_assign rfl) (by decide) ?_
  refine wl_nil ?_
  refine wq_seq ?_
  refine wc_seq ?_
  refine wc_seq ?_
  refine wc_region ?_
  refine wl_val (r_move rfl) (by decide) ?_
  refine wl_val (r_move rfl) (by decide) ?_
  refine wl_val (r_neq rfl rfl) (by decide) ?_
  refine wl_split rfl (by decide) (fun h => by exfalso; (try simp only [beq_iff_eq, bne_iff_ne, ne_eq, decide_eq_true_eq, decide_eq_false_iff_not, beq_eq_false_iff_ne, bne_eq_false_iff_eq, Bool.not_eq_true', Bool.not_eq_false', Bool.not_eq_eq_eq_not, Bool.not_true, Bool.not_false, gt_iff_lt, ge_iff_le, Int.not_lt, Int.not_le] at h); simp at h) (fun h1 => ?_)
  (try simp only [beq_iff_eq, bne_iff_ne, ne_eq, decide_eq_true_eq, decide_eq_false_iff_not, beq_eq_false_iff_ne, bne_eq_false_iff_eq, Bool.not_eq_true', Bool.not_eq_false', Bool.not_eq_eq_eq_not, Bool.not_true, Bool.not_false, gt_iff_lt, ge_iff_le, Int.not_lt, Int.not_le] at h1)
  refine wl_yes rfl rfl ?_
  refine wl_val (r_move rfl) (by decide) ?_
  refine wl_yes rfl rfl ?_
  refine wl_val (r_known_f (r_neq rfl rfl) (by decide)) (by decide) ?_
  refine wl_val (r_pick_f rfl rfl) (by decide) ?_
  refine wl_val (r_move rfl) (by decide) ?_
  refine wl_yes rfl rfl ?_
  refine wl_eff (e_call (r_call rfl Tryd.func12 rfl rfl) (live_ret H4 hT)) (by decide) ?_
  rintro _ w5 ⟨rfl, H5⟩
  refine wl_yes rfl rfl ?_
  refine wl_val (r_not rfl) (by decide) ?_
  refine wl_val (r_pick_f rfl rfl) (by decide) ?_
  refine wl_nil ?_
  refine wq_seq ?_
  refine wc_cond rfl (fun h => by exfalso; (try simp only [beq_iff_eq, bne_iff_ne, ne_eq, decide_eq_true_eq, decide_eq_false_iff_not, beq_eq_false_iff_ne, bne_eq_false_iff_eq, Bool.not_eq_true', Bool.not_eq_false', Bool.not_eq_eq_eq_not, Bool.not_true, Bool.not_false, gt_iff_lt, ge_iff_le, Int.not_lt, Int.not_le] at h); first | contradiction | omega | (simp at h <;> omega)) (fun h2 => ?_)
  (try simp only [beq_iff_eq, bne_iff_ne, ne_eq, decide_eq_true_eq, decide_eq_false_iff_not, beq_eq_false_iff_ne, bne_eq_false_iff_eq, Bool.not_eq_true', Bool.not_eq_false', Bool.not_eq_eq_eq_not, Bool.not_true, Bool.not_false, gt_iff_lt, ge_iff_le, Int.not_lt, Int.not_le] at h2)
  refine wc_skip ?_
  refine wq_seq ?_
  refine wc_seq ?_
  refine wc_seq ?_
  have H6 := H5.rot
  refine wc_region ?_
  refine wl_val (r_move rfl) (by decide) ?_
  refine wl_val (r_len Tryd.underlying22 rfl) (by decide) ?_
  refine wl_val (r_move rfl) (by decide) ?_
  refine wl_nil ?_
  refine wq_seq ?_
  refine wc_block ?_
  refine wc_loop [(1, _), (2, _), (7, _), (8, _), (10, _), (53, _)] (fun (⟨k, z⟩ : Nat × List Int) => [(54, .int .i64 (k : Int))]) (fun (⟨k, z⟩ : Nat × List Int) W => k ≤ l.length ∧ z.length = l.length ∧ Holds w W (RowI 21 .i32 (.slice a7 l.length c7) z • RefRep q l l.length (-1) • BufRep p l l.length (-1) • emp)) (fun (⟨k, z⟩ : Nat × List Int) => l.length - k) ((0, l)) (Sub.cons rfl (Sub.cons rfl (Sub.cons rfl (Sub.cons rfl (Sub.cons rfl (Sub.cons rfl (Sub.nil _))))))) (Sub.cons rfl (Sub.nil _)) ⟨by omega, rfl, H6⟩ ?_
  rintro ⟨k, z⟩ w6 ⟨hk, hz, HL⟩
  dsimp only [List.cons_append, List.nil_append]
  refine wc_seq ?_
  refine wc_region ?_
  refine wl_val (r_lss rfl rfl) (by decide) ?_
  refine wl_nil ?_
  refine wq_seq ?_
  refine wc_seq ?_
  refine wc_cond rfl (fun h3 => ?_) (fun h3 => ?_)
  · (try simp only [beq_iff_eq, bne_iff_ne, ne_eq, decide_eq_true_eq, decide_eq_false_iff_not, beq_eq_false_iff_ne, bne_eq_false_iff_eq, Bool.not_eq_true', Bool.not_eq_false', Bool.not_eq_eq_eq_not, Bool.not_true, Bool.not_false, gt_iff_lt, ge_iff_le, Int.not_lt, Int.not_le] at h3)
    try (exfalso; first | contradiction | omega)
    all_goals
      
      refine wc_skip ?_
      refine wq_seq ?_
      refine wc_seq ?_
      refine wc_block ?_
      refine wc_seq ?_
      refine wc_region ?_
      refine wl_val (r_move rfl) (by decide) ?_
      refine wl_val (r_assign rfl) (by decide) ?_
      refine wl_nil ?_
      refine wq_seq ?_
      obtain ⟨a', c', ee, _, _, hf⟩ := (HL.row_rd).form
      have ea : a7 = a' := by injection ee
      subst ea
      obtain ⟨b0, o0, rfl, _⟩ := hf (by omega)
      refine wc_region ?_
      refine wl_val (r_move rfl) (by decide) ?_
      refine wl_val (r_move rfl) (by decide) ?_
      refine wl_val (r_index Tryd.underlying22 Tryd.sizeOf21 rfl rfl (by omega)) (by decide) ?_
      refine wl_eff0 (e_store_elem (i := k) HL Tryd.sizeOf21 rfl rfl (by omega) (by omega)) ?_
      rintro _ w7 H7
      have HN := H7
      refine wl_nil ?_
      refine wq_block_normal ?_
      refine wq_seq ?_
      refine wc_region ?_
      refine wl_val (r_add rfl rfl (by omega)) (by decide) ?_
      refine wl_val (r_move rfl) (by decide) ?_
      refine wl_nil ?_
      refine wq_round ((k + 1, z.set k 63)) ?_ ?_ ?_ ?_
      · exact (Sub.cons rfl (Sub.nil _))
      · exact (Sub.cons rfl (Sub.cons rfl (Sub.cons rfl (Sub.cons rfl (Sub.cons rfl (Sub.cons rfl (Sub.nil _)))))))
      · exact ⟨by omega, by simp [hz], HN⟩
      · (try dsimp only); omega
  · (try simp only [beq_iff_eq, bne_iff_ne, ne_eq, decide_eq_true_eq, decide_eq_false_iff_not, beq_eq_false_iff_ne, bne_eq_false_iff_eq, Bool.not_eq_true', Bool.not_eq_false', Bool.not_eq_eq_eq_not, Bool.not_true, Bool.not_false, gt_iff_lt, ge_iff_le, Int.not_lt, Int.not_le] at h3)
    try (exfalso; first | contradiction | omega)
    all_goals
      
      refine wc_exit ?_
      refine wq_then_exit ?_
      refine wq_then_exit ?_
      refine wq_block_hit ?_
      refine wq_seq ?_
      refine wc_seq ?_
      have H11 := HL.right
      refine wc_region ?_
      refine wl_val (r_move rfl) (by decide) ?_
      refine wl_val (r_move rfl) (by decide) ?_
      refine wl_eff (e_call (r_call rfl Tryd.func17 rfl rfl) (buf_move_ret H11.swap)) (by decide) ?_
      rintro _ w8 ⟨rfl, H8⟩
      refine wl_nil ?_
      refine wq_seq ?_
      refine wc_seq ?_
      refine wc_region ?_
      refine wl_val (r_move rfl) (by decide) ?_
      refine wl_val (r_move rfl) (by decide) ?_
      refine wl_eff (e_call (r_call rfl Tryd.func18 rfl rfl) (ref_move_ret H8.swap)) (by decide) ?_
      rintro _ w9 ⟨rfl, H9⟩
      rw [hQ] at H9
      refine wl_nil ?_
      refine wq_seq ?_
      refine wc_seq ?_
      refine wc_region ?_
      refine wl_eff (e_lit_row (vs := []) H9 Tryd.underlying22 Tryd.sizeOf21 Tryd.zeroValue21 rfl rfl rfl (by decide) (by simp)) (by decide) ?_
      rintro _ w10 H10
      refine wl_val (r_move rfl) (by decide) ?_
      refine wl_eff (e_append_ints (l := []) H10 (Holds.rd H10 gm) Tryd.underlying22 info_i32 rfl rfl (by simp only [List.length_nil]; omega) (by simp only [List.length_nil]; omega)) (by decide) ?_
      rintro u2 w11 H11
      rw [List.nil_append] at H11
      obtain ⟨a8, c8, hu8, _⟩ := (H11.row_rd).form
      subst hu8
      refine wl_val (r_assign rfl) (by decide) ?_
      refine wl_nil ?_
      refine wq_seq ?_
      refine wc_seq ?_
      refine wc_region ?_
      refine wl_val (r_move rfl) (by decide) ?_
      refine wl_val (r_move rfl) (by decide) ?_
      refine wl_eff (e_call (r_call rfl Tryd.func19 rfl rfl) (buf_insert_long (q := Q) H11.rot rfl hQL (fun W HW => HW.row_rd) hm)) (by decide) ?_
      rintro _ w12 ⟨rfl, H12⟩
      refine wl_val (r_move rfl) (by decide) ?_
      refine wl_val (r_extract rfl rfl) (by decide) ?_
      refine wl_val (r_extract rfl rfl) (by decide) ?_
      refine wl_eff (e_alloc H12 Tryd.zeroValue24) (by decide) ?_
      rintro _ w13 ⟨b13, rfl, H13⟩
      refine wl_eff0 (e_store_whole (cs := edCells 0 (.slice none 0 0) (.slice none 0 0)) H13 Tryd.sizeOf24 rfl rfl rfl rfl (ed_ones rfl rfl)) ?_
      rintro _ w14 H14
      refine wl_val (r_assign rfl) (by decide) ?_
      refine wl_nil ?_
      refine wq_seq ?_
      refine wc_seq ?_
      obtain ⟨ar, cr, g1, g2, g3, hr1, hr2, H15⟩ := H14.r4.ref
      refine wd_begin (n := 11) (fun W => W.heap[q]? = some (.cells (refCells (.slice ar l.length cr) Q (-1)) 44 (0, 0))) (by kernel_rfl) (by kernel_rfl) rfl ?_
      have hS0 : (fun W => W.heap[q]? = some (.cells (refCells (.slice ar l.length cr) Q (-1)) 44 (0, 0))) (w14.drew) := H15.get.2
      have H15d := H15.drew
      refine wd_take 0 rfl (by kernel_rfl) (by kernel_rfl) hS0 (fun _ _ => r_move rfl) (by decide) ?_
      refine wd_take 1 rfl (by kernel_rfl) (by kernel_rfl) hS0 (fun _ _ => r_move rfl) (by decide) ?_
      refine wd_take 2 rfl (by kernel_rfl) (by kernel_rfl) hS0 (fun _ _ => r_nil rfl) (by decide) ?_
      refine wd_take 3 rfl (by kernel_rfl) (by kernel_rfl) hS0 (fun _ _ => (by first | exact r_field0 1 Tryd.underlying44 rfl rfl Tryd.sizeOf3 (by decide) rfl | exact r_field 1 Tryd.underlying44 rfl rfl Tryd.sizeOf3 (by decide) rfl)) (by decide) ?_
      refine wd_take 4 rfl (by kernel_rfl) (by kernel_rfl) hS0 (fun W hW => r_load (plain_of Tryd.underlying3 rfl) rfl (cell_of_blk hW rfl)) (by decide) ?_
      refine wd_take 5 rfl (by kernel_rfl) (by kernel_rfl) hS0 (fun _ _ => r_move rfl) (by decide) ?_
      refine wd_take 6 rfl (by kernel_rfl) (by kernel_rfl) hS0 (fun _ _ => r_nil rfl) (by decide) ?_
      refine wd_take 7 rfl (by kernel_rfl) (by kernel_rfl) hS0 (fun _ _ => (by first | exact r_field0 1 Tryd.underlying44 rfl rfl Tryd.sizeOf3 (by decide) rfl | exact r_field 1 Tryd.underlying44 rfl rfl Tryd.sizeOf3 (by decide) rfl)) (by decide) ?_
      refine wd_take 8 rfl (by kernel_rfl) (by kernel_rfl) hS0 (fun W hW => r_load (plain_of Tryd.underlying3 rfl) rfl (cell_of_blk hW rfl)) (by decide) ?_
      refine wd_take 9 rfl (by kernel_rfl) (by kernel_rfl) hS0 (fun _ _ => r_move rfl) (by decide) ?_
      refine wd_eff 10 rfl (by kernel_rfl) (e_call (r_call rfl Tryd.func20 rfl rfl) (ref_replace_long (Holds.mk_ref g1 g2 g3 H15d) (FRdI.of_start gm _) (by omega) (by omega) (by omega))) (by decide) ?_
      rintro _ w15 ⟨rfl, H15⟩
      refine ⟨.inr (by kernel_rfl), ?_⟩
      refine wd_done (by kernel_rfl) ?_
      refine wq_seq ?_
      refine wc_seq ?_
      refine wc_seq ?_
      have H16 := H15.r4
      refine wc_region ?_
      refine wl_val (r_move rfl) (by decide) ?_
      refine wl_val (r_len Tryd.underlying22 rfl) (by decide) ?_
      refine wl_val (r_move rfl) (by decide) ?_
      refine wl_nil ?_
      refine wq_seq ?_
      refine wc_block ?_
      refine wc_loop [(8, _), (10, _), (13, _), (14, _), (88, _)] (fun (⟨k, z⟩ : Nat × List Int) => [(89, .int .i64 (k : Int))]) (fun (⟨k, z⟩ : Nat × List Int) W => k ≤ m.length ∧ z.length = m.length ∧ Holds w W (RowI 21 .i32 (.slice a8 m.length c8) z • RefRep q l (Q : Int) (-1) • blk b13 (.cells (edCells 0 (.slice none 0 0) (.slice none 0 0)) 24 (0, 0)) • BufRep p l (Q : Int) (-1) • emp)) (fun (⟨k, z⟩ : Nat × List Int) => m.length - k) ((0, m)) (Sub.cons rfl (Sub.cons rfl (Sub.cons rfl (Sub.cons rfl (Sub.cons rfl (Sub.nil _)))))) (Sub.cons rfl (Sub.nil _)) ⟨by omega, rfl, H16⟩ ?_
      rintro ⟨k, z⟩ w16 ⟨hk, hz, HL⟩
      dsimp only [List.cons_append, List.nil_append]
      refine wc_seq ?_
      refine wc_region ?_
      refine wl_val (r_lss rfl rfl) (by decide) ?_
      refine wl_nil ?_
      refine wq_seq ?_
      refine wc_seq ?_
      refine wc_cond rfl (fun h4 => ?_) (fun h4 => ?_)
      · (try simp only [beq_iff_eq, bne_iff_ne, ne_eq, decide_eq_true_eq, decide_eq_false_iff_not, beq_eq_false_iff_ne, bne_eq_false_iff_eq, Bool.not_eq_true', Bool.not_eq_false', Bool.not_eq_eq_eq_not, Bool.not_true, Bool.not_false, gt_iff_lt, ge_iff_le, Int.not_lt, Int.not_le] at h4)
        try (exfalso; first | contradiction | omega)
        all_goals
          
          refine wc_skip ?_
          refine wq_seq ?_
          refine wc_seq ?_
          refine wc_block ?_
          refine wc_seq ?_
          refine wc_region ?_
          refine wl_val (r_move rfl) (by decide) ?_
          refine wl_val (r_assign rfl) (by decide) ?_
          refine wl_nil ?_
          refine wq_seq ?_
          obtain ⟨a', c', ee, _, _, hf⟩ := (HL.row_rd).form
          have ea : a8 = a' := by injection ee
          subst ea
          obtain ⟨b0, o0, rfl, _⟩ := hf (by omega)
          refine wc_region ?_
          refine wl_val (r_move rfl) (by decide) ?_
          refine wl_val (r_move rfl) (by decide) ?_
          refine wl_val (r_index Tryd.underlying22 Tryd.sizeOf21 rfl rfl (by omega)) (by decide) ?_
          refine wl_eff0 (e_store_elem (i := k) HL Tryd.sizeOf21 rfl rfl (by omega) (by omega)) ?_
          rintro _ w17 H17
          have HN := H17
          refine wl_nil ?_
          refine wq_block_normal ?_
          refine wq_seq ?_
          refine wc_region ?_
          refine wl_val (r_add rfl rfl (by omega)) (by decide) ?_
          refine wl_val (r_move rfl) (by decide) ?_
          refine wl_nil ?_
          refine wq_round ((k + 1, z.set k 63)) ?_ ?_ ?_ ?_
          · exact (Sub.cons rfl (Sub.nil _))
          · exact (Sub.cons rfl (Sub.cons rfl (Sub.cons rfl (Sub.cons rfl (Sub.cons rfl (Sub.nil _))))))
          · exact ⟨by omega, by simp [hz], HN⟩
          · (try dsimp only); omega
      · (try simp only [beq_iff_eq, bne_iff_ne, ne_eq, decide_eq_true_eq, decide_eq_false_iff_not, beq_eq_false_iff_ne, bne_eq_false_iff_eq, Bool.not_eq_true', Bool.not_eq_false', Bool.not_eq_eq_eq_not, Bool.not_true, Bool.not_false, gt_iff_lt, ge_iff_le, Int.not_lt, Int.not_le] at h4)
        try (exfalso; first | contradiction | omega)
        all_goals
          
          refine wc_exit ?_
          refine wq_then_exit ?_
          refine wq_then_exit ?_
          refine wq_block_hit ?_
          refine wq_seq ?_
          refine wc_seq ?_
          refine wc_seq ?_
          have H21 := HL.right.swap
          refine wc_region ?_
          refine wl_val ((by first | exact r_field0 2 Tryd.underlying24 rfl rfl Tryd.sizeOf22 (by decide) rfl | exact r_field 2 Tryd.underlying24 rfl rfl Tryd.sizeOf22 (by decide) rfl)) (by decide) ?_
          refine wl_val (r_load (plain_of Tryd.underlying22 rfl) rfl (cell_of_blk H21.get.2 rfl)) (by decide) ?_
          refine wl_val (r_len Tryd.underlying22 rfl) (by decide) ?_
          refine wl_val (r_move rfl) (by decide) ?_
          refine wl_nil ?_
          refine wq_seq ?_
          refine wc_block ?_
          refine wc_loop [(8, _), (10, _), (14, _), (98, _)] (fun (k : Nat) => [(99, .int .i64 (k : Int))]) (fun (k : Nat) W => k = 0 ∧ Holds w W (blk b13 (.cells (edCells 0 (.slice none 0 0) (.slice none 0 0)) 24 (0, 0)) • RefRep q l (Q : Int) (-1) • BufRep p l (Q : Int) (-1) • emp)) (fun (k : Nat) => 0) (0) (Sub.cons rfl (Sub.cons rfl (Sub.cons rfl (Sub.cons rfl (Sub.nil _))))) (Sub.cons rfl (Sub.nil _)) ⟨rfl, H21⟩ ?_
          rintro k w18 ⟨hk, HL⟩
          dsimp only [List.cons_append, List.nil_append]
          refine wc_seq ?_
          refine wc_region ?_
          refine wl_val (r_lss rfl rfl) (by decide) ?_
          refine wl_nil ?_
          refine wq_seq ?_
          refine wc_seq ?_
          refine wc_cond rfl (fun h => by exfalso; (try simp only [beq_iff_eq, bne_iff_ne, ne_eq, decide_eq_true_eq, decide_eq_false_iff_not, beq_eq_false_iff_ne, bne_eq_false_iff_eq, Bool.not_eq_true', Bool.not_eq_false', Bool.not_eq_eq_eq_not, Bool.not_true, Bool.not_false, gt_iff_lt, ge_iff_le, Int.not_lt, Int.not_le] at h); first | contradiction | omega | (simp at h <;> omega)) (fun h5 => ?_)
          (try simp only [beq_iff_eq, bne_iff_ne, ne_eq, decide_eq_true_eq, decide_eq_false_iff_not, beq_eq_false_iff_ne, bne_eq_false_iff_eq, Bool.not_eq_true', Bool.not_eq_false', Bool.not_eq_eq_eq_not, Bool.not_true, Bool.not_false, gt_iff_lt, ge_iff_le, Int.not_lt, Int.not_le] at h5)
          refine wc_exit ?_
          refine wq_then_exit ?_
          refine wq_then_exit ?_
          refine wq_block_hit ?_
          refine wq_seq ?_
          refine wc_seq ?_
          have H26 := HL.right.swap
          refine wc_region ?_
          refine wl_val (r_move rfl) (by decide) ?_
          refine wl_eff (e_call (r_call rfl Tryd.func15 rfl rfl) (buf_text_ret H26)) (by decide) ?_
          rintro y w19 H19
          obtain ⟨ay, cy, hy, _⟩ := (H19.row_rd).form
          subst hy
          refine wl_val (r_move rfl) (by decide) ?_
          refine wl_eff (e_call (r_call rfl Tryd.func21 rfl rfl) (buf_line_ret H19.swap)) (by decide) ?_
          rintro _ w20 ⟨zz, rfl, H20⟩
          obtain ⟨az, cz, hzz, _⟩ := (H20.row_rd).form
          subst hzz
          refine wl_eff (e_alloc H20 Tryd.zeroValue46) (by decide) ?_
          rintro _ w21 ⟨b21, rfl, H21⟩
          refine wl_val (r_assign rfl) (by decide) ?_
          refine wl_eff0 (e_store_whole (cs := lineCells (.slice az l.length cz) (Q : Int) (-1)) H21 Tryd.sizeOf46 rfl rfl rfl rfl (line_ones rfl)) ?_
          rintro _ w22 H22
          refine wl_nil ?_
          refine wq_seq ?_
          refine wc_seq ?_
          refine wc_seq ?_
          have H27 := H22.r4
          refine wc_region ?_
          refine wl_val (r_move rfl) (by decide) ?_
          refine wl_val (r_len Tryd.underlying22 rfl) (by decide) ?_
          refine wl_val (r_move rfl) (by decide) ?_
          refine wl_nil ?_
          refine wq_seq ?_
          refine wc_block ?_
          refine wc_loop [(8, _), (10, _), (18, _), (19, _), (112, _)] (fun (⟨k, z⟩ : Nat × List Int) => [(113, .int .i64 (k : Int))]) (fun (⟨k, z⟩ : Nat × List Int) W => k ≤ l.length ∧ z.length = l.length ∧ Holds w W (RowI 21 .i32 (.slice ay l.length cy) z • blk b21 (.cells (lineCells (.slice az l.length cz) (Q : Int) (-1)) 46 (0, 0)) • RowI 21 .i32 (.slice az l.length cz) l • BufRep p l (Q : Int) (-1) • RefRep q l (Q : Int) (-1) • emp)) (fun (⟨k, z⟩ : Nat × List Int) => l.length - k) ((0, l)) (Sub.cons rfl (Sub.cons rfl (Sub.cons rfl (Sub.cons rfl (Sub.cons rfl (Sub.nil _)))))) (Sub.cons rfl (Sub.nil _)) ⟨by omega, rfl, H27⟩ ?_
          rintro ⟨k, z⟩ w23 ⟨hk, hz, HL⟩
          dsimp only [List.cons_append, List.nil_append]
          refine wc_seq ?_
          refine wc_region ?_
          refine wl_val (r_lss rfl rfl) (by decide) ?_
          refine wl_nil ?_
          refine wq_seq ?_
          refine wc_seq ?_
          refine wc_cond rfl (fun h6 => ?_) (fun h6 => ?_)
          · (try simp only [beq_iff_eq, bne_iff_ne, ne_eq, decide_eq_true_eq, decide_eq_false_iff_not, beq_eq_false_iff_ne, bne_eq_false_iff_eq, Bool.not_eq_true', Bool.not_eq_false', Bool.not_eq_eq_eq_not, Bool.not_true, Bool.not_false, gt_iff_lt, ge_iff_le, Int.not_lt, Int.not_le] at h6)
            try (exfalso; first | contradiction | omega)
            all_goals
              
              refine wc_skip ?_
              refine wq_seq ?_
              refine wc_seq ?_
              refine wc_block ?_
              refine wc_seq ?_
              refine wc_region ?_
              refine wl_val (r_move rfl) (by decide) ?_
              refine wl_val (r_assign rfl) (by decide) ?_
              refine wl_nil ?_
              refine wq_seq ?_
              obtain ⟨a', c', ee, _, _, hf⟩ := (HL.row_rd).form
              have ea : ay = a' := by injection ee
              subst ea
              obtain ⟨b0, o0, rfl, _⟩ := hf (by omega)
              refine wc_region ?_
              refine wl_val (r_move rfl) (by decide) ?_
              refine wl_val (r_move rfl) (by decide) ?_
              refine wl_val (r_index Tryd.underlying22 Tryd.sizeOf21 rfl rfl (by omega)) (by decide) ?_
              refine wl_eff0 (e_store_elem (i := k) HL Tryd.sizeOf21 rfl rfl (by omega) (by omega)) ?_
              rintro _ w24 H24
              have HN := H24
              refine wl_nil ?_
              refine wq_block_normal ?_
              refine wq_seq ?_
              refine wc_region ?_
              refine wl_val (r_add rfl rfl (by omega)) (by decide) ?_
              refine wl_val (r_move rfl) (by decide) ?_
              refine wl_nil ?_
              refine wq_round ((k + 1, z.set k 63)) ?_ ?_ ?_ ?_
              · exact (Sub.cons rfl (Sub.nil _))
              · exact (Sub.cons rfl (Sub.cons rfl (Sub.cons rfl (Sub.cons rfl (Sub.cons rfl (Sub.nil _))))))
              · exact ⟨by omega, by simp only [List.length_set]; exact hz, HN⟩
              · (try dsimp only); omega
          · (try simp only [beq_iff_eq, bne_iff_ne, ne_eq, decide_eq_true_eq, decide_eq_false_iff_not, beq_eq_false_iff_ne, bne_eq_false_iff_eq, Bool.not_eq_true', Bool.not_eq_false', Bool.not_eq_eq_eq_not, Bool.not_true, Bool.not_false, gt_iff_lt, ge_iff_le, Int.not_lt, Int.not_le] at h6)
            try (exfalso; first | contradiction | omega)
            all_goals
              
              refine wc_exit ?_
              refine wq_then_exit ?_
              refine wq_then_exit ?_
              refine wq_block_hit ?_
              refine wq_seq ?_
              refine wc_seq ?_
              refine wc_seq ?_
              have H32 := HL.right.swap
              refine wc_region ?_
              refine wl_val ((by first | exact r_field0 0 Tryd.underlying46 rfl rfl Tryd.sizeOf22 (by decide) rfl | exact r_field 0 Tryd.underlying46 rfl rfl Tryd.sizeOf22 (by decide) rfl)) (by decide) ?_
              refine wl_val (r_load (plain_of Tryd.underlying22 rfl) rfl (cell_of_blk H32.swap.get.2 rfl)) (by decide) ?_
              refine wl_val (r_len Tryd.underlying22 rfl) (by decide) ?_
              refine wl_val (r_move rfl) (by decide) ?_
              refine wl_nil ?_
              refine wq_seq ?_
              refine wc_block ?_
              refine wc_loop [(8, _), (10, _), (19, _), (122, _)] (fun (⟨k, z⟩ : Nat × List Int) => [(123, .int .i64 (k : Int))]) (fun (⟨k, z⟩ : Nat × List Int) W => k ≤ l.length ∧ z.length = l.length ∧ Holds w W (RowI 21 .i32 (.slice az l.length cz) z • blk b21 (.cells (lineCells (.slice az l.length cz) (Q : Int) (-1)) 46 (0, 0)) • BufRep p l (Q : Int) (-1) • RefRep q l (Q : Int) (-1) • emp)) (fun (⟨k, z⟩ : Nat × List Int) => l.length - k) ((0, l)) (Sub.cons rfl (Sub.cons rfl (Sub.cons rfl (Sub.cons rfl (Sub.nil _))))) (Sub.cons rfl (Sub.nil _)) ⟨by omega, rfl, H32⟩ ?_
              rintro ⟨k, z⟩ w25 ⟨hk, hz, HL⟩
              dsimp only [List.cons_append, List.nil_append]
              refine wc_seq ?_
              refine wc_region ?_
              refine wl_val (r_lss rfl rfl) (by decide) ?_
              refine wl_nil ?_
              refine wq_seq ?_
              refine wc_seq ?_
              refine wc_cond rfl (fun h7 => ?_) (fun h7 => ?_)
              · (try simp only [beq_iff_eq, bne_iff_ne, ne_eq, decide_eq_true_eq, decide_eq_false_iff_not, beq_eq_false_iff_ne, bne_eq_false_iff_eq, Bool.not_eq_true', Bool.not_eq_false', Bool.not_eq_eq_eq_not, Bool.not_true, Bool.not_false, gt_iff_lt, ge_iff_le, Int.not_lt, Int.not_le] at h7)
                try (exfalso; first | contradiction | omega)
                all_goals
                  
                  refine wc_skip ?_
                  refine wq_seq ?_
                  refine wc_seq ?_
                  refine wc_block ?_
                  refine wc_seq ?_
                  refine wc_region ?_
                  refine wl_val (r_move rfl) (by decide) ?_
                  refine wl_val (r_assign rfl) (by decide) ?_
                  refine wl_nil ?_
                  refine wq_seq ?_
                  obtain ⟨a', c', ee, _, _, hf⟩ := (HL.row_rd).form
                  have ea : az = a' := by injection ee
                  subst ea
                  obtain ⟨b0, o0, rfl, _⟩ := hf (by omega)
                  refine wc_region ?_
                  refine wl_val ((by first | exact r_field0 0 Tryd.underlying46 rfl rfl Tryd.sizeOf22 (by decide) rfl | exact r_field 0 Tryd.underlying46 rfl rfl Tryd.sizeOf22 (by decide) rfl)) (by decide) ?_
                  refine wl_val (r_load (plain_of Tryd.underlying22 rfl) rfl (cell_of_blk HL.swap.get.2 rfl)) (by decide) ?_
                  refine wl_val (r_move rfl) (by decide) ?_
                  refine wl_val (r_index Tryd.underlying22 Tryd.sizeOf21 rfl rfl (by omega)) (by decide) ?_
                  refine wl_eff0 (e_store_elem (i := k) HL Tryd.sizeOf21 rfl rfl (by omega) (by omega)) ?_
                  rintro _ w26 H26
                  have HN := H26
                  refine wl_nil ?_
                  refine wq_block_normal ?_
                  refine wq_seq ?_
                  refine wc_region ?_
                  refine wl_val (r_add rfl rfl (by omega)) (by decide) ?_
                  refine wl_val (r_move rfl) (by decide) ?_
                  refine wl_nil ?_
                  refine wq_round ((k + 1, z.set k 63)) ?_ ?_ ?_ ?_
                  · exact (Sub.cons rfl (Sub.nil _))
                  · exact (Sub.cons rfl (Sub.cons rfl (Sub.cons rfl (Sub.cons rfl (Sub.nil _)))))
                  · exact ⟨by omega, by simp only [List.length_set]; exact hz, HN⟩
                  · (try dsimp only); omega
              · (try simp only [beq_iff_eq, bne_iff_ne, ne_eq, decide_eq_true_eq, decide_eq_false_iff_not, beq_eq_false_iff_ne, bne_eq_false_iff_eq, Bool.not_eq_true', Bool.not_eq_false', Bool.not_eq_eq_eq_not, Bool.not_true, Bool.not_false, gt_iff_lt, ge_iff_le, Int.not_lt, Int.not_le] at h7)
                try (exfalso; first | contradiction | omega)
                all_goals
                  
                  refine wc_exit ?_
                  refine wq_then_exit ?_
                  refine wq_then_exit ?_
                  refine wq_block_hit ?_
                  refine wq_seq ?_
                  refine wc_seq ?_
                  have H37 := HL.right.right
                  refine wc_region ?_
                  refine wl_val (r_move rfl) (by decide) ?_
                  refine wl_val (r_move rfl) (by decide) ?_
                  refine wl_eff (e_call (r_call rfl Tryd.func22 rfl rfl) (is_same_ret H37)) (by decide) ?_
                  rintro _ w27 ⟨rfl, H27⟩
                  refine wl_val (r_assign rfl) (by decide) ?_
                  refine wl_nil ?_
                  refine wq_seq ?_
                  refine wc_ret ?_
                  refine wq_end1 (.inl rfl) Tryd.results4 rfl ?_
                  exact ⟨rfl, H27.base⟩
theorem mvP_nat (n : Nat) (x : Int) : ∃ Q : Nat, mvP n n x = Q ∧ Q ≤ n := by
  unfold mvP
  by_cases h : 0 ≤ x ∧ x ≤ n
  · exact ⟨x.toNat, by rw [if_pos h]; omega, by omega⟩
  · exact ⟨n, by rw [if_neg h], Nat.le_refl _⟩
theorem buffer_own (hT : Tabs w) (g : RdI w .i32 v l) (gm : RdI w .i32 vm m) (hb : l.length ≤ 35184372088832) (hmb : m.length ≤ 35184372088832) :
    Ret Tryd.prog 4 #[v, vm, .int .i64 x] w fun v w' => v = .bool true ∧ Below w.heap.size w w' := by
  by_cases hl : 1024 < l.length
  · exact own_long hT g hb hl
  obtain ⟨Q, hQ, hQL⟩ := mvP_nat l.length x
  by_cases hm : 1024 < l.length + m.length
  · exact own_much hT g gm (by omega) hQ hQL hm hmb
  · exact own_ok hT g gm (by omega) hQ hQL (by omega)
end
end Go.Proofs.YtlldaaamdchkdaaDoor
