/- The buffer's Insert; the answers that the document fixes. -/
import Derived.Test.YtlldaaamdchkdaaDoorBuf3
import Derived.Test.YtlldaaamdchkdaaDoorMove
set_option linter.unusedSimpArgs false
set_option linter.unusedVariables false
namespace Go.Proofs.YtlldaaamdchkdaaDoor
open Go.RowKit
section
variable {w0 w : World} {F : HP} {p : Nat} {L : List Int} {pt mk : Int} {v : Value} {l : List Int}
theorem buf_insert_ret {q : Nat} (H : Holds w0 w (BufRep p L pt mk • F)) (hq : pt = q) (hr : FRdI w0 F .i32 v l) (hl : L.length + l.length ≤ 1024) :
    Ret Tryd.prog 19 #[.pointer (some ⟨p, 0, none⟩), v] w fun v' w' => ∃ d s, v' = .tuple #[.agg (edCells q d s), .int .i64 0] ∧
      Holds w0 w' (RowI 21 .i32 d [] • RowI 21 .i32 s l • BufRep p (L.take q ++ l ++ L.drop q) (movedP pt q q l.length) (movedM mk q q l.length) • F) := by
  subst hq
  have hqL : q ≤ L.length := by obtain ⟨a, c, xs, f, t, h1, h2, h3, h4, h5, h6, h7, hc1, hc2, hl, H1⟩ := H.buf; omega
  obtain ⟨a, c, rfl, hac, hac2, _⟩ := (hr w H.right).open
  refine ret_enter Tryd.func19 rfl Tryd.ntmps19 (Nat.le_of_ble_eq_true rfl) ?_
  dsimp only [slots0, Nat.reduceAdd]
  refine wc_seq ?_
  refine wc_region ?_
  refine wl_eff (e_alloc H Tryd.zeroValue24) (ltn rfl) ?_
  rintro _ w1 ⟨b1, rfl, H1⟩
  refine wl_val (r_assign rfl) (ltn rfl) ?_
  refine wl_nil ?_
  refine wq_seq ?_
  refine wc_seq ?_
  refine wc_region ?_
  refine wl_val (r_move rfl) (ltn rfl) ?_
  refine wl_val (r_move rfl) (ltn rfl) ?_
  refine wl_eff (e_call (r_call rfl Tryd.func23 rfl rfl) (buf_point_ret H1.swap)) (ltn rfl) ?_
  rintro _ _ ⟨rfl, rfl⟩
  refine wl_val (r_move rfl) (ltn rfl) ?_
  refine wl_eff (e_call (r_call rfl Tryd.func23 rfl rfl) (buf_point_ret H1.swap)) (ltn rfl) ?_
  rintro _ _ ⟨rfl, rfl⟩
  refine wl_val (r_move rfl) (ltn rfl) ?_
  refine wl_eff (e_call (r_call rfl Tryd.func13 rfl rfl) (buf_replace_ok H1.swap hr.under ⟨Nat.le_refl _, hqL⟩ (by omega))) (ltn rfl) ?_
  rintro _ w4 ⟨d, s, rfl, H4⟩
  refine wl_val (r_extract rfl rfl) (ltn rfl) ?_
  refine wl_val (r_extract rfl rfl) (ltn rfl) ?_
  refine wl_eff0 (e_store_whole (cs := edCells q d s) H4.r4 Tryd.sizeOf24 rfl rfl rfl rfl (ed_ones H4.row_rd.one H4.swap.row_rd.one)) ?_
  rintro _ w5 H5
  refine wl_val (r_assign rfl) (ltn rfl) ?_
  refine wl_nil ?_
  refine wq_seq ?_
  refine wc_ret ?_
  refine wq_endCT (.inl rfl) Tryd.results19 rfl rfl Tryd.underlying24 rfl (by rw [show (Tryd.prog.info? 24).map (·.size) = some 3 from by kernel_rfl]; rfl) H5.get.2 ?_
  exact ⟨d, s, rfl, by simpa using H5.right⟩
theorem runes_of_ret {s : ByteArray} (H : Holds w0 w F) (hl : Conv.runesFrom s s.size 0 #[] = (l.map (Value.int .i32)).toArray) (hb : l.length ≤ 70368744177664) :
    Ret Tryd.prog 50 #[.string s] w fun v w' => Holds w0 w' (RowI 21 .i32 v l • F) := by
  refine ret_enter Tryd.func50 rfl Tryd.ntmps50 (Nat.le_of_ble_eq_true rfl) ?_
  dsimp only [slots0, Nat.reduceAdd]
  refine wc_seq ?_
  refine wc_region ?_
  refine wl_val (r_assign rfl) (ltn rfl) ?_
  refine wl_nil ?_
  refine wq_seq ?_
  refine wc_seq ?_
  refine wc_region ?_
  refine wl_val (r_move rfl) (ltn rfl) ?_
  refine wl_eff (e_str_runes H Tryd.underlying9 Tryd.underlying22 Tryd.underlying21 rfl hl hb) (ltn rfl) ?_
  rintro u w1 H1
  refine wl_val (r_assign rfl) (ltn rfl) ?_
  refine wl_nil ?_
  refine wq_seq ?_
  refine wc_ret ?_
  refine wq_end1 (.inl rfl) Tryd.results50 rfl ?_
  exact H1
theorem live_ret (H : Holds w0 w F) (hT : Tabs w0) : Ret Tryd.prog 12 #[] w fun v w' => v = .bool true ∧ Holds w0 w' F := by
  refine ret_enter Tryd.func12 rfl Tryd.ntmps12 (Nat.le_of_ble_eq_true rfl) ?_
  dsimp only [slots0, Nat.reduceAdd]
  refine wc_seq ?_
  refine wc_region ?_
  refine wl_val (r_assign rfl) (ltn rfl) ?_
  refine wl_nil ?_
  refine wq_seq ?_
  refine wc_seq ?_
  refine wc_region ?_
  refine wl_eff (e_lit (vs := [.int .i32 97, .int .i32 98]) H Tryd.underlying22 Tryd.sizeOf21 Tryd.zeroValue21 rfl rfl rfl (by decide) (by simp [Value.oneCell'])) (ltn rfl) ?_
  rintro _ w1 ⟨ba, rfl, H1⟩
  refine wl_eff (e_call (r_call rfl Tryd.func11 rfl rfl) (buf_new_ret H1 (lit_frd (k := .i32) [97, 98] (by decide)) (by decide))) (ltn rfl) ?_
  rintro _ w2 ⟨p, rfl, H2⟩
  refine wl_val (r_move rfl) (ltn rfl) ?_
  refine wl_val (r_extract rfl rfl) (ltn rfl) ?_
  refine wl_val (r_extract rfl rfl) (ltn rfl) ?_
  refine wl_val (r_assign rfl) (ltn rfl) ?_
  refine wl_val (r_assign rfl) (ltn rfl) ?_
  refine wl_nil ?_
  refine wq_seq ?_
  refine wc_seq ?_
  refine wc_seq ?_
  refine wc_region ?_
  refine wl_val (r_move rfl) (ltn rfl) ?_
  refine wl_val (r_neq rfl rfl) (ltn rfl) ?_
  refine wl_split rfl (ltn rfl) (fun h => by exfalso; (try simp only [beq_iff_eq, bne_iff_ne, ne_eq, decide_eq_true_eq, decide_eq_false_iff_not, beq_eq_false_iff_ne, bne_eq_false_iff_eq, Bool.not_eq_true', Bool.not_eq_false', Bool.not_eq_eq_eq_not, Bool.not_true, Bool.not_false, gt_iff_lt, ge_iff_le, Int.not_lt, Int.not_le] at h); first | contradiction | omega | (simp at h <;> omega)) (fun h1 => ?_)
  (try simp only [beq_iff_eq, bne_iff_ne, ne_eq, decide_eq_true_eq, decide_eq_false_iff_not, beq_eq_false_iff_ne, bne_eq_false_iff_eq, Bool.not_eq_true', Bool.not_eq_false', Bool.not_eq_eq_eq_not, Bool.not_true, Bool.not_false, gt_iff_lt, ge_iff_le, Int.not_lt, Int.not_le] at h1)
  refine wl_yes rfl rfl ?_
  refine wl_val (r_move rfl) (ltn rfl) ?_
  refine wl_yes rfl rfl ?_
  refine wl_val (r_ptr_nil Tryd.underlying27 rfl rfl) (ltn rfl) ?_
  refine wl_val (r_pick_f rfl rfl) (ltn rfl) ?_
  refine wl_nil ?_
  refine wq_seq ?_
  refine wc_cond rfl (fun h => by exfalso; (try simp only [beq_iff_eq, bne_iff_ne, ne_eq, decide_eq_true_eq, decide_eq_false_iff_not, beq_eq_false_iff_ne, bne_eq_false_iff_eq, Bool.not_eq_true', Bool.not_eq_false', Bool.not_eq_eq_eq_not, Bool.not_true, Bool.not_false, gt_iff_lt, ge_iff_le, Int.not_lt, Int.not_le] at h); simp at h) (fun h2 => ?_)
  (try simp only [beq_iff_eq, bne_iff_ne, ne_eq, decide_eq_true_eq, decide_eq_false_iff_not, beq_eq_false_iff_ne, bne_eq_false_iff_eq, Bool.not_eq_true', Bool.not_eq_false', Bool.not_eq_eq_eq_not, Bool.not_true, Bool.not_false, gt_iff_lt, ge_iff_le, Int.not_lt, Int.not_le] at h2)
  refine wc_skip ?_
  refine wq_seq ?_
  refine wc_seq ?_
  refine wc_region ?_
  refine wl_val (r_move rfl) (ltn rfl) ?_
  refine wl_eff (e_lit (vs := [.int .i32 99]) H2 Tryd.underlying22 Tryd.sizeOf21 Tryd.zeroValue21 rfl rfl rfl (by decide) (by simp [Value.oneCell'])) (ltn rfl) ?_
  rintro _ w3 ⟨bc, rfl, H3⟩
  refine wl_eff (e_call (r_call rfl Tryd.func19 rfl rfl) (buf_insert_ret (q := 2) H3.swap rfl (lit_frd (k := .i32) [99] (by decide)) (by decide))) (ltn rfl) ?_
  rintro _ w4 ⟨d, s, rfl, H4⟩
  refine wl_val (r_move rfl) (ltn rfl) ?_
  refine wl_val (r_extract rfl rfl) (ltn rfl) ?_
  refine wl_val (r_extract rfl rfl) (ltn rfl) ?_
  refine wl_eff (e_alloc H4 Tryd.zeroValue24) (ltn rfl) ?_
  rintro _ w5 ⟨b5, rfl, H5⟩
  refine wl_eff0 (e_store_whole (cs := edCells 2 d s) H5 Tryd.sizeOf24 rfl rfl rfl rfl (ed_ones H5.swap.row_rd.one H5.rot.row_rd.one)) ?_
  rintro _ w6 H6
  refine wl_val (r_assign rfl) (ltn rfl) ?_
  refine wl_nil ?_
  refine wq_seq ?_
  refine wc_seq ?_
  refine wc_region ?_
  refine wl_val (r_move rfl) (ltn rfl) ?_
  refine wl_val (r_eql rfl rfl) (ltn rfl) ?_
  refine wl_split rfl (ltn rfl) (fun h3 => ?_) (fun h => by exfalso; (try simp only [beq_iff_eq, bne_iff_ne, ne_eq, decide_eq_true_eq, decide_eq_false_iff_not, beq_eq_false_iff_ne, bne_eq_false_iff_eq, Bool.not_eq_true', Bool.not_eq_false', Bool.not_eq_eq_eq_not, Bool.not_true, Bool.not_false, gt_iff_lt, ge_iff_le, Int.not_lt, Int.not_le] at h); first | contradiction | omega | (simp at h <;> omega))
  (try simp only [beq_iff_eq, bne_iff_ne, ne_eq, decide_eq_true_eq, decide_eq_false_iff_not, beq_eq_false_iff_ne, bne_eq_false_iff_eq, Bool.not_eq_true', Bool.not_eq_false', Bool.not_eq_eq_eq_not, Bool.not_true, Bool.not_false, gt_iff_lt, ge_iff_le, Int.not_lt, Int.not_le] at h3)
  refine wl_yes rfl rfl ?_
  refine wl_val ((by first | exact r_field0 0 Tryd.underlying24 rfl rfl Tryd.sizeOf3 (by decide) rfl | exact r_field 0 Tryd.underlying24 rfl rfl Tryd.sizeOf3 (by decide) rfl)) (ltn rfl) ?_
  refine wl_yes rfl rfl ?_
  refine wl_val (r_load (plain_of Tryd.underlying3 rfl) rfl (cell_of_blk H6.get.2 rfl)) (ltn rfl) ?_
  refine wl_yes rfl rfl ?_
  refine wl_val (r_known_t (r_eql rfl rfl) (by decide)) (ltn rfl) ?_
  refine wl_val (r_pick_t rfl rfl) (ltn rfl) ?_
  refine wl_val (r_move rfl) (ltn rfl) ?_
  refine wl_yes rfl rfl ?_
  refine wl_val (r_move rfl) (ltn rfl) ?_
  refine wl_yes rfl rfl ?_
  refine wl_eff (e_call (r_call rfl Tryd.func45 rfl rfl) (buf_len_ret H6.r4)) (ltn rfl) ?_
  rintro _ w7 ⟨rfl, hD⟩
  have HE := H6.r4.drewn hD
  refine wl_yes rfl rfl ?_
  refine wl_val (r_known_t (r_eql rfl rfl) (by decide)) (ltn rfl) ?_
  refine wl_val (r_pick_t rfl rfl) (ltn rfl) ?_
  refine wl_val (r_move rfl) (ltn rfl) ?_
  refine wl_yes rfl rfl ?_
  refine wl_val (r_move rfl) (ltn rfl) ?_
  refine wl_yes rfl rfl ?_
  refine wl_eff (e_call (r_call rfl Tryd.func23 rfl rfl) (buf_point_ret HE)) (ltn rfl) ?_
  rintro _ _ ⟨rfl, rfl⟩
  refine wl_yes rfl rfl ?_
  refine wl_val (r_known_t (r_eql rfl rfl) (by decide)) (ltn rfl) ?_
  refine wl_val (r_pick_t rfl rfl) (ltn rfl) ?_
  refine wl_val (r_move rfl) (ltn rfl) ?_
  refine wl_yes rfl rfl ?_
  refine wl_val (r_move rfl) (ltn rfl) ?_
  refine wl_yes rfl rfl ?_
  refine wl_eff (e_call (r_call rfl Tryd.func46 rfl rfl) (buf_mark_ret HE)) (ltn rfl) ?_
  rintro _ _ ⟨rfl, rfl⟩
  refine wl_yes rfl rfl ?_
  refine wl_val (r_known_t (r_eql rfl rfl) (by decide)) (ltn rfl) ?_
  refine wl_val (r_pick_t rfl rfl) (ltn rfl) ?_
  refine wl_val (r_move rfl) (ltn rfl) ?_
  refine wl_yes rfl rfl ?_
  refine wl_eff (e_call (r_call rfl Tryd.func50 rfl rfl) (runes_of_ret (l := [102, 111, 111, 32, 32, 98, 97, 114]) HE (by kernel_rfl) (by decide))) (ltn rfl) ?_
  rintro u w10 H10
  refine wl_yes rfl rfl ?_
  refine wl_eff (e_call (r_call rfl Tryd.func28 rfl rfl) (word_end_ret H10 hT (fun W HW => HW.row_rd))) (ltn rfl) ?_
  rintro _ w11 ⟨rfl, H11⟩
  refine wl_yes rfl rfl ?_
  refine wl_val (r_known_t (r_eql rfl rfl) (by decide +kernel)) (ltn rfl) ?_
  refine wl_val (r_pick_t rfl rfl) (ltn rfl) ?_
  refine wl_val (r_assign rfl) (ltn rfl) ?_
  refine wl_nil ?_
  refine wq_seq ?_
  refine wc_ret ?_
  refine wq_end1 (.inl rfl) Tryd.results12 rfl ?_
  exact ⟨rfl, H11.right.right.right.right.right.right.right⟩
end
end Go.Proofs.YtlldaaamdchkdaaDoor
