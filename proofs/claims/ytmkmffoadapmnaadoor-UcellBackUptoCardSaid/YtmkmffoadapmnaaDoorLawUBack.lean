/- UcellBack, walked. -/
import Derived.Test.YtmkmffoadapmnaaDoorULive
import Derived.Test.YtmkmffoadapmnaaDoorUBackM
set_option linter.unusedSimpArgs false
set_option linter.unusedVariables false
namespace Go.Proofs.YtmkmffoadapmnaaDoor
open Go.RowKit
def goodR (l : List Int) : List Int := l.filter validM
theorem good_valid {l : List Int} : ∀ r ∈ goodR l, validM r = true := fun r h => (List.mem_filter.1 h).2
theorem good_snoc {l : List Int} {k : Nat} (h : k < l.length) : goodR (l.take (k + 1)) = goodR (l.take k) ++ (if validM (l.getD k 0) = true then [l.getD k 0] else []) := by
  rw [List.take_succ_eq_append_getElem h, goodR, List.filter_append, ← goodR, List.getD_eq_getElem?_getD, List.getElem?_eq_getElem h]
  congr 1
  show List.filter validM [l[k]] = if validM l[k] = true then [l[k]] else []
  by_cases q : validM l[k] = true
  · rw [if_pos q]; simp [q]
  · rw [if_neg q]; simp [q]
theorem good_len (l : List Int) : (goodR l).length ≤ l.length := List.length_filter_le _ _
theorem good_take_len (l : List Int) (k : Nat) : (goodR (l.take k)).length ≤ l.length := by have := good_len (l.take k); rw [List.length_take] at this; omega
theorem runs_valid {l : List Int} (h : ∀ r ∈ l, validM r = true) : Runs32 l := fun x hx => valid_32 (h x hx)
theorem ucell_back {w : World} {v u : Value} {b l : List Int} (hT : Tabs w) (hU : UTabs w) (g2 : RdI w .i32 v l) (g : RdI w .u8 u b) (hb : Byts b) (hbL : b.length ≤ 4294967296) (hL : l.length ≤ 4294967296) :
    Ret Tryd.prog 10 #[v, u] w fun v w' => v = .bool true ∧ Below w.heap.size w w' := by
  obtain ⟨F, H⟩ : ∃ F, Holds w w F := ⟨_, Holds.start w⟩
  have hv : FRdI w F .i32 v l := FRdI.of_start g2 F
  have hu : FRdI w F .u8 u b := FRdI.of_start g F
  obtain ⟨_, cv, _, hcv1, hcv2, _⟩ := g2.open
  have hgl := good_len l
  have hgb := bytesM_le (goodR l)
  have hgr := runs_valid (good_valid (l := l))
  have hgy := bytesM_byts (goodR l)
  have hsv := runesM_valid hb
  have hsl := runesM_len b
  have hsb := bytesM_le (runesM b)
  have hsr := runs_valid hsv
  have hsy := bytesM_byts (runesM b)
  refine ret_enter Tryd.func10 rfl Tryd.ntmps10 (Nat.le_of_ble_eq_true rfl) ?_
  dsimp only [slots0, Nat.reduceAdd]
  refine wc_seq ?_
  refine wc_region ?_
  refine wl_val (r_assign rfl) (ltn rfl) ?_
  refine wl_nil ?_
  refine wq_seq ?_
  refine wc_seq ?_
  refine wc_region ?_
  refine wl_val (r_assign rfl) (ltn rfl) ?_
  refine wl_nil ?_
  refine wq_seq ?_
  refine wc_seq ?_
  refine wc_seq ?_
  refine wc_region ?_
  refine wl_val (r_move rfl) (ltn rfl) ?_
  refine wl_val (r_lenR (hv _ (H)) Tryd.underlying22 rfl) (ltn rfl) ?_
  refine wl_val (r_move rfl) (ltn rfl) ?_
  refine wl_nil ?_
  refine wq_seq ?_
  refine wc_block ?_
  refine wc_loop [(1, _), (9, _), (10, _)] (fun (⟨k, gu⟩ : Nat × Value) => [(11, .int .i64 (k : Int)), (5, gu)]) (fun (⟨k, gu⟩ : Nat × Value) W => k ≤ l.length ∧ Holds w W (RowI 21 .i32 gu (goodR (l.take k)) • F)) (fun (⟨k, gu⟩ : Nat × Value) => l.length - k) ((0, .slice none 0 0)) (Sub.cons rfl (Sub.cons rfl (Sub.cons rfl (Sub.nil _)))) (Sub.cons rfl (Sub.cons rfl (Sub.nil _))) ⟨by omega, (H).row_nil none⟩ ?_
  rintro ⟨k, gu⟩ w1 ⟨hk, HL⟩
  dsimp only [List.cons_append, List.nil_append]
  refine wc_seq ?_
  refine wc_region ?_
  refine wl_val (r_lss rfl rfl) (ltn rfl) ?_
  refine wl_nil ?_
  refine wq_seq ?_
  refine wc_seq ?_
  refine wc_cond rfl (fun h1 => ?_) (fun h1 => ?_)
  · (try simp only [beq_iff_eq, bne_iff_ne, ne_eq, decide_eq_true_eq, decide_eq_false_iff_not, beq_eq_false_iff_ne, bne_eq_false_iff_eq, Bool.not_eq_true', Bool.not_eq_false', Bool.not_eq_eq_eq_not, Bool.not_true, Bool.not_false, gt_iff_lt, ge_iff_le, Int.not_lt, Int.not_le] at h1)
    
    refine wc_skip ?_
    refine wq_seq ?_
    refine wc_seq ?_
    refine wc_block ?_
    refine wc_seq ?_
    have hkl : k < l.length := by omega
    have hgt := good_take_len l k
    refine wc_region ?_
    obtain ⟨bv, ov, cv, ev⟩ := RdI.posV (hv _ (HL.right)) (by omega)
    cases ev
    refine wl_val (r_index Tryd.underlying22 Tryd.sizeOf21 rfl rfl (by omega)) (ltn rfl) ?_
    refine wl_val (r_load (plain_of Tryd.underlying21 rfl) rfl (by first | exact RdI.at1n (hv _ (HL.right)) (by omega) | exact RdI.at0 (hv _ (HL.right)) (by omega) | exact RdI.at1 (hv _ (HL.right)) (by omega))) (ltn rfl) ?_
    refine wl_val (r_assign rfl) (ltn rfl) ?_
    refine wl_nil ?_
    refine wq_seq ?_
    refine wc_seq ?_
    refine wc_region ?_
    refine wl_val (r_move rfl) (ltn rfl) ?_
    refine wl_eff (e_call (r_call rfl Tryd.func18 rfl rfl) (ref_rune_ret)) (ltn rfl) ?_
    rintro _ _ ⟨rfl, rfl⟩
    refine wl_nil ?_
    refine wq_seq ?_
    refine wc_cond rfl (fun h2 => ?_) (fun h2 => ?_)
    · (try simp only [beq_iff_eq, bne_iff_ne, ne_eq, decide_eq_true_eq, decide_eq_false_iff_not, beq_eq_false_iff_ne, bne_eq_false_iff_eq, Bool.not_eq_true', Bool.not_eq_false', Bool.not_eq_eq_eq_not, Bool.not_true, Bool.not_false, gt_iff_lt, ge_iff_le, Int.not_lt, Int.not_le] at h2)
      have hgd : validM (l.getD k 0) = true := by simpa using h2
      refine wc_region ?_
      refine wl_val (r_move rfl) (ltn rfl) ?_
      refine wl_val (r_move rfl) (ltn rfl) ?_
      refine wl_eff (e_lit_ints (k := .i32) (l := [_]) HL Tryd.underlying22 Tryd.sizeOf21 Tryd.zeroValue21 rfl rfl rfl (by decide)) (ltn rfl) ?_
      rintro l3 w3 H3
      refine wl_eff (e_append_ints H3.f2 ((H3).row_rd) Tryd.underlying22 (show (Tryd.prog.info? 21).map (fun i => (i.zero, i.size, i.bytes)) = some (some (.int .i32 0), 1, 4) by kernel_rfl) rfl rfl (by first | omega | (simp only [List.length_append, List.length_nil, List.length_cons]; omega) | (simp; omega)) (by first | omega | (simp only [List.length_append, List.length_nil, List.length_cons]; omega) | (simp; omega))) (ltn rfl) ?_
      rintro l4 w4 H4
      try simp only [List.nil_append] at H4
      refine wl_val (r_assign rfl) (ltn rfl) ?_
      refine wl_nil ?_
      refine wq_block_normal ?_
      refine wq_seq ?_
      refine wc_region ?_
      refine wl_val (r_add rfl rfl (by omega)) (ltn rfl) ?_
      refine wl_val (r_move rfl) (ltn rfl) ?_
      refine wl_nil ?_
      refine wq_round ((k + 1, l4)) ?_ ?_ ?_ ?_
      · exact (Sub.cons rfl (Sub.cons rfl (Sub.nil _)))
      · exact (Sub.cons rfl (Sub.cons rfl (Sub.cons rfl (Sub.nil _))))
      · (try dsimp only)
        exact ⟨by omega, by rw [good_snoc hkl]; (first | rw [if_neg hgd, List.append_nil] | rw [if_pos hgd]); exact H4.f2.right⟩
      · (try dsimp only); omega
    · (try simp only [beq_iff_eq, bne_iff_ne, ne_eq, decide_eq_true_eq, decide_eq_false_iff_not, beq_eq_false_iff_ne, bne_eq_false_iff_eq, Bool.not_eq_true', Bool.not_eq_false', Bool.not_eq_eq_eq_not, Bool.not_true, Bool.not_false, gt_iff_lt, ge_iff_le, Int.not_lt, Int.not_le] at h2)
      have hgd : ¬ validM (l.getD k 0) = true := by simpa using h2
      refine wc_skip ?_
      refine wq_block_normal ?_
      refine wq_seq ?_
      refine wc_region ?_
      refine wl_val (r_add rfl rfl (by omega)) (ltn rfl) ?_
      refine wl_val (r_move rfl) (ltn rfl) ?_
      refine wl_nil ?_
      refine wq_round ((k + 1, gu)) ?_ ?_ ?_ ?_
      · exact (Sub.cons rfl (Sub.cons rfl (Sub.nil _)))
      · exact (Sub.cons rfl (Sub.cons rfl (Sub.cons rfl (Sub.nil _))))
      · (try dsimp only)
        exact ⟨by omega, by rw [good_snoc hkl]; (first | rw [if_neg hgd, List.append_nil] | rw [if_pos hgd]); exact HL⟩
      · (try dsimp only); omega
  · (try simp only [beq_iff_eq, bne_iff_ne, ne_eq, decide_eq_true_eq, decide_eq_false_iff_not, beq_eq_false_iff_ne, bne_eq_false_iff_eq, Bool.not_eq_true', Bool.not_eq_false', Bool.not_eq_eq_eq_not, Bool.not_true, Bool.not_false, gt_iff_lt, ge_iff_le, Int.not_lt, Int.not_le] at h1)
    
    refine wc_exit ?_
    refine wq_then_exit ?_
    refine wq_then_exit ?_
    refine wq_block_hit ?_
    refine wq_seq ?_
    refine wc_seq ?_
    obtain rfl : k = l.length := by omega
    rw [List.take_length] at HL
    refine wc_region ?_
    refine wl_val (r_move rfl) (ltn rfl) ?_
    refine wl_eff (e_call (r_call rfl Tryd.func27 rfl rfl) (runes_ret HL (by assumption) (fun W HW => hu _ (HW.right)) (by assumption) (by omega))) (ltn rfl) ?_
    rintro u5 w5 H5
    refine wl_val (r_assign rfl) (ltn rfl) ?_
    refine wl_nil ?_
    refine wq_seq ?_
    refine wc_seq ?_
    refine wc_region ?_
    refine wl_eff (e_call (r_call rfl Tryd.func13 rfl rfl) (ulive_ret H5 hT hU)) (ltn rfl) ?_
    rintro _ w6 ⟨rfl, H6⟩
    refine wl_val (r_move rfl) (ltn rfl) ?_
    refine wl_yes rfl rfl ?_
    refine wl_val (r_move rfl) (ltn rfl) ?_
    refine wl_yes rfl rfl ?_
    refine wl_eff (e_call (r_call rfl Tryd.func36 rfl rfl) (bytes_ret H6 (fun W HW => (HW.f2).row_rd) (by assumption) (by omega))) (ltn rfl) ?_
    rintro u7 w7 H7
    refine wl_yes rfl rfl ?_
    refine wl_eff (e_call (r_call rfl Tryd.func27 rfl rfl) (runes_ret H7 (by assumption) (fun W HW => (HW).row_rd) (by assumption) (by omega))) (ltn rfl) ?_
    rintro u8 w8 H8
    refine wl_yes rfl rfl ?_
    refine wl_val (r_move rfl) (ltn rfl) ?_
    refine wl_yes rfl rfl ?_
    refine wl_eff (e_call (r_call rfl Tryd.func21 rfl rfl) (equal_ret _ _ _ _ _ ((H8).row_rd) ((H8.f4).row_rd))) (ltn rfl) ?_
    rintro _ w9 ⟨rfl, hD9⟩
    have HD9 := H8.drewn hD9
    refine wl_val (r_pick_t rfl rfl) (ltn rfl) ?_
    refine wl_split rfl (ltn rfl) (fun h3 => ?_) (fun h => by exfalso; (try simp only [beq_iff_eq, bne_iff_ne, ne_eq, decide_eq_true_eq, decide_eq_false_iff_not, beq_eq_false_iff_ne, bne_eq_false_iff_eq, Bool.not_eq_true', Bool.not_eq_false', Bool.not_eq_eq_eq_not, Bool.not_true, Bool.not_false, gt_iff_lt, ge_iff_le, Int.not_lt, Int.not_le] at h); simp [runes_bytes good_valid] at h)
    (try simp only [beq_iff_eq, bne_iff_ne, ne_eq, decide_eq_true_eq, decide_eq_false_iff_not, beq_eq_false_iff_ne, bne_eq_false_iff_eq, Bool.not_eq_true', Bool.not_eq_false', Bool.not_eq_eq_eq_not, Bool.not_true, Bool.not_false, gt_iff_lt, ge_iff_le, Int.not_lt, Int.not_le] at h3)
    refine wl_yes rfl rfl ?_
    refine wl_val (r_move rfl) (ltn rfl) ?_
    refine wl_yes rfl rfl ?_
    refine wl_eff (e_call (r_call rfl Tryd.func36 rfl rfl) (bytes_ret HD9 (fun W HW => (HW.f3).row_rd) (by assumption) (by omega))) (ltn rfl) ?_
    rintro u10 w10 H10
    refine wl_yes rfl rfl ?_
    refine wl_eff (e_call (r_call rfl Tryd.func27 rfl rfl) (runes_ret H10 (by assumption) (fun W HW => (HW).row_rd) (by assumption) (by omega))) (ltn rfl) ?_
    rintro u11 w11 H11
    refine wl_yes rfl rfl ?_
    refine wl_val (r_move rfl) (ltn rfl) ?_
    refine wl_yes rfl rfl ?_
    refine wl_eff (e_call (r_call rfl Tryd.func21 rfl rfl) (equal_ret _ _ _ _ _ ((H11).row_rd) ((H11.f5).row_rd))) (ltn rfl) ?_
    rintro _ w12 ⟨rfl, hD12⟩
    have HD12 := H11.drewn hD12
    refine wl_val (r_pick_t rfl rfl) (ltn rfl) ?_
    refine wl_split rfl (ltn rfl) (fun h4 => ?_) (fun h => by exfalso; (try simp only [beq_iff_eq, bne_iff_ne, ne_eq, decide_eq_true_eq, decide_eq_false_iff_not, beq_eq_false_iff_ne, bne_eq_false_iff_eq, Bool.not_eq_true', Bool.not_eq_false', Bool.not_eq_eq_eq_not, Bool.not_true, Bool.not_false, gt_iff_lt, ge_iff_le, Int.not_lt, Int.not_le] at h); simp [runes_bytes hsv] at h)
    (try simp only [beq_iff_eq, bne_iff_ne, ne_eq, decide_eq_true_eq, decide_eq_false_iff_not, beq_eq_false_iff_ne, bne_eq_false_iff_eq, Bool.not_eq_true', Bool.not_eq_false', Bool.not_eq_eq_eq_not, Bool.not_true, Bool.not_false, gt_iff_lt, ge_iff_le, Int.not_lt, Int.not_le] at h4)
    refine wl_yes rfl rfl ?_
    refine wl_val (r_move rfl) (ltn rfl) ?_
    refine wl_yes rfl rfl ?_
    refine wl_val (r_lenR ((HD12.f5).row_rd) Tryd.underlying22 rfl) (ltn rfl) ?_
    refine wl_yes rfl rfl ?_
    refine wl_val (r_move rfl) (ltn rfl) ?_
    refine wl_yes rfl rfl ?_
    refine wl_val (r_lenR (hu _ (HD12.right.right.right.right.right.right)) Tryd.underlying39 rfl) (ltn rfl) ?_
    refine wl_yes rfl rfl ?_
    refine wl_val (r_known_t (r_leq rfl rfl) (by simp; omega)) (ltn rfl) ?_
    refine wl_val (r_pick_t rfl rfl) (ltn rfl) ?_
    refine wl_val (r_assign rfl) (ltn rfl) ?_
    refine wl_nil ?_
    refine wq_seq ?_
    refine wc_ret ?_
    refine wq_end1 (.inl rfl) Tryd.results10 rfl ?_
    exact ⟨rfl, HD12.base⟩
end Go.Proofs.YtmkmffoadapmnaaDoor
