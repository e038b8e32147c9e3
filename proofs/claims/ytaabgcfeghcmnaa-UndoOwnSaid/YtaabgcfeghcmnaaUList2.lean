/- Lists of edits that are taken back: close, inverses, Undo. -/
import Derived.Test.YtaabgcfeghcmnaaUList
import Derived.Test.YtaabgcfeghcmnaaRange
set_option linter.unusedSimpArgs false
set_option linter.unusedVariables false
namespace Go.Proofs.Ytaabgcfeghcmnaa
open Go.RowKit
def closeG (G : List (List EdA)) (N : List EdA) : List (List EdA) := if N = [] then G else G ++ [N]
theorem closeG_nil {G : List (List EdA)} {N : List EdA} (h : N = []) : closeG G N = G := by unfold closeG; rw [if_pos h]
theorem closeG_snoc {G : List (List EdA)} {N : List EdA} (h : N ≠ []) : closeG G N = G ++ [N] := by unfold closeG; rw [if_neg h]
theorem uTot_close {G : List (List EdA)} {N : List EdA} : uTot (closeG G N) [] = uTot G N := by
  unfold closeG; split
  · rename_i h; rw [h]
  · simp [uTot]
section
variable {w0 w : World} {F : HP} {p : Nat} {G : List (List EdA)} {N : List EdA} {op : Int} {gv nv v : Value} {gs : List (Value × List BEd)} {now es : List BEd} {a : Int} {d z : Value} {dl il : List Int}
theorem undo_close_ret (H : Holds w0 w (UList p G N op • F)) : Ret Try.prog 55 #[.pointer (some ⟨p, 0, none⟩)] w fun _ w' => Holds w0 w' (UList p (closeG G N) [] 0 • F) := by
  refine ret_enter Try.func55 rfl Try.ntmps55 (Nat.le_of_ble_eq_true rfl) ?_
  dsimp only [slots0, Nat.reduceAdd]
  refine wc_seq ?_
  refine wc_seq ?_
  obtain ⟨gv_p, nv_p, gs_p, now_p, k1_p, k2_p, k3_p, k4_p, k5_p, k6_p, HU_p⟩ := (H).ulist
  refine wc_region ?_
  refine wl_val (r_move rfl) (ltn rfl) ?_
  refine wl_val (r_nil rfl) (ltn rfl) ?_
  refine wl_val ((by first | exact r_field0 0 Try.underlying72 rfl rfl Try.sizeOf70 (by decide) rfl | exact r_field 0 Try.underlying72 rfl rfl Try.sizeOf70 (by decide) rfl)) (ltn rfl) ?_
  refine wl_val ((by first | exact r_field0 1 Try.underlying70 rfl rfl Try.sizeOf39 (by decide) rfl | exact r_field 1 Try.underlying70 rfl rfl Try.sizeOf39 (by decide) rfl)) (ltn rfl) ?_
  refine wl_val (r_load (plain_of Try.underlying39 rfl) rfl (cell_of_blk (HU_p).get.2 rfl)) (ltn rfl) ?_
  refine wl_val (r_lenS ((HU_p.f4).row_rd) Try.underlying39 rfl) (ltn rfl) ?_
  refine wl_val (r_gtr rfl rfl) (ltn rfl) ?_
  refine wl_nil ?_
  refine wq_seq ?_
  refine wc_cond rfl (fun h1 => ?_) (fun h1 => ?_)
  · (try simp only [beq_iff_eq, bne_iff_ne, ne_eq, decide_eq_true_eq, decide_eq_false_iff_not, beq_eq_false_iff_ne, bne_eq_false_iff_eq, Bool.not_eq_true', Bool.not_eq_false', Bool.not_eq_eq_eq_not, Bool.not_true, Bool.not_false, gt_iff_lt, ge_iff_le, Int.not_lt, Int.not_le] at h1)
    have hnow : 0 < now_p.length := by omega
    have H1d1 := HU_p.drew
    have hS1d1 := Holds.kp (H1d1.f5.f5.f5.f5.f5)
    refine wd_beginK [5, 10] hS1d1 (by kernel_rfl) (by kernel_rfl) rfl ?_
    refine wd_takeT 0 rfl (by kernel_rfl) (by kernel_rfl) hS1d1 (fun _ => r_move rfl) (ltn rfl) ?_
    refine wd_takeT 1 rfl (by kernel_rfl) (by kernel_rfl) hS1d1 (fun _ => r_move rfl) (ltn rfl) ?_
    refine wd_takeT 2 rfl (by kernel_rfl) (by kernel_rfl) hS1d1 (fun _ => r_nil rfl) (ltn rfl) ?_
    refine wd_takeT 3 rfl (by kernel_rfl) (by kernel_rfl) hS1d1 (fun _ => (by first | exact r_field0 0 Try.underlying72 rfl rfl Try.sizeOf70 (by decide) rfl | exact r_field 0 Try.underlying72 rfl rfl Try.sizeOf70 (by decide) rfl)) (ltn rfl) ?_
    refine wd_takeT 4 rfl (by kernel_rfl) (by kernel_rfl) hS1d1 (fun _ => (by first | exact r_field0 0 Try.underlying70 rfl rfl Try.sizeOf43 (by decide) rfl | exact r_field 0 Try.underlying70 rfl rfl Try.sizeOf43 (by decide) rfl)) (ltn rfl) ?_
    refine wd_take 5 rfl (by kernel_rfl) (by kernel_rfl) hS1d1 (by decide) (fun W hW => r_load (plain_of Try.underlying43 rfl) rfl (cell_of_blk ((Kp.h hW)).get.2 rfl)) (ltn rfl) ?_
    refine wd_takeT 6 rfl (by kernel_rfl) (by kernel_rfl) hS1d1 (fun _ => r_move rfl) (ltn rfl) ?_
    refine wd_takeT 7 rfl (by kernel_rfl) (by kernel_rfl) hS1d1 (fun _ => r_nil rfl) (ltn rfl) ?_
    refine wd_takeT 8 rfl (by kernel_rfl) (by kernel_rfl) hS1d1 (fun _ => (by first | exact r_field0 0 Try.underlying72 rfl rfl Try.sizeOf70 (by decide) rfl | exact r_field 0 Try.underlying72 rfl rfl Try.sizeOf70 (by decide) rfl)) (ltn rfl) ?_
    refine wd_takeT 9 rfl (by kernel_rfl) (by kernel_rfl) hS1d1 (fun _ => (by first | exact r_field0 1 Try.underlying70 rfl rfl Try.sizeOf39 (by decide) rfl | exact r_field 1 Try.underlying70 rfl rfl Try.sizeOf39 (by decide) rfl)) (ltn rfl) ?_
    refine wd_take 10 rfl (by kernel_rfl) (by kernel_rfl) hS1d1 (by decide) (fun W hW => r_load (plain_of Try.underlying39 rfl) rfl (cell_of_blk ((Kp.h hW)).get.2 rfl)) (ltn rfl) ?_
    refine wd_eff 11 rfl (by kernel_rfl) (e_lit_row (vs := [_]) H1d1 Try.underlying43 Try.sizeOf39 Try.zeroValue39 rfl rfl rfl (by decide) (ones_cons (by first | rfl | exact Rd.one ((H1d1.f4).row_rd)) ones_nil)) (ltn rfl) ?_
    rintro l2 w2 H2
    have hS2n := Holds.kp (H2.f6.f6.f6.f6.f6.f6)
    refine keepK hS2n (fun W hW => (Kp.h hW).right.f5.f5.f5.f5.f5) ?_
    refine wd_eff 12 rfl (by kernel_rfl) (e_append H2.f3 Try.underlying43 (show (Try.prog.info? 39).map (fun i => (i.zero, i.size, i.bytes)) = some (some (.slice none 0 0), 1, 24) by kernel_rfl) rfl rfl rfl ((H2).row_rd) (ones_cons (by first | rfl | exact Rd.one ((H2.f5).row_rd)) ones_nil) (by omega) (by omega)) (ltn rfl) ?_
    rintro l3 w3 H3
    have Hd4 := H3.f2.right
    have hS4n := Holds.kp (Hd4.f5.f5.f5.f5.f5)
    refine keepX hS4n (by kernel_rfl) ?_
    refine wd_takeT 13 rfl (by kernel_rfl) (by kernel_rfl) hS4n (fun _ => r_nil rfl) (ltn rfl) ?_
    refine wd_takeT 14 rfl (by kernel_rfl) (by kernel_rfl) hS4n (fun _ => (by first | exact r_field0 0 Try.underlying72 rfl rfl Try.sizeOf70 (by decide) rfl | exact r_field 0 Try.underlying72 rfl rfl Try.sizeOf70 (by decide) rfl)) (ltn rfl) ?_
    refine wd_takeT 15 rfl (by kernel_rfl) (by kernel_rfl) hS4n (fun _ => (by first | exact r_field0 0 Try.underlying70 rfl rfl Try.sizeOf43 (by decide) rfl | exact r_field 0 Try.underlying70 rfl rfl Try.sizeOf43 (by decide) rfl)) (ltn rfl) ?_
    refine wd_eff0 16 rfl (by kernel_rfl) (e_storeL 0 (l' := [_, _, _, _, _]) Hd4.f2 Try.sizeOf43 rfl rfl (by first | rfl | exact Rd.one ((Hd4).row_rd)) rfl rfl) ?_
    rintro _ w5 H5
    have hS5n := Holds.kp (H5.f5.f5.f5.f5.f5)
    refine keepX hS5n (by kernel_rfl) ?_
    refine wd_done (by kernel_rfl) ?_
    refine wq_seq ?_
    refine wc_region ?_
    refine wl_val (r_move rfl) (ltn rfl) ?_
    refine wl_val (r_move rfl) (ltn rfl) ?_
    refine wl_val (r_nil rfl) (ltn rfl) ?_
    refine wl_val ((by first | exact r_field0 0 Try.underlying72 rfl rfl Try.sizeOf70 (by decide) rfl | exact r_field 0 Try.underlying72 rfl rfl Try.sizeOf70 (by decide) rfl)) (ltn rfl) ?_
    refine wl_val ((by first | exact r_field0 1 Try.underlying70 rfl rfl Try.sizeOf39 (by decide) rfl | exact r_field 1 Try.underlying70 rfl rfl Try.sizeOf39 (by decide) rfl)) (ltn rfl) ?_
    refine wl_eff0 (e_storeL 1 (l' := [_, _, _, _, _]) H5 Try.sizeOf39 rfl rfl (by first | rfl | assumption) rfl rfl) ?_
    rintro _ w6 H6
    refine wl_val (r_nil rfl) (ltn rfl) ?_
    refine wl_val ((by first | exact r_field0 0 Try.underlying72 rfl rfl Try.sizeOf70 (by decide) rfl | exact r_field 0 Try.underlying72 rfl rfl Try.sizeOf70 (by decide) rfl)) (ltn rfl) ?_
    refine wl_val ((by first | exact r_field0 2 Try.underlying70 rfl rfl Try.sizeOf3 (by decide) rfl | exact r_field 2 Try.underlying70 rfl rfl Try.sizeOf3 (by decide) rfl)) (ltn rfl) ?_
    refine wl_eff0 (e_storeL 2 (l' := [_, _, _, _, _]) H6 Try.sizeOf3 rfl rfl (by first | rfl | assumption) rfl rfl) ?_
    rintro _ w7 H7
    refine wl_nil ?_
    refine wq_end0 (.inr rfl) Try.results55 ?_
    have hN : N ≠ [] := by rintro rfl; exact absurd k5_p (by simp only [List.length_nil]; omega)
    rw [closeG_snoc hN]
    have X := Holds.edL_freeze (v := nv_p) (es := now_p) (H7.f3.f3.f5.f5).deep
    have X4 := Holds.edLL_snoc X.swap
    refine Holds.mk_ulist (gv := l3) (nv := .slice none 0 0) (gs := gs_p ++ [(nv_p, now_p)]) (now := []) (ed := (uTot G N : Nat)) ⟨nn_snoc k1_p.1 hN, by rw [← closeG_snoc hN, uTot_close]; exact k1_p.2.1, by decide, by decide, EBs_snoc k1_p.2.2.2.2.1 k1_p.2.2.2.2.2, by simp⟩ (by rw [List.map_append, k2_p, ← k3_p]; rfl) rfl (by rw [← closeG_snoc hN, uTot_close]) ((X4.edL_nil none).of_eq (by ac_rfl))
  · (try simp only [beq_iff_eq, bne_iff_ne, ne_eq, decide_eq_true_eq, decide_eq_false_iff_not, beq_eq_false_iff_ne, bne_eq_false_iff_eq, Bool.not_eq_true', Bool.not_eq_false', Bool.not_eq_eq_eq_not, Bool.not_true, Bool.not_false, gt_iff_lt, ge_iff_le, Int.not_lt, Int.not_le] at h1)
    have hnow : now_p.length = 0 := by omega
    refine wc_skip ?_
    refine wq_seq ?_
    refine wc_region ?_
    refine wl_val (r_move rfl) (ltn rfl) ?_
    refine wl_val (r_move rfl) (ltn rfl) ?_
    refine wl_val (r_nil rfl) (ltn rfl) ?_
    refine wl_val ((by first | exact r_field0 0 Try.underlying72 rfl rfl Try.sizeOf70 (by decide) rfl | exact r_field 0 Try.underlying72 rfl rfl Try.sizeOf70 (by decide) rfl)) (ltn rfl) ?_
    refine wl_val ((by first | exact r_field0 1 Try.underlying70 rfl rfl Try.sizeOf39 (by decide) rfl | exact r_field 1 Try.underlying70 rfl rfl Try.sizeOf39 (by decide) rfl)) (ltn rfl) ?_
    refine wl_eff0 (e_storeL 1 (l' := [_, _, _, _, _]) HU_p Try.sizeOf39 rfl rfl (by first | rfl | assumption) rfl rfl) ?_
    rintro _ w8 H8
    refine wl_val (r_nil rfl) (ltn rfl) ?_
    refine wl_val ((by first | exact r_field0 0 Try.underlying72 rfl rfl Try.sizeOf70 (by decide) rfl | exact r_field 0 Try.underlying72 rfl rfl Try.sizeOf70 (by decide) rfl)) (ltn rfl) ?_
    refine wl_val ((by first | exact r_field0 2 Try.underlying70 rfl rfl Try.sizeOf3 (by decide) rfl | exact r_field 2 Try.underlying70 rfl rfl Try.sizeOf3 (by decide) rfl)) (ltn rfl) ?_
    refine wl_eff0 (e_storeL 2 (l' := [_, _, _, _, _]) H8 Try.sizeOf3 rfl rfl (by first | rfl | assumption) rfl rfl) ?_
    rintro _ w9 H9
    refine wl_nil ?_
    refine wq_end0 (.inr rfl) Try.results55 ?_
    have hN : N = [] := by rw [← k3_p, List.eq_nil_of_length_eq_zero hnow]; rfl
    subst hN
    rw [closeG_nil rfl]
    refine Holds.mk_ulist (gv := gv_p) (nv := .slice none 0 0) (gs := gs_p) (now := []) (ed := (uTot G [] : Nat)) ⟨k1_p.1, k1_p.2.1, by decide, by decide, k1_p.2.2.2.2⟩ k2_p rfl rfl (((H9.f4.right.f4.right.f3.f3).edL_nil none).of_eq (by unfold EdLL; ac_rfl))
theorem Holds.elK_dup (H : Holds w0 w (elK v es • F)) : Holds w0 w (elK v es • elK v es • F) := H.dup_know
theorem back_iter (b : Nat) : Iter Try.prog w0 (.func (.func 61) #[] #[.pointer (some ⟨b, 0, none⟩)]) (blk b (.cells #[v] 39 (0, 0)) • elK v es) es.length
    (fun k vs A => vs = [.int .i64 ((es.length - (k + 1) : Nat) : Int), .agg (es.getD (es.length - (k + 1)) default).enc.toArray] ∧ A = elK v es) := by
  intro l J X w hy H
  refine ⟨61, [], [.pointer (some ⟨b, 0, none⟩)], _, _, rfl, Try.func61, rfl, rfl, ?_⟩
  have H1 : Holds w0 w (blk b (.cells #[v] 39 (0, 0)) • elK v es • J 0) := H.of_eq (by ac_rfl)
  obtain ⟨a, c, hv, hc1, hc2, _⟩ := (H1.swap.elK_rd).form
  subst hv
  simp only [List.nil_append, List.cons_append]
  refine ret_enter Try.func61 rfl Try.ntmps61 (Nat.le_of_ble_eq_true rfl) ?_
  dsimp only [slots0, Nat.reduceAdd]
  refine wc_seq ?_
  refine wc_region ?_
  refine wl_val (r_load (plain_of Try.underlying39 rfl) rfl (cell_of_blk (H1).get.2 rfl)) (ltn rfl) ?_
  refine wl_val (r_lenS ((H1.f2).elK_rd) Try.underlying39 rfl) (ltn rfl) ?_
  refine wl_val (r_sub rfl rfl (by omega)) (ltn rfl) ?_
  refine wl_val (r_assign rfl) (ltn rfl) ?_
  refine wl_nil ?_
  refine wq_seq ?_
  refine wc_block ?_
  refine wc_loop [(0, _), (1, _)] (fun (k : Nat) => [(3, .int .i64 ((k : Int) - 1))]) (fun (k : Nat) W => k ≤ es.length ∧ Holds w0 W (blk b (.cells #[.slice a es.length c] 39 (0, 0)) • elK (.slice a es.length c) es • J (es.length - k))) (fun (k : Nat) => k) (es.length) (Sub.cons rfl (Sub.cons rfl (Sub.nil _))) (Sub.cons rfl (Sub.nil _)) ⟨by omega, by rw [Nat.sub_self]; exact H1⟩ ?_
  rintro k w1 ⟨hk, HL⟩
  dsimp only [List.cons_append, List.nil_append]
  refine wc_seq ?_
  refine wc_seq ?_
  refine wc_region ?_
  refine wl_val (r_move rfl) (ltn rfl) ?_
  refine wl_val (r_geq rfl rfl) (ltn rfl) ?_
  refine wl_nil ?_
  refine wq_seq ?_
  refine wc_cond rfl (fun h1 => ?_) (fun h1 => ?_)
  · (try simp only [beq_iff_eq, bne_iff_ne, ne_eq, decide_eq_true_eq, decide_eq_false_iff_not, beq_eq_false_iff_ne, bne_eq_false_iff_eq, Bool.not_eq_true', Bool.not_eq_false', Bool.not_eq_eq_eq_not, Bool.not_true, Bool.not_false, gt_iff_lt, ge_iff_le, Int.not_lt, Int.not_le] at h1)
    try (exfalso; first | contradiction | omega)
    all_goals
      
      refine wc_skip ?_
      refine wq_seq ?_
      refine wc_seq ?_
      refine wc_block ?_
      refine wc_seq ?_
      obtain ⟨m, rfl⟩ : ∃ m, k = m + 1 := ⟨k - 1, by omega⟩
      rw [show (((m + 1 : Nat) : Int) - 1) = (m : Int) from by omega]
      refine wc_region ?_
      refine wl_val (r_move rfl) (ltn rfl) ?_
      refine wl_val (r_move rfl) (ltn rfl) ?_
      refine wl_val (r_load (plain_of Try.underlying39 rfl) rfl (cell_of_blk (HL).get.2 rfl)) (ltn rfl) ?_
      refine wl_val (r_move rfl) (ltn rfl) ?_
      obtain ⟨bv, ov, cv, ev⟩ := Rd.posV ((HL.f2).elK_rd) (by omega)
      cases ev
      refine wl_val (r_index Try.underlying39 Try.sizeOf24 rfl rfl (by omega)) (ltn rfl) ?_
      refine wl_val (r_load_elem (ys := [_, _, _]) ((HL.f2).elK_rd) (by omega) Try.underlying24 rfl Try.sizeOf24 rfl (flat_elem BEd.enc_len (by omega) default) rfl) (ltn rfl) ?_
      refine wl_eff (e_yield rfl rfl (hy (es.length - (m + 1)) (by omega) _ _ ⟨by rw [show es.length - (es.length - (m + 1) + 1) = m from by omega]; rfl, rfl⟩ (elK (.slice (some ⟨bv, ov, none⟩) es.length c) es • blk b (.cells #[.slice (some ⟨bv, ov, none⟩) es.length c] 39 (0, 0))) _ (HL.swap.elK_dup.of_eq (by ac_rfl))).bool) (ltn rfl) ?_
      rintro _ w2 ⟨t, rfl, ht1, ht2⟩
      refine wl_val (r_not rfl) (ltn rfl) ?_
      refine wl_nil ?_
      refine wq_seq ?_
      refine wc_cond rfl (fun h2 => ?_) (fun h2 => ?_)
      · (try simp only [beq_iff_eq, bne_iff_ne, ne_eq, decide_eq_true_eq, decide_eq_false_iff_not, beq_eq_false_iff_ne, bne_eq_false_iff_eq, Bool.not_eq_true', Bool.not_eq_false', Bool.not_eq_eq_eq_not, Bool.not_true, Bool.not_false, gt_iff_lt, ge_iff_le, Int.not_lt, Int.not_le] at h2)
        try (exfalso; first | contradiction | omega)
        all_goals
          have HX := ht2 (by simpa using h2)
          refine wc_ret ?_
          refine wq_block_ret ?_
          refine wq_then_ret ?_
          refine wq_then_ret ?_
          refine wq_block_ret ?_
          refine wq_end0 (.inl rfl) Try.results61 ?_
          exact .inr (HX.of_eq (by ac_rfl))
      · (try simp only [beq_iff_eq, bne_iff_ne, ne_eq, decide_eq_true_eq, decide_eq_false_iff_not, beq_eq_false_iff_ne, bne_eq_false_iff_eq, Bool.not_eq_true', Bool.not_eq_false', Bool.not_eq_eq_eq_not, Bool.not_true, Bool.not_false, gt_iff_lt, ge_iff_le, Int.not_lt, Int.not_le] at h2)
        try (exfalso; first | contradiction | omega)
        all_goals
          have HN : Holds w0 w2 (blk b (.cells #[.slice (some ⟨bv, ov, none⟩) es.length c] 39 (0, 0)) • elK (.slice (some ⟨bv, ov, none⟩) es.length c) es • J (es.length - m)) := by
            have h9 := ht1 (by simpa using h2)
            rw [show es.length - (m + 1) + 1 = es.length - m from by omega] at h9
            exact h9.of_eq (by ac_rfl)
          refine wc_skip ?_
          refine wq_block_normal ?_
          refine wq_seq ?_
          refine wc_region ?_
          refine wl_val (r_move rfl) (ltn rfl) ?_
          refine wl_val (r_sub rfl rfl (by omega)) (ltn rfl) ?_
          refine wl_val (r_assign rfl) (ltn rfl) ?_
          refine wl_nil ?_
          refine wq_round (m) ?_ ?_ ?_ ?_
          · exact (Sub.cons rfl (Sub.nil _))
          · exact (Sub.cons rfl (Sub.cons rfl (Sub.nil _)))
          · (try dsimp only)
            exact ⟨by omega, HN.f2.f2⟩
          · (try dsimp only); omega
  · (try simp only [beq_iff_eq, bne_iff_ne, ne_eq, decide_eq_true_eq, decide_eq_false_iff_not, beq_eq_false_iff_ne, bne_eq_false_iff_eq, Bool.not_eq_true', Bool.not_eq_false', Bool.not_eq_eq_eq_not, Bool.not_true, Bool.not_false, gt_iff_lt, ge_iff_le, Int.not_lt, Int.not_le] at h1)
    try (exfalso; first | contradiction | omega)
    all_goals
      
      refine wc_exit ?_
      refine wq_then_exit ?_
      refine wq_then_exit ?_
      refine wq_block_hit ?_
      refine wq_end0 (.inr rfl) Try.results61 ?_
      obtain rfl : k = 0 := by omega
      rw [Nat.sub_zero] at HL
      exact .inl (HL.of_eq (by ac_rfl))
end
end Go.Proofs.Ytaabgcfeghcmnaa
