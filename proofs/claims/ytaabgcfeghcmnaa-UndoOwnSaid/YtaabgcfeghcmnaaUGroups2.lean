/- Does a list tell these groups? The document's list: a copy. -/
import Derived.Test.YtaabgcfeghcmnaaUGroups
set_option linter.unusedSimpArgs false
set_option linter.unusedVariables false
namespace Go.Proofs.Ytaabgcfeghcmnaa
open Go.RowKit
theorem allG_ok {G : List (List EdA)} {N : List EdA} {op : Int} (h : UOk G N op) : (∀ g ∈ allG G N, ∀ e ∈ g, EB e) ∧ ∀ g ∈ allG G N, g.length ≤ 16384 := by
  have hm : ∀ g ∈ allG G N, g ∈ G ∨ g = N := fun g hg => by
    unfold allG closeG at hg
    rw [List.mem_reverse] at hg
    split at hg
    · exact .inl hg
    · rcases List.mem_append.1 hg with hg | hg
      · exact .inl hg
      · exact .inr (List.mem_singleton.1 hg)
  have ht := h.2.1
  unfold uTot at ht
  refine ⟨fun g hg e he => ?_, fun g hg => ?_⟩
  · rcases hm g hg with h1 | rfl
    · exact h.2.2.2.2.1 g h1 e he
    · exact h.2.2.2.2.2 e he
  · rcases hm g hg with h1 | rfl
    · have := len_mem h1; omega
    · omega
section
variable {w0 w : World} {F : HP} {p c k : Nat} {G : List (List EdA)} {N : List EdA} {op : Int} {v u wv : Value} {es fs : List BEd} {gs hs : List (Value × List BEd)}
theorem groups_ret (H : Holds w0 w (UList p G N op • Row 39 1 wv hs.length (hs.map (·.1)) • elsK hs • F)) (hw : hs.map (fun g => g.2.map BEd.says) = allG G N) :
    Ret Try.prog 24 #[.pointer (some ⟨p, 0, none⟩), wv] w fun v w' => v = .bool true ∧ Holds w0 w' F := by
  obtain ⟨hB, hL⟩ : (∀ g ∈ allG G N, ∀ e ∈ g, EB e) ∧ ∀ g ∈ allG G N, g.length ≤ 16384 := by
    obtain ⟨_, _, _, _, k1, _⟩ := H.ulist
    exact allG_ok k1
  have hlen : hs.length = (allG G N).length := by have := congrArg List.length hw; simpa using this
  obtain ⟨a, d, hv, hc1, hc2, _⟩ := (H.swap.row_rd).form
  subst hv
  refine ret_enter Try.func24 rfl Try.ntmps24 (Nat.le_of_ble_eq_true rfl) ?_
  dsimp only [slots0, Nat.reduceAdd]
  refine wc_seq ?_
  refine wc_region ?_
  refine wl_eff (e_boxL (l := [_]) H rfl (by first | rfl | exact one_cells (by first | rfl | exact Rd.one ((H.f2).row_rd)))) (ltn rfl) ?_
  rintro _ w1 ⟨b1, rfl, H1⟩
  refine wl_eff (e_allocL (l := [_]) H1 Try.zeroValue4 rfl) (ltn rfl) ?_
  rintro _ w2 ⟨b2, rfl, H2⟩
  refine wl_nil ?_
  refine wq_seq ?_
  refine wc_seq ?_
  refine wc_region ?_
  refine wl_val (r_move rfl) (ltn rfl) ?_
  refine wl_eff (e_call (r_call rfl Try.func23 rfl rfl) (undo_groups_ret H2.f3)) (ltn rfl) ?_
  rintro _ w3 ⟨bG3, rfl, H3⟩
  refine wl_val (r_assign rfl) (ltn rfl) ?_
  refine wl_nil ?_
  refine wq_seq ?_
  refine wc_seq ?_
  refine wc_seq ?_
  refine wc_region ?_
  refine wl_val (r_move rfl) (ltn rfl) ?_
  refine wl_nil ?_
  refine wq_seq ?_
  refine wc_block ?_
  have HM := H3.f2.right.f5.f5.f3.f4.f5.mark0
  refine wc_loopD (fun (⟨k, ds⟩ : Nat × List Nat) => ds) [(3, _), (4, _), (5, _)] (fun (⟨k, ds⟩ : Nat × List Nat) => [(10, .int .i64 (k : Int))]) (fun (⟨k, ds⟩ : Nat × List Nat) W => k ≤ 2 ∧ Holds w0 W (Marks ds • blk b1 (.cells #[.slice a hs.length d] 43 (0, 0)) • blk b2 (.cells #[.bool false] 4 (0, 0)) • grpHP bG3 G N G.length • Row 39 1 (.slice a hs.length d) hs.length (hs.map (·.1)) • elsK hs • F)) (fun (⟨k, ds⟩ : Nat × List Nat) => 2 - k) ((0, [])) (Sub.cons rfl (Sub.cons rfl (Sub.cons rfl (Sub.nil _)))) (Sub.cons rfl (Sub.nil _)) ⟨by omega, HM⟩ ?_
  rintro ⟨k, ds⟩ w4 ⟨hk, HL⟩
  dsimp only [List.cons_append, List.nil_append]
  refine wc_seq ?_
  refine wc_region ?_
  refine wl_val (r_lss rfl rfl) (ltn rfl) ?_
  refine wl_nil ?_
  refine wq_seq ?_
  refine wc_seq ?_
  refine wc_cond rfl (fun h1 => ?_) (fun h1 => ?_)
  · (try simp only [beq_iff_eq, bne_iff_ne, ne_eq, decide_eq_true_eq, decide_eq_false_iff_not, beq_eq_false_iff_ne, bne_eq_false_iff_eq, Bool.not_eq_true', Bool.not_eq_false', Bool.not_eq_eq_eq_not, Bool.not_true, Bool.not_false, gt_iff_lt, ge_iff_le, Int.not_lt, Int.not_le] at h1)
    
    refine wc_skip ?_
    refine wq_seq ?_
    refine wc_seq ?_
    refine wc_block ?_
    refine wc_seq ?_
    refine wc_region ?_
    refine wl_eff (e_allocL (l := [_]) HL Try.zeroValue3 rfl) (ltn rfl) ?_
    rintro _ w5 ⟨b5, rfl, H5⟩
    refine wl_eff0 (e_storeL 0 (l' := [_]) H5 Try.sizeOf3 rfl rfl (by first | rfl | assumption) rfl rfl) ?_
    rintro _ w6 H6
    refine wl_nil ?_
    refine wq_seq ?_
    refine wc_seq ?_
    refine wc_seq ?_
    refine wc_region ?_
    refine wl_val (r_move rfl) (ltn rfl) ?_
    refine wl_nil ?_
    refine wq_seq ?_
    refine wc_block ?_
    refine wc_rangeFunc rfl (groups_iter bG3 hB hL) (fun j => blk b5 (.cells #[.int .i64 (j : Int)] 3 (0, 0)) • blk b1 (.cells #[.slice a hs.length d] 43 (0, 0)) • blk b2 (.cells #[.bool false] 4 (0, 0)) • Row 39 1 (.slice a hs.length d) hs.length (hs.map (·.1)) • elsK hs • Marks ds • F) (fact False) (fun _ => fact False) (H6.f2.f7.f7.f6.f6.f6.f7.f7.f7.f7.f7.f7.f7.f7.comm) (by rfl) ?_ ?_ ?_ ?_
    · rintro l7 j hkR0 vs7 A7 ⟨u1, fs1, hfs1, rfl, rfl⟩ G7 w7 H7
      try simp only [sep_assoc, emp_sep, sep_emp] at H7
      refine ⟨rfl, ?_⟩
      dsimp only [zipL]
      have HQ := (H7).edL
      have hkl : j < hs.length := by omega
      refine wc_region ?_
      refine wl_val (r_assign rfl) (ltn rfl) ?_
      refine wl_nil ?_
      refine wq_mid (HQ.g9) ?_
      intro G8 w8 H8
      try simp only [sep_assoc] at H8
      refine wc_block ?_
      refine wc_seq ?_
      refine wc_seq ?_
      refine wc_region ?_
      refine wl_val (r_load (plain_of Try.underlying3 rfl) rfl (cell_of_blk (H8.f3).get.2 rfl)) (ltn rfl) ?_
      refine wl_val (r_load (plain_of Try.underlying43 rfl) rfl (cell_of_blk (H8.f4).get.2 rfl)) (ltn rfl) ?_
      refine wl_val (r_lenS ((H8.f6).row_rd) Try.underlying43 rfl) (ltn rfl) ?_
      refine wl_val (r_geq rfl rfl) (ltn rfl) ?_
      refine wl_split rfl (ltn rfl) (fun h => by exfalso; (try simp only [beq_iff_eq, bne_iff_ne, ne_eq, decide_eq_true_eq, decide_eq_false_iff_not, beq_eq_false_iff_ne, bne_eq_false_iff_eq, Bool.not_eq_true', Bool.not_eq_false', Bool.not_eq_eq_eq_not, Bool.not_true, Bool.not_false, gt_iff_lt, ge_iff_le, Int.not_lt, Int.not_le] at h); first | contradiction | omega | (simp at h <;> omega)) (fun h2 => ?_)
      (try simp only [beq_iff_eq, bne_iff_ne, ne_eq, decide_eq_true_eq, decide_eq_false_iff_not, beq_eq_false_iff_ne, bne_eq_false_iff_eq, Bool.not_eq_true', Bool.not_eq_false', Bool.not_eq_eq_eq_not, Bool.not_true, Bool.not_false, gt_iff_lt, ge_iff_le, Int.not_lt, Int.not_le] at h2)
      refine wl_yes rfl rfl ?_
      refine wl_val (r_move rfl) (ltn rfl) ?_
      refine wl_yes rfl rfl ?_
      refine wl_val (r_load (plain_of Try.underlying43 rfl) rfl (cell_of_blk (H8.f4).get.2 rfl)) (ltn rfl) ?_
      refine wl_yes rfl rfl ?_
      refine wl_val (r_load (plain_of Try.underlying3 rfl) rfl (cell_of_blk (H8.f3).get.2 rfl)) (ltn rfl) ?_
      refine wl_yes rfl rfl ?_
      obtain ⟨bwv, owv, cwv, ewv⟩ := Rd.posV ((H8.f6).row_rd) (by omega)
      cases ewv
      refine wl_val (r_index Try.underlying43 Try.sizeOf39 rfl rfl (by omega)) (ltn rfl) ?_
      refine wl_yes rfl rfl ?_
      refine wl_val (r_load (plain_of Try.underlying39 rfl) rfl (by first | exact Rd.at1n ((H8.f6).row_rd) (by omega) | exact Rd.at0 ((H8.f6).row_rd) (by omega) | exact Rd.at1 ((H8.f6).row_rd) (by omega))) (ltn rfl) ?_
      rw [show (hs.map (·.1)).getD j undef = (hs.getD j default).1 from by simp [List.getD_eq_getElem?_getD, hkl]]
      obtain ⟨gl, ges, hg⟩ : ∃ gl ges, hs.getD j default = (gl, ges) := ⟨_, _, rfl⟩
      rw [hg]
      have Ho9 := H8.f7
      have Hc10 := Ho9.elsK_at hkl hg
      have hge : ges.map BEd.says = (allG G N).getD j [] := by
        rw [← hw]
        have h9 : (hs.map (fun g => g.2.map BEd.says)).getD j [] = (hs.getD j default).2.map BEd.says := by simp [List.getD_eq_getElem?_getD, hkl]
        rw [h9, hg]
      refine wl_yes rfl rfl ?_
      refine wl_eff (e_call (r_call rfl Try.func37 rfl rfl) (samelist_re Hc10.f4.f4)) (ltn rfl) ?_
      rintro _ w11 ⟨rfl, H11⟩
      rw [decide_eq_true (hfs1.trans hge.symm)]
      refine wl_yes rfl rfl ?_
      refine wl_val (r_not rfl) (ltn rfl) ?_
      refine wl_val (r_pick_f rfl rfl) (ltn rfl) ?_
      refine wl_nil ?_
      refine wq_seq ?_
      refine wc_cond_f rfl ?_
      refine wc_skip ?_
      refine wq_seq ?_
      refine wc_region ?_
      refine wl_val (r_load (plain_of Try.underlying3 rfl) rfl (cell_of_blk (H11.f5).get.2 rfl)) (ltn rfl) ?_
      refine wl_val (r_add rfl rfl (by omega)) (ltn rfl) ?_
      refine wl_eff0 (e_storeL 0 (l' := [_]) H11.f5 Try.sizeOf3 rfl rfl (by first | rfl | assumption) rfl rfl) ?_
      rintro _ w12 H12
      refine wl_nil ?_
      refine wq_block_normal ?_
      refine wq_rnormal ?_
      exact H12.f2.right.f2.right.f2.right.f7.f7.f4.f7.f7.f7.f7.g7
    · rintro D13 w13 H13
      have H13d := H13.ed
      try simp only [sep_assoc, emp_sep, sep_emp] at H13d
      have H13m := (H13d.f8.f2).markC
      refine wq_block_normal ?_
      refine wq_seq ?_
      refine wc_seq ?_
      refine wc_region ?_
      refine wl_val (r_load (plain_of Try.underlying3 rfl) rfl (cell_of_blk (H13m.f3).get.2 rfl)) (ltn rfl) ?_
      refine wl_val (r_load (plain_of Try.underlying43 rfl) rfl (cell_of_blk (H13m.f4).get.2 rfl)) (ltn rfl) ?_
      refine wl_val (r_lenS ((H13m.f6).row_rd) Try.underlying43 rfl) (ltn rfl) ?_
      refine wl_val (r_neq rfl rfl) (ltn rfl) ?_
      refine wl_nil ?_
      refine wq_seq ?_
      refine wc_cond rfl (fun h => by exfalso; (try simp only [beq_iff_eq, bne_iff_ne, ne_eq, decide_eq_true_eq, decide_eq_false_iff_not, beq_eq_false_iff_ne, bne_eq_false_iff_eq, Bool.not_eq_true', Bool.not_eq_false', Bool.not_eq_eq_eq_not, Bool.not_true, Bool.not_false, gt_iff_lt, ge_iff_le, Int.not_lt, Int.not_le] at h); first | contradiction | omega | (simp at h <;> omega)) (fun h3 => ?_)
      (try simp only [beq_iff_eq, bne_iff_ne, ne_eq, decide_eq_true_eq, decide_eq_false_iff_not, beq_eq_false_iff_ne, bne_eq_false_iff_eq, Bool.not_eq_true', Bool.not_eq_false', Bool.not_eq_eq_eq_not, Bool.not_true, Bool.not_false, gt_iff_lt, ge_iff_le, Int.not_lt, Int.not_le] at h3)
      refine wc_skip ?_
      refine wq_block_normal ?_
      refine wq_seq ?_
      refine wc_region ?_
      refine wl_val (r_add rfl rfl (by omega)) (ltn rfl) ?_
      refine wl_val (r_move rfl) (ltn rfl) ?_
      refine wl_nil ?_
      refine wq_roundD ((k + 1, _)) ?_ ?_ ?_ ?_
      · exact (Sub.cons rfl (Sub.nil _))
      · exact (Sub.cons rfl (Sub.cons rfl (Sub.cons rfl (Sub.nil _))))
      · (try dsimp only)
        exact ⟨by omega, H13m.f3.right.f6.f6.f4.f6.f6.f6⟩
      · (try dsimp only); omega
    · rintro D w H; exact absurd H.swap.fact.1 id
    · rintro id D w H; exact absurd H.swap.fact.1 fun h => h
  · (try simp only [beq_iff_eq, bne_iff_ne, ne_eq, decide_eq_true_eq, decide_eq_false_iff_not, beq_eq_false_iff_ne, bne_eq_false_iff_eq, Bool.not_eq_true', Bool.not_eq_false', Bool.not_eq_eq_eq_not, Bool.not_true, Bool.not_false, gt_iff_lt, ge_iff_le, Int.not_lt, Int.not_le] at h1)
    
    refine wc_exit ?_
    refine wq_then_exit ?_
    refine wq_then_exit ?_
    refine wq_block_hit ?_
    refine wq_seq ?_
    refine wc_seq ?_
    refine wc_region ?_
    refine wl_eff0 (e_storeL 0 (l' := [_]) HL.f3 Try.sizeOf4 rfl rfl (by first | rfl | assumption) rfl rfl) ?_
    rintro _ w14 H14
    refine wl_nil ?_
    refine wq_seq ?_
    refine wc_ret ?_
    refine wq_endM (.inl rfl) (H14.f2) (fun w15 H15 => ?_)
    refine ⟨_, resC1 Try.results24 rfl (plain_of Try.underlying4 rfl) (cell_of_blk (H15).get.2 rfl), ?_⟩
    exact ⟨rfl, H15.right.right.right.right.right⟩
end
end Go.Proofs.Ytaabgcfeghcmnaa
