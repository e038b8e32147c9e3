/- Lists of edits: the groups that are told, the last one first. -/
import Derived.Test.YtaabgcfeghcmnaaRList7
set_option linter.unusedSimpArgs false
set_option linter.unusedVariables false
namespace Go.Proofs.Ytaabgcfeghcmnaa
open Go.RowKit
/-- So many of the groups, the last one first, as a slice of slices in a variable. -/
def grpHP (c : Nat) (G : List (List EdA)) (N : List EdA) (k : Nat) : HP := exHP fun (x : Value × List (Value × List BEd)) => fact (x.2.map (fun g => g.2.map BEd.says) = nowG N ++ G.reverse.take k) • blk c (.cells #[x.1] 43 (0, 0)) • EdLL x.1 x.2
theorem rev_succ {G : List (List EdA)} {k : Nat} (hk : k < G.length) : G.reverse.take (k + 1) = G.reverse.take k ++ [G.getD (G.length - (k + 1)) []] := by
  rw [List.take_succ_eq_append_getElem (by simpa using hk)]
  congr 1
  rw [List.getElem_reverse, List.getD_eq_getElem?_getD, List.getElem?_eq_getElem (by omega)]
  have e : G.length - 1 - k = G.length - (k + 1) := by omega
  simp only [Option.getD_some, e]
section
variable {w0 w : World} {F : HP} {p c k : Nat} {G : List (List EdA)} {N : List EdA} {op : Int} {v u : Value} {es fs : List BEd} {gs hs : List (Value × List BEd)}
theorem Holds.grp_open (H : Holds w0 w (grpHP c G N k • F)) : ∃ u hs, hs.map (fun g => g.2.map BEd.says) = nowG N ++ G.reverse.take k ∧ hs.length ≤ G.length + 1 ∧ Holds w0 w (blk c (.cells #[u] 43 (0, 0)) • Row 39 1 u hs.length (hs.map (·.1)) • elsK hs • F) := by
  obtain ⟨⟨u, hs⟩, H⟩ := H.ex_sep
  obtain ⟨h, H⟩ := H.flat.fact
  refine ⟨u, hs, h, ?_, (H.flat.swap.edLL).f3⟩
  have := congrArg List.length h
  have := nowG_len N
  simp only [List.length_map, List.length_append, List.length_take, List.length_reverse] at *
  omega
theorem Holds.mk_grp (h : hs.map (fun g => g.2.map BEd.says) = nowG N ++ G.reverse.take k) (H : Holds w0 w (blk c (.cells #[u] 43 (0, 0)) • EdLL u hs • F)) : Holds w0 w (grpHP c G N k • F) :=
  Holds.mk_ex_sep (u, hs) (Holds.deep (Holds.mk_fact h H.deep))
theorem back2_ret (H : Holds w0 w F) (hv : v.oneCell' = true) : Ret Try.prog 53 #[v] w fun v' w' => ∃ b, v' = .func (.func 59) #[] #[.pointer (some ⟨b, 0, none⟩)] ∧ Holds w0 w' (blk b (.cells #[v] 43 (0, 0)) • F) := by
  refine ret_enter Try.func53 rfl Try.ntmps53 (Nat.le_of_ble_eq_true rfl) ?_
  dsimp only [slots0, Nat.reduceAdd]
  refine wc_seq ?_
  refine wc_region ?_
  refine wl_eff (e_boxL (l := [_]) H rfl (by first | rfl | exact one_cells (by first | rfl | assumption))) (ltn rfl) ?_
  rintro _ w1 ⟨b1, rfl, H1⟩
  refine wl_val (r_assign rfl) (ltn rfl) ?_
  refine wl_nil ?_
  refine wq_seq ?_
  refine wc_seq ?_
  refine wc_region ?_
  refine wl_val (r_makeFunc rfl rfl) (ltn rfl) ?_
  refine wl_val (r_assign rfl) (ltn rfl) ?_
  refine wl_nil ?_
  refine wq_seq ?_
  refine wc_ret ?_
  refine wq_end1 (.inl rfl) Try.results53 rfl ?_
  exact ⟨_, rfl, H1⟩
theorem back2_iter (b : Nat) : Iter Try.prog w0 (.func (.func 59) #[] #[.pointer (some ⟨b, 0, none⟩)]) (blk b (.cells #[v] 43 (0, 0)) • Row 39 1 v gs.length (gs.map (·.1)) • elsK gs) gs.length
    (fun k vs A => ∃ gl ges, gs.getD (gs.length - (k + 1)) default = (gl, ges) ∧ vs = [.int .i64 ((gs.length - (k + 1) : Nat) : Int), gl] ∧ A = elK gl ges) := by
  intro l J X w hy H
  refine ⟨59, [], [.pointer (some ⟨b, 0, none⟩)], _, _, rfl, Try.func59, rfl, rfl, ?_⟩
  have H1 : Holds w0 w (blk b (.cells #[v] 43 (0, 0)) • Row 39 1 v gs.length (gs.map (·.1)) • elsK gs • J 0) := H.of_eq (by ac_rfl)
  obtain ⟨a, c, hv, hc1, hc2, _⟩ := (H1.swap.row_rd).form
  subst hv
  simp only [List.nil_append, List.cons_append]
  refine ret_enter Try.func59 rfl Try.ntmps59 (Nat.le_of_ble_eq_true rfl) ?_
  dsimp only [slots0, Nat.reduceAdd]
  refine wc_seq ?_
  refine wc_region ?_
  refine wl_val (r_load (plain_of Try.underlying43 rfl) rfl (cell_of_blk (H1).get.2 rfl)) (ltn rfl) ?_
  refine wl_val (r_lenS ((H1.f2).row_rd) Try.underlying43 rfl) (ltn rfl) ?_
  refine wl_val (r_sub rfl rfl (by omega)) (ltn rfl) ?_
  refine wl_val (r_assign rfl) (ltn rfl) ?_
  refine wl_nil ?_
  refine wq_seq ?_
  refine wc_block ?_
  refine wc_loop [(0, _), (1, _)] (fun (k : Nat) => [(3, .int .i64 ((k : Int) - 1))]) (fun (k : Nat) W => k ≤ gs.length ∧ Holds w0 W (blk b (.cells #[.slice a gs.length c] 43 (0, 0)) • Row 39 1 (.slice a gs.length c) gs.length (gs.map (·.1)) • elsK gs • J (gs.length - k))) (fun (k : Nat) => k) (gs.length) (Sub.cons rfl (Sub.cons rfl (Sub.nil _))) (Sub.cons rfl (Sub.nil _)) ⟨by omega, by rw [Nat.sub_self]; exact H1⟩ ?_
  rintro k w1 ⟨hk, HL⟩
  dsimp only [List.cons_append, List.nil_append]
  refine wc_seq ?_
  refine wc_seq ?_
  refine wc_region ?_
  refine wl_val (r_move rfl) (ltn rfl) ?_
  refine wl_val (r_geq rfl rfl) (ltn rfl) ?_
  refine wl_nil ?_
  refine wq_seq ?_
  refine wc_cond rfl (fun h1 => ?_) (fun h1 => ?_)
  · (try simp only [beq_iff_eq, bne_iff_ne, ne_eq, decide_eq_true_eq, decide_eq_false_iff_not, beq_eq_false_iff_ne, bne_eq_false_iff_eq, Bool.not_eq_true', Bool.not_eq_false', Bool.not_eq_eq_eq_not, Bool.not_true, Bool.not_false, gt_iff_lt, ge_iff_le, Int.not_lt, Int.not_le] at h1)
    try (exfalso; first | contradiction | omega)
    all_goals
      
      refine wc_skip ?_
      refine wq_seq ?_
      refine wc_seq ?_
      refine wc_block ?_
      refine wc_seq ?_
      obtain ⟨m, rfl⟩ : ∃ m, k = m + 1 := ⟨k - 1, by omega⟩
      rw [show (((m + 1 : Nat) : Int) - 1) = (m : Int) from by omega]
      have hkl : m < gs.length := by omega
      refine wc_region ?_
      refine wl_val (r_move rfl) (ltn rfl) ?_
      refine wl_val (r_move rfl) (ltn rfl) ?_
      refine wl_val (r_load (plain_of Try.underlying43 rfl) rfl (cell_of_blk (HL).get.2 rfl)) (ltn rfl) ?_
      refine wl_val (r_move rfl) (ltn rfl) ?_
      obtain ⟨bv, ov, cv, ev⟩ := Rd.posV ((HL.f2).row_rd) (by omega)
      cases ev
      refine wl_val (r_index Try.underlying43 Try.sizeOf39 rfl rfl (by omega)) (ltn rfl) ?_
      refine wl_val (r_load (plain_of Try.underlying39 rfl) rfl (by first | exact Rd.at1n ((HL.f2).row_rd) (by omega) | exact Rd.at0 ((HL.f2).row_rd) (by omega) | exact Rd.at1 ((HL.f2).row_rd) (by omega))) (ltn rfl) ?_
      rw [show (gs.map (·.1)).getD m undef = (gs.getD m default).1 from by simp [List.getD_eq_getElem?_getD, hkl]]
      obtain ⟨gl, ges, hg⟩ : ∃ gl ges, gs.getD m default = (gl, ges) := ⟨_, _, rfl⟩
      rw [hg]
      have Ho2 := HL.f3
      have Hc3 := Ho2.elsK_at hkl hg
      refine wl_eff (e_yield rfl rfl (hy (gs.length - (m + 1)) (by omega) _ _ ⟨gl, ges, by rw [show gs.length - (gs.length - (m + 1) + 1) = m from by omega]; exact hg, by rw [show gs.length - (gs.length - (m + 1) + 1) = m from by omega], rfl⟩ (elsK gs • Row 39 1 (.slice (some ⟨bv, ov, none⟩) gs.length c) gs.length (gs.map (·.1)) • blk b (.cells #[.slice (some ⟨bv, ov, none⟩) gs.length c] 43 (0, 0))) _ (Hc3.of_eq (by ac_rfl))).bool) (ltn rfl) ?_
      rintro _ w4 ⟨t, rfl, ht1, ht2⟩
      refine wl_val (r_not rfl) (ltn rfl) ?_
      refine wl_nil ?_
      refine wq_seq ?_
      refine wc_cond rfl (fun h2 => ?_) (fun h2 => ?_)
      · (try simp only [beq_iff_eq, bne_iff_ne, ne_eq, decide_eq_true_eq, decide_eq_false_iff_not, beq_eq_false_iff_ne, bne_eq_false_iff_eq, Bool.not_eq_true', Bool.not_eq_false', Bool.not_eq_eq_eq_not, Bool.not_true, Bool.not_false, gt_iff_lt, ge_iff_le, Int.not_lt, Int.not_le] at h2)
        try (exfalso; first | contradiction | omega)
        all_goals
          have HX := ht2 (by simpa using h2)
          refine wc_ret ?_
          refine wq_block_ret ?_
          refine wq_then_ret ?_
          refine wq_then_ret ?_
          refine wq_block_ret ?_
          refine wq_end0 (.inl rfl) Try.results59 ?_
          exact .inr (HX.of_eq (by ac_rfl))
      · (try simp only [beq_iff_eq, bne_iff_ne, ne_eq, decide_eq_true_eq, decide_eq_false_iff_not, beq_eq_false_iff_ne, bne_eq_false_iff_eq, Bool.not_eq_true', Bool.not_eq_false', Bool.not_eq_eq_eq_not, Bool.not_true, Bool.not_false, gt_iff_lt, ge_iff_le, Int.not_lt, Int.not_le] at h2)
        try (exfalso; first | contradiction | omega)
        all_goals
          have HN : Holds w0 w4 (blk b (.cells #[.slice (some ⟨bv, ov, none⟩) gs.length c] 43 (0, 0)) • Row 39 1 (.slice (some ⟨bv, ov, none⟩) gs.length c) gs.length (gs.map (·.1)) • elsK gs • J (gs.length - m)) := by
            have h9 := ht1 (by simpa using h2)
            rw [show gs.length - (m + 1) + 1 = gs.length - m from by omega] at h9
            exact h9.of_eq (by ac_rfl)
          refine wc_skip ?_
          refine wq_block_normal ?_
          refine wq_seq ?_
          refine wc_region ?_
          refine wl_val (r_move rfl) (ltn rfl) ?_
          refine wl_val (r_sub rfl rfl (by omega)) (ltn rfl) ?_
          refine wl_val (r_assign rfl) (ltn rfl) ?_
          refine wl_nil ?_
          refine wq_round (m) ?_ ?_ ?_ ?_
          · exact (Sub.cons rfl (Sub.nil _))
          · exact (Sub.cons rfl (Sub.cons rfl (Sub.nil _)))
          · (try dsimp only)
            exact ⟨by omega, HN.f3.f3.f3⟩
          · (try dsimp only); omega
  · (try simp only [beq_iff_eq, bne_iff_ne, ne_eq, decide_eq_true_eq, decide_eq_false_iff_not, beq_eq_false_iff_ne, bne_eq_false_iff_eq, Bool.not_eq_true', Bool.not_eq_false', Bool.not_eq_eq_eq_not, Bool.not_true, Bool.not_false, gt_iff_lt, ge_iff_le, Int.not_lt, Int.not_le] at h1)
    try (exfalso; first | contradiction | omega)
    all_goals
      
      refine wc_exit ?_
      refine wq_then_exit ?_
      refine wq_then_exit ?_
      refine wq_block_hit ?_
      refine wq_end0 (.inr rfl) Try.results59 ?_
      obtain rfl : k = 0 := by omega
      rw [Nat.sub_zero] at HL
      exact .inl (HL.of_eq (by ac_rfl))
theorem undo_groups_ret (H : Holds w0 w (UList p G N op • F)) : Ret Try.prog 23 #[.pointer (some ⟨p, 0, none⟩)] w fun v w' => ∃ c, v = .func (.func 54) #[] #[.pointer (some ⟨c, 0, none⟩)] ∧ Holds w0 w' (grpHP c G N G.length • UList p G N op • F) := by
  refine ret_enter Try.func23 rfl Try.ntmps23 (Nat.le_of_ble_eq_true rfl) ?_
  dsimp only [slots0, Nat.reduceAdd]
  refine wc_seq ?_
  refine wc_region ?_
  refine wl_val (r_assign rfl) (ltn rfl) ?_
  refine wl_nil ?_
  refine wq_seq ?_
  refine wc_seq ?_
  refine wc_region ?_
  refine wl_eff (e_allocL (l := [_]) H Try.zeroValue43 rfl) (ltn rfl) ?_
  rintro _ w1 ⟨b1, rfl, H1⟩
  refine wl_nil ?_
  refine wq_seq ?_
  refine wc_seq ?_
  refine wc_seq ?_
  refine wc_region ?_
  refine wl_val (r_move rfl) (ltn rfl) ?_
  refine wl_eff (e_call (r_call rfl Try.func51 rfl rfl) (undo_none_ret H1.f2)) (ltn rfl) ?_
  rintro _ _ ⟨rfl, rfl⟩
  refine wl_val (r_not rfl) (ltn rfl) ?_
  obtain ⟨gv_p, nv_p, gs_p, now_p, k1_p, k2_p, k3_p, k4_p, k5_p, k6_p, HU_p⟩ := (H1.f2).ulist
  have hLn : now_p.length ≤ 16384 := by omega
  have hBn := EB_of k3_p k1_p.2.2.2.2.2
  refine wl_nil ?_
  refine wq_seq ?_
  refine wc_cond rfl (fun h1 => ?_) (fun h => by exfalso; (try simp only [beq_iff_eq, bne_iff_ne, ne_eq, decide_eq_true_eq, decide_eq_false_iff_not, beq_eq_false_iff_ne, bne_eq_false_iff_eq, Bool.not_eq_true', Bool.not_eq_false', Bool.not_eq_eq_eq_not, Bool.not_true, Bool.not_false, gt_iff_lt, ge_iff_le, Int.not_lt, Int.not_le] at h); simp at h)
  (try simp only [beq_iff_eq, bne_iff_ne, ne_eq, decide_eq_true_eq, decide_eq_false_iff_not, beq_eq_false_iff_ne, bne_eq_false_iff_eq, Bool.not_eq_true', Bool.not_eq_false', Bool.not_eq_eq_eq_not, Bool.not_true, Bool.not_false, gt_iff_lt, ge_iff_le, Int.not_lt, Int.not_le] at h1)
  refine wc_join [(0, _), (3, _)] (fun (_ : Unit) => []) (fun (_ : Unit) W => Holds w0 W (grpHP b1 G N 0 • blk p (.cells #[gv_p, nv_p, .int .i64 op, .int .i64 (uTot G N : Nat), .bool true] 72 (0, 0)) • Row 39 1 gv_p gs_p.length (gs_p.map (·.1)) • elsK gs_p • Row 24 3 nv_p now_p.length (now_p.flatMap BEd.enc) • edsK now_p • F)) (Sub.cons rfl (Sub.cons rfl (Sub.nil _))) ?_ ?_
  · rintro _ w4 HJ
    dsimp only [List.cons_append, List.nil_append]
    refine wc_seq ?_
    refine wc_region ?_
    refine wl_val (r_move rfl) (ltn rfl) ?_
    refine wl_val (r_nil rfl) (ltn rfl) ?_
    refine wl_val ((by first | exact r_field0 0 Try.underlying72 rfl rfl Try.sizeOf70 (by decide) rfl | exact r_field 0 Try.underlying72 rfl rfl Try.sizeOf70 (by decide) rfl)) (ltn rfl) ?_
    refine wl_val ((by first | exact r_field0 0 Try.underlying70 rfl rfl Try.sizeOf43 (by decide) rfl | exact r_field 0 Try.underlying70 rfl rfl Try.sizeOf43 (by decide) rfl)) (ltn rfl) ?_
    refine wl_val (r_load (plain_of Try.underlying43 rfl) rfl (cell_of_blk (HJ.f2).get.2 rfl)) (ltn rfl) ?_
    refine wl_eff (e_call (r_call rfl Try.func53 rfl rfl) (back2_ret HJ (Rd.one ((HJ.f3).row_rd)))) (ltn rfl) ?_
    rintro _ w5 ⟨bB5, rfl, H5⟩
    refine wl_nil ?_
    refine wq_seq ?_
    refine wc_block ?_
    obtain ⟨R6, hR6, HR6⟩ := Holds.hide4 (H5.f5.f5.f3.f4)
    refine wc_rangeFunc rfl (back2_iter bB5) (fun k => grpHP b1 G N k • R6) (fact False) (fun _ => fact False) (HR6.f4.f4.f4.f4.f4.f4.f4.g3.comm) (by rfl) ?_ ?_ ?_ ?_
    · rintro l7 k hkR0 vs7 A7 ⟨gl, ges, hg, rfl, rfl⟩ G7 w7 H7
      try simp only [sep_assoc, emp_sep, sep_emp] at H7
      refine ⟨rfl, ?_⟩
      dsimp only [zipL]
      obtain ⟨u, hs, hhs, hhl, HI⟩ := (H7.f2).grp_open
      have hge : ges.map BEd.says = G.getD (G.length - (k + 1)) [] := by
        rw [← k4_p, ← k2_p]
        have h9 : (gs_p.map (fun g => g.2.map BEd.says)).getD (gs_p.length - (k + 1)) [] = (gs_p.getD (gs_p.length - (k + 1)) default).2.map BEd.says := by simp [List.getD_eq_getElem?_getD, show gs_p.length - (k + 1) < gs_p.length by omega]
        rw [h9, hg]
      have hgm : G.getD (G.length - (k + 1)) [] ∈ G := getD_mem' (by omega)
      have hBg := EB_of hge (k1_p.2.2.2.2.1 _ hgm)
      have hLg : ges.length ≤ 16384 := by
        have h8 := k1_p.2.1
        unfold uTot at h8
        have h7 := congrArg List.length hge
        rw [List.length_map] at h7
        have h6 := len_mem hgm
        omega
      refine wc_region ?_
      refine wl_val (r_assign rfl) (ltn rfl) ?_
      refine wl_nil ?_
      refine wq_mid (HI.g5) ?_
      intro G8 w8 H8
      try simp only [sep_assoc] at H8
      refine wc_block ?_
      have H7d8 := H8.drew
      have hS7d8 := Holds.kp (H7d8.f4.f4.f4.f4)
      refine wd_beginK [0] hS7d8 (by kernel_rfl) (by kernel_rfl) rfl ?_
      refine wd_take 0 rfl (by kernel_rfl) (by kernel_rfl) hS7d8 (by decide) (fun W hW => r_load (plain_of Try.underlying43 rfl) rfl (cell_of_blk ((Kp.h hW)).get.2 rfl)) (ltn rfl) ?_
      refine wd_takeT 1 rfl (by kernel_rfl) (by kernel_rfl) hS7d8 (fun _ => r_move rfl) (ltn rfl) ?_
      refine wd_eff 2 rfl (by kernel_rfl) (e_call (r_call rfl Try.func52 rfl rfl) (copied_el_ret H7d8.f4 hBg hLg)) (ltn rfl) ?_
      rintro u9 w9 ⟨fs9, hfs9, H9⟩
      obtain ⟨es2, rfl⟩ : ∃ q, q = fs9 := ⟨_, rfl⟩
      have hes2 := hfs9
      have hS9n := Holds.kp (H9.f6.f6.f6.f6.f6.f6)
      refine keepK hS9n (fun W hW => (Kp.h hW).right.right.f4.f4.f4) ?_
      refine wd_eff 3 rfl (by kernel_rfl) (e_lit_row (vs := [_]) H9 Try.underlying43 Try.sizeOf39 Try.zeroValue39 rfl rfl rfl (by decide) (ones_cons (by first | rfl | exact Rd.one ((H9).row_rd)) ones_nil)) (ltn rfl) ?_
      rintro l10 w10 H10
      have hS10n := Holds.kp (H10.f7.f7.f7.f7.f7.f7.f7)
      refine keepK hS10n (fun W hW => (Kp.h hW).right.f6.f6.f6.f6.f6.f6) ?_
      refine wd_eff 4 rfl (by kernel_rfl) (e_append H10.f6 Try.underlying43 (show (Try.prog.info? 39).map (fun i => (i.zero, i.size, i.bytes)) = some (some (.slice none 0 0), 1, 24) by kernel_rfl) rfl rfl rfl ((H10).row_rd) (ones_cons (by first | rfl | exact Rd.one ((H10.f2).row_rd)) ones_nil) (by omega) (by omega)) (ltn rfl) ?_
      rintro l11 w11 H11
      have Hd12 := H11.f2.right
      have hS12n := Holds.kp (Hd12.f6.f6.f6.f6.f6.f6)
      refine keepX hS12n (by kernel_rfl) ?_
      refine wd_eff0 5 rfl (by kernel_rfl) (e_storeL 0 (l' := [_]) Hd12.f5 Try.sizeOf43 rfl rfl (by first | rfl | exact Rd.one ((Hd12).row_rd)) rfl rfl) ?_
      rintro _ w13 H13
      have hS13n := Holds.kp (H13.f6.f6.f6.f6.f6.f6)
      refine keepX hS13n (by kernel_rfl) ?_
      refine wd_done (by kernel_rfl) ?_
      refine wq_block_normal ?_
      refine wq_rnormal ?_
      have X := Holds.edL_freeze (es := es2) (H13.f5.right.f5.f3.f5.f5).deep
      exact (Holds.mk_grp (hs := hs ++ [(u9, es2)]) (by rw [List.map_append, hhs, rev_succ (by omega), ← hge, ← hes2, List.append_assoc]; rfl) (Holds.edLL_snoc X.swap).swap).deep
    · rintro D14 w14 H14
      have H14d := H14.ed
      try simp only [sep_assoc, emp_sep, sep_emp] at H14d
      have H14m := H14d.mark1
      subst hR6
      refine wq_block_normal ?_
      refine wq_seq ?_
      refine wc_seq ?_
      refine wc_region ?_
      refine wl_val (r_makeFunc rfl rfl) (ltn rfl) ?_
      refine wl_val (r_assign rfl) (ltn rfl) ?_
      refine wl_nil ?_
      refine wq_seq ?_
      refine wc_ret ?_
      refine wq_endM (.inl rfl) (H14m) (fun w15 H15 => ?_)
      refine ⟨_, res1 Try.results23 rfl, ?_⟩
      have hgl : grpHP b1 G N gs_p.length = grpHP b1 G N G.length := by rw [k4_p]
      rw [hgl] at H15
      have Ho17 := H15.f7.f7.f5.f5.f7
      have Hc18 := Holds.mk_ulistF k1_p k2_p k3_p rfl Ho17
      exact ⟨_, rfl, Hc18.f2.right.f2⟩
    · rintro D w H; exact absurd H.swap.fact.1 id
    · rintro id D w H; exact absurd H.swap.fact.1 fun h => h
  · skip
    refine wc_seq ?_
    refine wc_region ?_
    refine wl_val (r_move rfl) (ltn rfl) ?_
    refine wl_val (r_nil rfl) (ltn rfl) ?_
    refine wl_val ((by first | exact r_field0 0 Try.underlying72 rfl rfl Try.sizeOf70 (by decide) rfl | exact r_field 0 Try.underlying72 rfl rfl Try.sizeOf70 (by decide) rfl)) (ltn rfl) ?_
    refine wl_val ((by first | exact r_field0 1 Try.underlying70 rfl rfl Try.sizeOf39 (by decide) rfl | exact r_field 1 Try.underlying70 rfl rfl Try.sizeOf39 (by decide) rfl)) (ltn rfl) ?_
    refine wl_val (r_load (plain_of Try.underlying39 rfl) rfl (cell_of_blk (HU_p).get.2 rfl)) (ltn rfl) ?_
    refine wl_val (r_lenS ((HU_p.f4).row_rd) Try.underlying39 rfl) (ltn rfl) ?_
    refine wl_val (r_gtr rfl rfl) (ltn rfl) ?_
    refine wl_nil ?_
    refine wq_seq ?_
    refine wc_cond rfl (fun h2 => ?_) (fun h2 => ?_)
    · (try simp only [beq_iff_eq, bne_iff_ne, ne_eq, decide_eq_true_eq, decide_eq_false_iff_not, beq_eq_false_iff_ne, bne_eq_false_iff_eq, Bool.not_eq_true', Bool.not_eq_false', Bool.not_eq_eq_eq_not, Bool.not_true, Bool.not_false, gt_iff_lt, ge_iff_le, Int.not_lt, Int.not_le] at h2)
      have hN : nowG N = [N] := if_neg (by rintro rfl; exact absurd k5_p (by simp only [List.length_nil]; omega))
      have H4d18 := HU_p.drew
      have hS4d18 := Holds.kp (H4d18.f6.f6.f6.f6.f6.f6)
      refine wd_beginK [0, 5] hS4d18 (by kernel_rfl) (by kernel_rfl) rfl ?_
      refine wd_take 0 rfl (by kernel_rfl) (by kernel_rfl) hS4d18 (by decide) (fun W hW => r_load (plain_of Try.underlying43 rfl) rfl (cell_of_blk ((Kp.h hW).f6).get.2 rfl)) (ltn rfl) ?_
      refine wd_takeT 1 rfl (by kernel_rfl) (by kernel_rfl) hS4d18 (fun _ => r_move rfl) (ltn rfl) ?_
      refine wd_takeT 2 rfl (by kernel_rfl) (by kernel_rfl) hS4d18 (fun _ => r_nil rfl) (ltn rfl) ?_
      refine wd_takeT 3 rfl (by kernel_rfl) (by kernel_rfl) hS4d18 (fun _ => (by first | exact r_field0 0 Try.underlying72 rfl rfl Try.sizeOf70 (by decide) rfl | exact r_field 0 Try.underlying72 rfl rfl Try.sizeOf70 (by decide) rfl)) (ltn rfl) ?_
      refine wd_takeT 4 rfl (by kernel_rfl) (by kernel_rfl) hS4d18 (fun _ => (by first | exact r_field0 1 Try.underlying70 rfl rfl Try.sizeOf39 (by decide) rfl | exact r_field 1 Try.underlying70 rfl rfl Try.sizeOf39 (by decide) rfl)) (ltn rfl) ?_
      refine wd_take 5 rfl (by kernel_rfl) (by kernel_rfl) hS4d18 (by decide) (fun W hW => r_load (plain_of Try.underlying39 rfl) rfl (cell_of_blk ((Kp.h hW)).get.2 rfl)) (ltn rfl) ?_
      refine wd_eff 6 rfl (by kernel_rfl) (e_call (r_call rfl Try.func52 rfl rfl) (copied_row_ret H4d18.f5.f5 hBn hLn)) (ltn rfl) ?_
      rintro u19 w19 ⟨fs19, hfs19, H19⟩
      obtain ⟨es1, rfl⟩ : ∃ q, q = fs19 := ⟨_, rfl⟩
      have hes1 := hfs19
      have hS19n := Holds.kp (H19.f8.f8.f8.f8.f8.f8.f8.f8)
      refine keepK hS19n (fun W hW => (Kp.h hW).right.right.f6.f3.f3.f6.f6.f6) ?_
      refine wd_eff 7 rfl (by kernel_rfl) (e_lit_row (vs := [_]) H19 Try.underlying43 Try.sizeOf39 Try.zeroValue39 rfl rfl rfl (by decide) (ones_cons (by first | rfl | exact Rd.one ((H19).row_rd)) ones_nil)) (ltn rfl) ?_
      rintro l20 w20 H20
      have hS20n := Holds.kp (H20.f9.f9.f9.f9.f9.f9.f9.f9.f9)
      refine keepK hS20n (fun W hW => (Kp.h hW).right.f8.f8.f8.f8.f8.f8.f8.f8) ?_
      refine wd_eff 8 rfl (by kernel_rfl) (e_append (H20.row_nil none) Try.underlying43 (show (Try.prog.info? 39).map (fun i => (i.zero, i.size, i.bytes)) = some (some (.slice none 0 0), 1, 24) by kernel_rfl) rfl rfl rfl ((H20).row_rd) (ones_cons (by first | rfl | exact Rd.one ((H20.f2).row_rd)) ones_nil) (by omega) (by omega)) (ltn rfl) ?_
      rintro l21 w21 H21
      have Hd22 := H21.f2.right
      have hS22n := Holds.kp (Hd22.f9.f9.f9.f9.f9.f9.f9.f9.f9)
      refine keepX hS22n (by kernel_rfl) ?_
      refine wd_eff0 9 rfl (by kernel_rfl) (e_storeL 0 (l' := [_]) Hd22.f9 Try.sizeOf43 rfl rfl (by first | rfl | exact Rd.one ((Hd22).row_rd)) rfl rfl) ?_
      rintro _ w23 H23
      have hS23n := Holds.kp (H23.f9.f9.f9.f9.f9.f9.f9.f9.f9)
      refine keepX hS23n (by kernel_rfl) ?_
      have X := Holds.edL_freeze (es := es1) (H23.f6.f6.f9.f9.f9.f6.f7.f9.f9).deep
      have hJn : Holds w0 w23 (grpHP b1 G N 0 • blk p (.cells #[gv_p, nv_p, .int .i64 op, .int .i64 (uTot G N : Nat), .bool true] 72 (0, 0)) • Row 39 1 gv_p gs_p.length (gs_p.map (·.1)) • elsK gs_p • Row 24 3 nv_p now_p.length (now_p.flatMap BEd.enc) • edsK now_p • F) :=
        Holds.mk_grp (hs := [(u19, es1)]) (by rw [hN, ← k3_p, ← hes1]; rfl) (Holds.edLL_snoc (gs := []) X.elsK_nil.f3.f3.f2).swap
      refine wd_done (by kernel_rfl) ?_
      refine wq_join (()) ?_ ?_ ?_
      · exact (Sub.nil _)
      · exact (Sub.cons rfl (Sub.cons rfl (Sub.nil _)))
      · (try dsimp only)
        exact hJn
    · (try simp only [beq_iff_eq, bne_iff_ne, ne_eq, decide_eq_true_eq, decide_eq_false_iff_not, beq_eq_false_iff_ne, bne_eq_false_iff_eq, Bool.not_eq_true', Bool.not_eq_false', Bool.not_eq_eq_eq_not, Bool.not_true, Bool.not_false, gt_iff_lt, ge_iff_le, Int.not_lt, Int.not_le] at h2)
      have hN : nowG N = [] := if_pos (by rw [← k3_p, List.eq_nil_of_length_eq_zero (show now_p.length = 0 by omega)]; rfl)
      have hJn : Holds w0 w1 (grpHP b1 G N 0 • blk p (.cells #[gv_p, nv_p, .int .i64 op, .int .i64 (uTot G N : Nat), .bool true] 72 (0, 0)) • Row 39 1 gv_p gs_p.length (gs_p.map (·.1)) • elsK gs_p • Row 24 3 nv_p now_p.length (now_p.flatMap BEd.enc) • edsK now_p • F) :=
        Holds.mk_grp (hs := []) (by rw [hN]; rfl) ((HU_p.f5.f5.f5.f5.f5.f6).edLL_nil none).swap
      refine wc_skip ?_
      refine wq_join (()) ?_ ?_ ?_
      · exact (Sub.nil _)
      · exact (Sub.cons rfl (Sub.cons rfl (Sub.nil _)))
      · (try dsimp only)
        exact hJn
theorem groups_iter (c : Nat) (hB : ∀ g ∈ allG G N, ∀ e ∈ g, EB e) (hL : ∀ g ∈ allG G N, g.length ≤ 16384) : Iter Try.prog w0 (.func (.func 54) #[] #[.pointer (some ⟨c, 0, none⟩)]) (grpHP c G N G.length) (allG G N).length
    (fun k vs A => ∃ u, ∃ fs : List BEd, fs.map BEd.says = (allG G N).getD k [] ∧ vs = [u] ∧ A = EdL u fs) := by
  intro l J X w hy H
  refine ⟨54, [], [.pointer (some ⟨c, 0, none⟩)], _, _, rfl, Try.func54, rfl, rfl, ?_⟩
  obtain ⟨v, hs, hhs, hhl, H1⟩ := H.comm.grp_open
  have hhs' := hhs
  rw [List.take_of_length_le (by simp), ← allG_eq] at hhs
  have hlen : hs.length = (allG G N).length := by have := congrArg List.length hhs; simpa using this
  obtain ⟨a, d, hv, hc1, hc2, _⟩ := (H1.swap.row_rd).form
  subst hv
  simp only [List.nil_append, List.cons_append]
  refine ret_enter Try.func54 rfl Try.ntmps54 (Nat.le_of_ble_eq_true rfl) ?_
  dsimp only [slots0, Nat.reduceAdd]
  refine wc_seq ?_
  refine wc_region ?_
  refine wl_val (r_load (plain_of Try.underlying43 rfl) rfl (cell_of_blk (H1).get.2 rfl)) (ltn rfl) ?_
  refine wl_val (r_lenS ((H1.f2).row_rd) Try.underlying43 rfl) (ltn rfl) ?_
  refine wl_val (r_move rfl) (ltn rfl) ?_
  refine wl_nil ?_
  refine wq_seq ?_
  refine wc_block ?_
  refine wc_loop [(0, _), (5, _), (6, _)] (fun (k : Nat) => [(7, .int .i64 (k : Int))]) (fun (k : Nat) W => k ≤ hs.length ∧ Holds w0 W (blk c (.cells #[.slice a hs.length d] 43 (0, 0)) • Row 39 1 (.slice a hs.length d) hs.length (hs.map (·.1)) • elsK hs • J k)) (fun (k : Nat) => hs.length - k) (0) (Sub.cons rfl (Sub.cons rfl (Sub.cons rfl (Sub.nil _)))) (Sub.cons rfl (Sub.nil _)) ⟨by omega, H1⟩ ?_
  rintro k w1 ⟨hk, HL⟩
  dsimp only [List.cons_append, List.nil_append]
  refine wc_seq ?_
  refine wc_region ?_
  refine wl_val (r_lss rfl rfl) (ltn rfl) ?_
  refine wl_nil ?_
  refine wq_seq ?_
  refine wc_seq ?_
  refine wc_cond rfl (fun h1 => ?_) (fun h1 => ?_)
  · (try simp only [beq_iff_eq, bne_iff_ne, ne_eq, decide_eq_true_eq, decide_eq_false_iff_not, beq_eq_false_iff_ne, bne_eq_false_iff_eq, Bool.not_eq_true', Bool.not_eq_false', Bool.not_eq_eq_eq_not, Bool.not_true, Bool.not_false, gt_iff_lt, ge_iff_le, Int.not_lt, Int.not_le] at h1)
    try (exfalso; first | contradiction | omega)
    all_goals
      
      refine wc_skip ?_
      refine wq_seq ?_
      refine wc_seq ?_
      refine wc_block ?_
      refine wc_seq ?_
      refine wc_region ?_
      obtain ⟨bv, ov, cv, ev⟩ := Rd.posV ((HL.f2).row_rd) (by omega)
      cases ev
      refine wl_val (r_index Try.underlying43 Try.sizeOf39 rfl rfl (by omega)) (ltn rfl) ?_
      refine wl_val (r_load (plain_of Try.underlying39 rfl) rfl (by first | exact Rd.at1n ((HL.f2).row_rd) (by omega) | exact Rd.at0 ((HL.f2).row_rd) (by omega) | exact Rd.at1 ((HL.f2).row_rd) (by omega))) (ltn rfl) ?_
      have hkl : k < hs.length := by omega
      rw [show (hs.map (·.1)).getD k undef = (hs.getD k default).1 from by simp [List.getD_eq_getElem?_getD, hkl]]
      obtain ⟨gl, ges, hg⟩ : ∃ gl ges, hs.getD k default = (gl, ges) := ⟨_, _, rfl⟩
      rw [hg]
      have Ho2 := HL.f3
      have Hc3 := Ho2.elsK_at hkl hg
      have hge : ges.map BEd.says = (allG G N).getD k [] := by
        rw [← hhs]
        have h9 : (hs.map (fun g => g.2.map BEd.says)).getD k [] = (hs.getD k default).2.map BEd.says := by simp [List.getD_eq_getElem?_getD, hkl]
        rw [h9, hg]
      have hgm : (allG G N).getD k [] ∈ allG G N := getD_mem' (by omega)
      have hBg := EB_of hge (hB _ hgm)
      have hLg : ges.length ≤ 16384 := by
        have h7 := congrArg List.length hge
        rw [List.length_map] at h7
        have := hL _ hgm
        omega
      refine wl_val (r_assign rfl) (ltn rfl) ?_
      refine wl_nil ?_
      refine wq_seq ?_
      refine wc_seq ?_
      refine wc_region ?_
      refine wl_val (r_move rfl) (ltn rfl) ?_
      refine wl_val (r_move rfl) (ltn rfl) ?_
      refine wl_eff (e_call (r_call rfl Try.func52 rfl rfl) (copied_el_ret Hc3 hBg hLg)) (ltn rfl) ?_
      rintro u4 w4 ⟨fs4, hfs4, H4⟩
      obtain ⟨es2, rfl⟩ : ∃ q, q = fs4 := ⟨_, rfl⟩
      have hes2 := hfs4
      have Hd5 := H4.f3.right
      refine wl_eff (e_yield rfl rfl (hy k (by omega) _ _ ⟨_, es2, hes2.trans hge, rfl, rfl⟩ (elsK hs • Row 39 1 (.slice (some ⟨bv, ov, none⟩) hs.length d) hs.length (hs.map (·.1)) • blk c (.cells #[.slice (some ⟨bv, ov, none⟩) hs.length d] 43 (0, 0))) _ (Hd5.of_eq (by unfold EdL; ac_rfl))).bool) (ltn rfl) ?_
      rintro _ w6 ⟨t, rfl, ht1, ht2⟩
      refine wl_val (r_not rfl) (ltn rfl) ?_
      refine wl_nil ?_
      refine wq_seq ?_
      refine wc_cond rfl (fun h2 => ?_) (fun h2 => ?_)
      · (try simp only [beq_iff_eq, bne_iff_ne, ne_eq, decide_eq_true_eq, decide_eq_false_iff_not, beq_eq_false_iff_ne, bne_eq_false_iff_eq, Bool.not_eq_true', Bool.not_eq_false', Bool.not_eq_eq_eq_not, Bool.not_true, Bool.not_false, gt_iff_lt, ge_iff_le, Int.not_lt, Int.not_le] at h2)
        try (exfalso; first | contradiction | omega)
        all_goals
          have HX := ht2 (by simpa using h2)
          refine wc_ret ?_
          refine wq_block_ret ?_
          refine wq_then_ret ?_
          refine wq_then_ret ?_
          refine wq_block_ret ?_
          refine wq_end0 (.inl rfl) Try.results54 ?_
          exact .inr (Holds.comm (Holds.mk_grp (u := .slice (some ⟨bv, ov, none⟩) hs.length d) hhs' (HX.of_eq (by unfold EdLL; ac_rfl))))
      · (try simp only [beq_iff_eq, bne_iff_ne, ne_eq, decide_eq_true_eq, decide_eq_false_iff_not, beq_eq_false_iff_ne, bne_eq_false_iff_eq, Bool.not_eq_true', Bool.not_eq_false', Bool.not_eq_eq_eq_not, Bool.not_true, Bool.not_false, gt_iff_lt, ge_iff_le, Int.not_lt, Int.not_le] at h2)
        try (exfalso; first | contradiction | omega)
        all_goals
          have HN : Holds w0 w6 (blk c (.cells #[.slice (some ⟨bv, ov, none⟩) hs.length d] 43 (0, 0)) • Row 39 1 (.slice (some ⟨bv, ov, none⟩) hs.length d) hs.length (hs.map (·.1)) • elsK hs • J (k + 1)) := by
            have h9 := ht1 (by simpa using h2)
            exact h9.of_eq (by ac_rfl)
          refine wc_skip ?_
          refine wq_block_normal ?_
          refine wq_seq ?_
          refine wc_region ?_
          refine wl_val (r_add rfl rfl (by omega)) (ltn rfl) ?_
          refine wl_val (r_move rfl) (ltn rfl) ?_
          refine wl_nil ?_
          refine wq_round (k + 1) ?_ ?_ ?_ ?_
          · exact (Sub.cons rfl (Sub.nil _))
          · exact (Sub.cons rfl (Sub.cons rfl (Sub.cons rfl (Sub.nil _))))
          · (try dsimp only)
            exact ⟨by omega, HN.f3.f3.f3⟩
          · (try dsimp only); omega
  · (try simp only [beq_iff_eq, bne_iff_ne, ne_eq, decide_eq_true_eq, decide_eq_false_iff_not, beq_eq_false_iff_ne, bne_eq_false_iff_eq, Bool.not_eq_true', Bool.not_eq_false', Bool.not_eq_eq_eq_not, Bool.not_true, Bool.not_false, gt_iff_lt, ge_iff_le, Int.not_lt, Int.not_le] at h1)
    try (exfalso; first | contradiction | omega)
    all_goals
      
      refine wc_exit ?_
      refine wq_then_exit ?_
      refine wq_then_exit ?_
      refine wq_block_hit ?_
      refine wq_end0 (.inr rfl) Try.results54 ?_
      obtain rfl : k = hs.length := by omega
      rw [← hlen]
      exact .inl (Holds.comm (Holds.mk_grp (u := .slice a hs.length d) hhs' (HL.of_eq (by unfold EdLL; ac_rfl))))
end
end Go.Proofs.Ytaabgcfeghcmnaa
