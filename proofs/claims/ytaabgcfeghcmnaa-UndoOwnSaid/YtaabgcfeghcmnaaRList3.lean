/- The document's list of edits: how many. -/
import Derived.Test.YtaabgcfeghcmnaaRList2
set_option linter.unusedSimpArgs false
set_option linter.unusedVariables false
namespace Go.Proofs.Ytaabgcfeghcmnaa
open Go.RowKit
section
variable {w0 w : World} {F : HP} {p : Nat} {G : List (List EdA)} {N : List EdA} {op : Int}
theorem rl_edits_ret (H : Holds w0 w (RList p G N op • F)) : Ret Try.prog 42 #[.pointer (some ⟨p, 0, none⟩)] w fun v w' => v = .int .i64 (uTot G N : Nat) ∧ Holds w0 w' (RList p G N op • F) := by
  refine ret_enter Try.func42 rfl Try.ntmps42 (Nat.le_of_ble_eq_true rfl) ?_
  dsimp only [slots0, Nat.reduceAdd]
  refine wc_seq ?_
  refine wc_region ?_
  refine wl_val (r_assign rfl) (ltn rfl) ?_
  refine wl_nil ?_
  refine wq_seq ?_
  refine wc_seq ?_
  obtain ⟨gw_p, nw_p, gs_p, now_p, k1_p, k2_p, k3_p, k4_p, k5_p, k6_p, HU_p⟩ := (H).rlist
  have htot := k1_p.2.1
  unfold uTot at htot
  rw [sum_len] at htot
  obtain ⟨agw_p, cgw_p, egw_p, -⟩ := ((HU_p.f2).row_rd).form
  subst egw_p
  refine wc_region ?_
  refine wl_val (r_move rfl) (ltn rfl) ?_
  refine wl_val (r_nil rfl) (ltn rfl) ?_
  refine wl_val ((by first | exact r_field0 2 Try.underlying45 rfl rfl Try.sizeOf39 (by decide) rfl | exact r_field 2 Try.underlying45 rfl rfl Try.sizeOf39 (by decide) rfl)) (ltn rfl) ?_
  refine wl_val (r_load (plain_of Try.underlying39 rfl) rfl (cell_of_blk (HU_p).get.2 rfl)) (ltn rfl) ?_
  refine wl_val (r_lenS ((HU_p.f4).row_rd) Try.underlying39 rfl) (ltn rfl) ?_
  refine wl_val (r_assign rfl) (ltn rfl) ?_
  refine wl_nil ?_
  refine wq_seq ?_
  refine wc_seq ?_
  refine wc_seq ?_
  refine wc_region ?_
  refine wl_val (r_assign rfl) (ltn rfl) ?_
  refine wl_nil ?_
  refine wq_seq ?_
  refine wc_block ?_
  refine wc_loop [(0, _)] (fun (k : Nat) => [(3, .int .i64 ((N.length + (G.take k).flatten.length : Nat) : Int)), (4, .int .i64 (k : Int))]) (fun (k : Nat) W => k ≤ gs_p.length ∧ Holds w0 W (blk p (.cells #[.slice agw_p gs_p.length cgw_p, .int .i64 op, nw_p] 45 (0, 0)) • Row 39 1 (.slice agw_p gs_p.length cgw_p) gs_p.length (gs_p.map (·.1)) • elsK gs_p • Row 24 3 nw_p now_p.length (now_p.flatMap BEd.enc) • edsK now_p • F)) (fun (k : Nat) => gs_p.length - k) (0) (Sub.cons rfl (Sub.nil _)) (Sub.cons' rfl (by simp [k5_p]) (Sub.cons' rfl (rfl) (Sub.nil _))) ⟨by omega, HU_p.f5.f5.f5.f5.f5⟩ ?_
  rintro k w3 ⟨hk, HL⟩
  dsimp only [List.cons_append, List.nil_append]
  refine wc_seq ?_
  refine wc_seq ?_
  refine wc_region ?_
  refine wl_val (r_move rfl) (ltn rfl) ?_
  refine wl_val (r_move rfl) (ltn rfl) ?_
  refine wl_val (r_nil rfl) (ltn rfl) ?_
  refine wl_val ((by first | exact r_field0 0 Try.underlying45 rfl rfl Try.sizeOf43 (by decide) rfl | exact r_field 0 Try.underlying45 rfl rfl Try.sizeOf43 (by decide) rfl)) (ltn rfl) ?_
  refine wl_val (r_load (plain_of Try.underlying43 rfl) rfl (cell_of_blk (HL).get.2 rfl)) (ltn rfl) ?_
  refine wl_val (r_len Try.underlying43 rfl) (ltn rfl) ?_
  refine wl_val (r_lss rfl rfl) (ltn rfl) ?_
  refine wl_nil ?_
  refine wq_seq ?_
  refine wc_cond rfl (fun h1 => ?_) (fun h1 => ?_)
  · (try simp only [beq_iff_eq, bne_iff_ne, ne_eq, decide_eq_true_eq, decide_eq_false_iff_not, beq_eq_false_iff_ne, bne_eq_false_iff_eq, Bool.not_eq_true', Bool.not_eq_false', Bool.not_eq_eq_eq_not, Bool.not_true, Bool.not_false, gt_iff_lt, ge_iff_le, Int.not_lt, Int.not_le] at h1)
    
    refine wc_skip ?_
    refine wq_seq ?_
    refine wc_seq ?_
    refine wc_block ?_
    refine wc_region ?_
    refine wl_val (r_move rfl) (ltn rfl) ?_
    refine wl_val (r_move rfl) (ltn rfl) ?_
    refine wl_val (r_nil rfl) (ltn rfl) ?_
    refine wl_val ((by first | exact r_field0 0 Try.underlying45 rfl rfl Try.sizeOf43 (by decide) rfl | exact r_field 0 Try.underlying45 rfl rfl Try.sizeOf43 (by decide) rfl)) (ltn rfl) ?_
    refine wl_val (r_load (plain_of Try.underlying43 rfl) rfl (cell_of_blk (HL).get.2 rfl)) (ltn rfl) ?_
    refine wl_val (r_move rfl) (ltn rfl) ?_
    obtain ⟨bgw_p, ogw_p, rfl⟩ := Rd.pos ((HL.f2).row_rd) (by omega)
    refine wl_val (r_index Try.underlying43 Try.sizeOf39 rfl rfl (by omega)) (ltn rfl) ?_
    refine wl_val (r_load (plain_of Try.underlying39 rfl) rfl (by first | exact Rd.at1n ((HL.f2).row_rd) (by omega) | exact Rd.at0 ((HL.f2).row_rd) (by omega) | exact Rd.at1 ((HL.f2).row_rd) (by omega))) (ltn rfl) ?_
    have hkl : k < gs_p.length := by omega
    rw [show (gs_p.map (·.1)).getD k undef = (gs_p.getD k default).1 from by simp [List.getD_eq_getElem?_getD, hkl]]
    obtain ⟨gl, ges, hg⟩ : ∃ gl ges, gs_p.getD k default = (gl, ges) := ⟨_, _, rfl⟩
    rw [hg]
    have Ho4 := HL.f3
    have Hc5 := Ho4.elsK_at hkl hg
    have hge : G.getD k [] = ges.map BEd.says := by
      rw [← k2_p]
      have h9 : (gs_p.map (fun g => g.2.map BEd.says)).getD k [] = (gs_p.getD k default).2.map BEd.says := by simp [List.getD_eq_getElem?_getD, hkl]
      rw [h9, hg]
    have hft := congrArg List.length (flatten_take (G := G) (k := k) (by omega))
    rw [List.length_append, hge, List.length_map] at hft
    have hfe := flatten_le G (k + 1)
    refine wl_val (r_lenS ((Hc5).elK_rd) Try.underlying39 rfl) (ltn rfl) ?_
    refine wl_val (r_add rfl rfl (by omega)) (ltn rfl) ?_
    refine wl_val (r_assign rfl) (ltn rfl) ?_
    refine wl_nil ?_
    refine wq_block_normal ?_
    refine wq_seq ?_
    refine wc_region ?_
    refine wl_val (r_move rfl) (ltn rfl) ?_
    refine wl_val (r_add rfl rfl (by omega)) (ltn rfl) ?_
    refine wl_val (r_assign rfl) (ltn rfl) ?_
    refine wl_nil ?_
    refine wq_round (k + 1) ?_ ?_ ?_ ?_
    · exact (Sub.cons' rfl (by rw [show N.length + (G.take (k + 1)).flatten.length = N.length + (G.take k).flatten.length + ges.length from by omega, Int.natCast_add (N.length + (G.take k).flatten.length)]) (Sub.cons rfl (Sub.nil _)))
    · exact (Sub.cons rfl (Sub.nil _))
    · (try dsimp only)
      exact ⟨by omega, Hc5.right.f5.f5.f3.f5.f5⟩
    · (try dsimp only); omega
  · (try simp only [beq_iff_eq, bne_iff_ne, ne_eq, decide_eq_true_eq, decide_eq_false_iff_not, beq_eq_false_iff_ne, bne_eq_false_iff_eq, Bool.not_eq_true', Bool.not_eq_false', Bool.not_eq_eq_eq_not, Bool.not_true, Bool.not_false, gt_iff_lt, ge_iff_le, Int.not_lt, Int.not_le] at h1)
    
    refine wc_exit ?_
    refine wq_then_exit ?_
    refine wq_then_exit ?_
    refine wq_block_hit ?_
    refine wq_seq ?_
    refine wc_seq ?_
    refine wc_region ?_
    refine wl_val (r_move rfl) (ltn rfl) ?_
    refine wl_val (r_assign rfl) (ltn rfl) ?_
    refine wl_nil ?_
    refine wq_seq ?_
    refine wc_ret ?_
    refine wq_end1 (.inl rfl) Try.results42 rfl ?_
    rw [List.take_of_length_le (by omega)]
    have Ho7 := HL.f5.f5.f5.f5.f5
    have Hc8 := Holds.mk_rlistF k1_p k2_p k3_p Ho7
    exact ⟨by unfold uTot; rw [sum_len]; congr 1; omega, Hc8⟩
end
end Go.Proofs.Ytaabgcfeghcmnaa
