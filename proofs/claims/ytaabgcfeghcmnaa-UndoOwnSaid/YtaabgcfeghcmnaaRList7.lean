/- The document's list of edits: All, Copy. -/
import Derived.Test.YtaabgcfeghcmnaaRList6
set_option linter.unusedSimpArgs false
set_option linter.unusedVariables false
namespace Go.Proofs.Ytaabgcfeghcmnaa
open Go.RowKit
def allG (G : List (List EdA)) (N : List EdA) : List (List EdA) := (closeG G N).reverse
def nowG (N : List EdA) : List (List EdA) := if N = [] then [] else [N]
theorem nowG_len (N : List EdA) : (nowG N).length ≤ 1 := by unfold nowG; split <;> simp
theorem allG_eq (G : List (List EdA)) (N : List EdA) : allG G N = nowG N ++ G.reverse := by
  unfold allG nowG closeG; split <;> simp
theorem drop_rev {G : List (List EdA)} {m : Nat} (hm : m < G.length) : (G.drop m).reverse = (G.drop (m + 1)).reverse ++ [G.getD m []] := by
  rw [List.drop_eq_getElem_cons hm, List.reverse_cons, List.getD_eq_getElem?_getD, List.getElem?_eq_getElem hm]
  rfl
section
variable {w0 w : World} {F : HP} {p : Nat} {G : List (List EdA)} {N : List EdA} {op : Int} {v u : Value} {es fs : List BEd}
theorem rl_all_ret (H : Holds w0 w (RList p G N op • F)) : Ret Try.prog 25 #[.pointer (some ⟨p, 0, none⟩)] w fun v w' => ∃ hs : List (Value × List BEd), hs.map (fun g => g.2.map BEd.says) = allG G N ∧
    Holds w0 w' (Row 39 1 v hs.length (hs.map (·.1)) • elsK hs • F) := by
  rw [allG_eq]
  refine ret_enter Try.func25 rfl Try.ntmps25 (Nat.le_of_ble_eq_true rfl) ?_
  dsimp only [slots0, Nat.reduceAdd]
  refine wc_seq ?_
  refine wc_region ?_
  refine wl_val (r_assign rfl) (ltn rfl) ?_
  refine wl_nil ?_
  refine wq_seq ?_
  refine wc_seq ?_
  obtain ⟨gw_p, nw_p, gs_p, now_p, k1_p, k2_p, k3_p, k4_p, k5_p, k6_p, HU_p⟩ := (H).rlist
  refine wc_region ?_
  refine wl_val (r_assign rfl) (ltn rfl) ?_
  refine wl_nil ?_
  refine wq_seq ?_
  refine wc_join [(0, _)] (fun (u : Value) => [(3, u)]) (fun (u : Value) W => ∃ hs : List (Value × List BEd), hs.map (fun g => g.2.map BEd.says) = nowG N ∧ Holds w0 W (Row 39 1 u hs.length (hs.map (·.1)) • elsK hs • blk p (.cells #[gw_p, .int .i64 op, nw_p] 45 (0, 0)) • Row 39 1 gw_p gs_p.length (gs_p.map (·.1)) • elsK gs_p • F)) (Sub.cons rfl (Sub.nil _)) ?_ ?_
  · rintro u w2 ⟨hs1, hhs1, HJ⟩
    dsimp only [List.cons_append, List.nil_append]
    have hnl := nowG_len N
    obtain ⟨agw_p, cgw_p, egw_p, -⟩ := ((HJ.f4).row_rd).form
    subst egw_p
    refine wc_seq ?_
    refine wc_seq ?_
    refine wc_region ?_
    refine wl_val (r_move rfl) (ltn rfl) ?_
    refine wl_val (r_nil rfl) (ltn rfl) ?_
    refine wl_val ((by first | exact r_field0 0 Try.underlying45 rfl rfl Try.sizeOf43 (by decide) rfl | exact r_field 0 Try.underlying45 rfl rfl Try.sizeOf43 (by decide) rfl)) (ltn rfl) ?_
    refine wl_val (r_load (plain_of Try.underlying43 rfl) rfl (cell_of_blk (HJ.f3).get.2 rfl)) (ltn rfl) ?_
    refine wl_val (r_len Try.underlying43 rfl) (ltn rfl) ?_
    refine wl_val (r_sub rfl rfl (by omega)) (ltn rfl) ?_
    refine wl_val (r_assign rfl) (ltn rfl) ?_
    refine wl_nil ?_
    refine wq_seq ?_
    refine wc_block ?_
    refine wc_loop [(0, _)] (fun (⟨k, u⟩ : Nat × Value) => [(3, u), (4, .int .i64 ((k : Int) - 1))]) (fun (⟨k, u⟩ : Nat × Value) W => k ≤ gs_p.length ∧ ∃ hs : List (Value × List BEd), hs.map (fun g => g.2.map BEd.says) = nowG N ++ (G.drop k).reverse ∧ Holds w0 W (Row 39 1 u hs.length (hs.map (·.1)) • elsK hs • blk p (.cells #[.slice agw_p gs_p.length cgw_p, .int .i64 op, nw_p] 45 (0, 0)) • Row 39 1 (.slice agw_p gs_p.length cgw_p) gs_p.length (gs_p.map (·.1)) • elsK gs_p • F)) (fun (⟨k, u⟩ : Nat × Value) => k) ((gs_p.length, u)) (Sub.cons rfl (Sub.nil _)) (Sub.cons rfl (Sub.cons rfl (Sub.nil _))) ⟨by omega, hs1, by rw [List.drop_of_length_le (by omega), hhs1]; simp, HJ.f5.f5.f5.f5.f5⟩ ?_
    rintro ⟨k, u⟩ w4 ⟨hk, hs, hhs, HL⟩
    dsimp only [List.cons_append, List.nil_append]
    refine wc_seq ?_
    refine wc_seq ?_
    refine wc_region ?_
    refine wl_val (r_move rfl) (ltn rfl) ?_
    refine wl_val (r_geq rfl rfl) (ltn rfl) ?_
    refine wl_nil ?_
    refine wq_seq ?_
    refine wc_cond rfl (fun h1 => ?_) (fun h1 => ?_)
    · (try simp only [beq_iff_eq, bne_iff_ne, ne_eq, decide_eq_true_eq, decide_eq_false_iff_not, beq_eq_false_iff_ne, bne_eq_false_iff_eq, Bool.not_eq_true', Bool.not_eq_false', Bool.not_eq_eq_eq_not, Bool.not_true, Bool.not_false, gt_iff_lt, ge_iff_le, Int.not_lt, Int.not_le] at h1)
      
      refine wc_skip ?_
      refine wq_seq ?_
      refine wc_seq ?_
      refine wc_block ?_
      obtain ⟨m, rfl⟩ : ∃ m, k = m + 1 := ⟨k - 1, by omega⟩
      rw [show (((m + 1 : Nat) : Int) - 1) = (m : Int) from by omega]
      have hkl : m < gs_p.length := by omega
      have hhl := congrArg List.length hhs
      rw [List.length_map, List.length_append, List.length_reverse, List.length_drop] at hhl
      refine wc_region ?_
      refine wl_val (r_move rfl) (ltn rfl) ?_
      refine wl_val (r_move rfl) (ltn rfl) ?_
      refine wl_val (r_nil rfl) (ltn rfl) ?_
      refine wl_val ((by first | exact r_field0 0 Try.underlying45 rfl rfl Try.sizeOf43 (by decide) rfl | exact r_field 0 Try.underlying45 rfl rfl Try.sizeOf43 (by decide) rfl)) (ltn rfl) ?_
      refine wl_val (r_load (plain_of Try.underlying43 rfl) rfl (cell_of_blk (HL.f3).get.2 rfl)) (ltn rfl) ?_
      refine wl_val (r_move rfl) (ltn rfl) ?_
      obtain ⟨bgw_p, ogw_p, rfl⟩ := Rd.pos ((HL.f4).row_rd) (by omega)
      refine wl_val (r_index Try.underlying43 Try.sizeOf39 rfl rfl (by omega)) (ltn rfl) ?_
      refine wl_val (r_load (plain_of Try.underlying39 rfl) rfl (by first | exact Rd.at1n ((HL.f4).row_rd) (by omega) | exact Rd.at0 ((HL.f4).row_rd) (by omega) | exact Rd.at1 ((HL.f4).row_rd) (by omega))) (ltn rfl) ?_
      rw [show (gs_p.map (·.1)).getD m undef = (gs_p.getD m default).1 from by simp [List.getD_eq_getElem?_getD, hkl]]
      obtain ⟨gl, ges, hg⟩ : ∃ gl ges, gs_p.getD m default = (gl, ges) := ⟨_, _, rfl⟩
      rw [hg]
      have Ho5 := HL.f5
      have Hc6 := Ho5.elsK_at hkl hg
      have hge : G.getD m [] = ges.map BEd.says := by
        rw [← k2_p]
        have h9 : (gs_p.map (fun g => g.2.map BEd.says)).getD m [] = (gs_p.getD m default).2.map BEd.says := by simp [List.getD_eq_getElem?_getD, hkl]
        rw [h9, hg]
      refine wl_eff (e_lit_row (vs := [_]) Hc6 Try.underlying43 Try.sizeOf39 Try.zeroValue39 rfl rfl rfl (by decide) (ones_cons (by first | rfl | exact Rd.one ((Hc6).elK_rd)) ones_nil)) (ltn rfl) ?_
      rintro l7 w7 H7
      refine wl_eff (e_append H7.f4 Try.underlying43 (show (Try.prog.info? 39).map (fun i => (i.zero, i.size, i.bytes)) = some (some (.slice none 0 0), 1, 24) by kernel_rfl) rfl rfl rfl ((H7).row_rd) (ones_cons (by first | rfl | exact Rd.one ((H7.f2).elK_rd)) ones_nil) (by omega) (by omega)) (ltn rfl) ?_
      rintro l8 w8 H8
      have Hd9 := H8.f2.right
      refine wl_val (r_assign rfl) (ltn rfl) ?_
      refine wl_nil ?_
      refine wq_block_normal ?_
      refine wq_seq ?_
      refine wc_region ?_
      refine wl_val (r_move rfl) (ltn rfl) ?_
      refine wl_val (r_sub rfl rfl (by omega)) (ltn rfl) ?_
      refine wl_val (r_assign rfl) (ltn rfl) ?_
      refine wl_nil ?_
      refine wq_round ((m, l8)) ?_ ?_ ?_ ?_
      · exact (Sub.cons rfl (Sub.cons rfl (Sub.nil _)))
      · exact (Sub.cons rfl (Sub.nil _))
      · (try dsimp only)
        exact ⟨by omega, hs ++ [(gl, ges)], by rw [List.map_append, hhs, drop_rev (m := m) (by omega), hge, List.append_assoc]; rfl, (Holds.edLL_snoc (Hd9.f3.f6.f6.f6.f6.f6)).edLL⟩
      · (try dsimp only); omega
    · (try simp only [beq_iff_eq, bne_iff_ne, ne_eq, decide_eq_true_eq, decide_eq_false_iff_not, beq_eq_false_iff_ne, bne_eq_false_iff_eq, Bool.not_eq_true', Bool.not_eq_false', Bool.not_eq_eq_eq_not, Bool.not_true, Bool.not_false, gt_iff_lt, ge_iff_le, Int.not_lt, Int.not_le] at h1)
      
      refine wc_exit ?_
      refine wq_then_exit ?_
      refine wq_then_exit ?_
      refine wq_block_hit ?_
      refine wq_seq ?_
      refine wc_seq ?_
      refine wc_region ?_
      refine wl_val (r_move rfl) (ltn rfl) ?_
      refine wl_val (r_assign rfl) (ltn rfl) ?_
      refine wl_nil ?_
      refine wq_seq ?_
      refine wc_ret ?_
      refine wq_end1 (.inl rfl) Try.results25 rfl ?_
      obtain rfl : k = 0 := by omega
      rw [List.drop_zero] at hhs
      exact ⟨_, hhs, HL.f3.right.f3.right.f3.right.f2.f2⟩
  · skip
    refine wc_seq ?_
    refine wc_region ?_
    refine wl_val (r_move rfl) (ltn rfl) ?_
    refine wl_val (r_nil rfl) (ltn rfl) ?_
    refine wl_val ((by first | exact r_field0 2 Try.underlying45 rfl rfl Try.sizeOf39 (by decide) rfl | exact r_field 2 Try.underlying45 rfl rfl Try.sizeOf39 (by decide) rfl)) (ltn rfl) ?_
    refine wl_val (r_load (plain_of Try.underlying39 rfl) rfl (cell_of_blk (HU_p).get.2 rfl)) (ltn rfl) ?_
    refine wl_val (r_lenS ((HU_p.f4).row_rd) Try.underlying39 rfl) (ltn rfl) ?_
    refine wl_val (r_gtr rfl rfl) (ltn rfl) ?_
    refine wl_nil ?_
    refine wq_seq ?_
    refine wc_cond rfl (fun h2 => ?_) (fun h2 => ?_)
    · (try simp only [beq_iff_eq, bne_iff_ne, ne_eq, decide_eq_true_eq, decide_eq_false_iff_not, beq_eq_false_iff_ne, bne_eq_false_iff_eq, Bool.not_eq_true', Bool.not_eq_false', Bool.not_eq_eq_eq_not, Bool.not_true, Bool.not_false, gt_iff_lt, ge_iff_le, Int.not_lt, Int.not_le] at h2)
      have hN : nowG N = [N] := if_neg (by rintro rfl; exact absurd k5_p (by simp only [List.length_nil]; omega))
      have Ho10 := HU_p.f5.f5
      have Hc11 := Holds.edL_freeze (es := now_p) Ho10.deep
      refine wc_region ?_
      refine wl_val (r_move rfl) (ltn rfl) ?_
      refine wl_val (r_move rfl) (ltn rfl) ?_
      refine wl_val (r_nil rfl) (ltn rfl) ?_
      refine wl_val ((by first | exact r_field0 2 Try.underlying45 rfl rfl Try.sizeOf39 (by decide) rfl | exact r_field 2 Try.underlying45 rfl rfl Try.sizeOf39 (by decide) rfl)) (ltn rfl) ?_
      refine wl_val (r_load (plain_of Try.underlying39 rfl) rfl (cell_of_blk (Hc11.f2).get.2 rfl)) (ltn rfl) ?_
      refine wl_eff (e_lit_row (vs := [_]) Hc11 Try.underlying43 Try.sizeOf39 Try.zeroValue39 rfl rfl rfl (by decide) (ones_cons (by first | rfl | exact Rd.one ((Hc11).elK_rd)) ones_nil)) (ltn rfl) ?_
      rintro l12 w12 H12
      refine wl_eff (e_append (H12.row_nil none) Try.underlying43 (show (Try.prog.info? 39).map (fun i => (i.zero, i.size, i.bytes)) = some (some (.slice none 0 0), 1, 24) by kernel_rfl) rfl rfl rfl ((H12).row_rd) (ones_cons (by first | rfl | exact Rd.one ((H12.f2).elK_rd)) ones_nil) (by omega) (by omega)) (ltn rfl) ?_
      rintro l13 w13 H13
      have Hd14 := H13.f2.right
      refine wl_val (r_assign rfl) (ltn rfl) ?_
      have hJn : ∃ hs : List (Value × List BEd), hs.map (fun g => g.2.map BEd.says) = nowG N ∧ Holds w0 w13 (Row 39 1 l13 hs.length (hs.map (·.1)) • elsK hs • blk p (.cells #[gw_p, .int .i64 op, nw_p] 45 (0, 0)) • Row 39 1 gw_p gs_p.length (gs_p.map (·.1)) • elsK gs_p • F) :=
        ⟨[(nw_p, now_p)], by rw [hN, ← k3_p]; rfl, (Holds.edLL_snoc (gs := []) ((Hd14.f5.f5.f5.f4.f5).elsK_nil.f3.f3.f2)).edLL⟩
      refine wl_nil ?_
      refine wq_join (_) (Sub.cons rfl (Sub.nil _)) (Sub.cons rfl (Sub.nil _)) (by (try dsimp only); exact hJn)
    · (try simp only [beq_iff_eq, bne_iff_ne, ne_eq, decide_eq_true_eq, decide_eq_false_iff_not, beq_eq_false_iff_ne, bne_eq_false_iff_eq, Bool.not_eq_true', Bool.not_eq_false', Bool.not_eq_eq_eq_not, Bool.not_true, Bool.not_false, gt_iff_lt, ge_iff_le, Int.not_lt, Int.not_le] at h2)
      have hN : nowG N = [] := if_pos (by rw [← k3_p, List.eq_nil_of_length_eq_zero (show now_p.length = 0 by omega)]; rfl)
      have hJn : ∃ hs : List (Value × List BEd), hs.map (fun g => g.2.map BEd.says) = nowG N ∧ Holds w0 w (Row 39 1 (.slice none 0 0) hs.length (hs.map (·.1)) • elsK hs • blk p (.cells #[gw_p, .int .i64 op, nw_p] 45 (0, 0)) • Row 39 1 gw_p gs_p.length (gs_p.map (·.1)) • elsK gs_p • F) :=
        ⟨[], hN.symm, ((HU_p.f4.right.f4.right.f3.f3.f3).edLL_nil none).edLL⟩
      refine wc_skip ?_
      refine wq_join (_) (Sub.cons rfl (Sub.nil _)) (Sub.cons rfl (Sub.nil _)) (by (try dsimp only); exact hJn)
end
end Go.Proofs.Ytaabgcfeghcmnaa
