/- The document's list of edits: Copy. -/
import Derived.Test.YtaabgcfeghcmnaaUGroups2
set_option linter.unusedSimpArgs false
set_option linter.unusedVariables false
namespace Go.Proofs.Ytaabgcfeghcmnaa
open Go.RowKit
section
variable {w0 w : World} {F : HP} {p : Nat} {G : List (List EdA)} {N : List EdA} {op : Int}
theorem Holds.edsK_both {es : List BEd} (H : Holds w0 w (edsK es • F)) {k : Nat} (hk : k < es.length) : Holds w0 w (immI .i32 (es.getD k default).d (es.getD k default).dl • immI .i32 (es.getD k default).i (es.getD k default).il • edsK es • F) := by
  have h1 : Holds w0 w (immI .i32 (es.getD k default).d (es.getD k default).dl • edsK es • edsK es • F) := H.dup_know.dup_know.ent (know_ent (fun I h => (h k hk).1) _)
  have h2 : Holds w0 w (immI .i32 (es.getD k default).i (es.getD k default).il • immI .i32 (es.getD k default).d (es.getD k default).dl • edsK es • F) := h1.swap.ent (know_ent (fun I h => (h k hk).2) _)
  exact h2.swap
theorem rl_copy_ret (H : Holds w0 w (RList p G N op • F)) : Ret Try.prog 40 #[.pointer (some ⟨p, 0, none⟩)] w fun v w' => ∃ q, v = .pointer (some ⟨q, 0, none⟩) ∧ Holds w0 w' (RList q G N op • RList p G N op • F) := by
  refine ret_enter Try.func40 rfl Try.ntmps40 (Nat.le_of_ble_eq_true rfl) ?_
  dsimp only [slots0, Nat.reduceAdd]
  refine wc_seq ?_
  refine wc_region ?_
  refine wl_val (r_assign rfl) (ltn rfl) ?_
  refine wl_nil ?_
  refine wq_seq ?_
  refine wc_seq ?_
  obtain ⟨gw_p, nw_p, gs_p, now_p, k1_p, k2_p, k3_p, k4_p, k5_p, k6_p, HU_p⟩ := (H).rlist
  have hLn : now_p.length ≤ 16384 := by omega
  have hBn := EB_of k3_p k1_p.2.2.2.2.2
  refine wc_region ?_
  refine wl_val (r_move rfl) (ltn rfl) ?_
  refine wl_val (r_nil rfl) (ltn rfl) ?_
  refine wl_val ((by first | exact r_field0 1 Try.underlying45 rfl rfl Try.sizeOf3 (by decide) rfl | exact r_field 1 Try.underlying45 rfl rfl Try.sizeOf3 (by decide) rfl)) (ltn rfl) ?_
  refine wl_val (r_load (plain_of Try.underlying3 rfl) rfl (cell_of_blk (HU_p).get.2 rfl)) (ltn rfl) ?_
  refine wl_val (r_build (pl := #[(0, 1), (1, 1), (2, 1)]) (_) Try.underlying45 Try.zeroValue45 (fun w => by kernel_rfl) rfl (rfl)) (ltn rfl) ?_
  refine wl_eff (e_boxL (l := [_, _, _]) HU_p rfl rfl) (ltn rfl) ?_
  rintro _ w2 ⟨b2, rfl, H2⟩
  refine wl_val (r_assign rfl) (ltn rfl) ?_
  refine wl_nil ?_
  refine wq_seq ?_
  refine wc_seq ?_
  refine wc_seq ?_
  refine wc_region ?_
  refine wl_val (r_assign rfl) (ltn rfl) ?_
  refine wl_nil ?_
  refine wq_seq ?_
  refine wc_block ?_
  obtain ⟨agw_p, cgw_p, egw_p, -⟩ := ((H2.f3).row_rd).form
  subst egw_p
  refine wc_loop [(0, _), (3, _)] (fun (k : Nat) => [(4, .int .i64 (k : Int))]) (fun (k : Nat) W => k ≤ gs_p.length ∧ ∃ gu, ∃ hs : List (Value × List BEd), hs.map (fun g => g.2.map BEd.says) = G.take k ∧ Holds w0 W (blk b2 (.cells #[gu, .int .i64 op, .slice none 0 0] 45 (0, 0)) • Row 39 1 gu hs.length (hs.map (·.1)) • elsK hs • blk p (.cells #[.slice agw_p gs_p.length cgw_p, .int .i64 op, nw_p] 45 (0, 0)) • Row 39 1 (.slice agw_p gs_p.length cgw_p) gs_p.length (gs_p.map (·.1)) • elsK gs_p • Row 24 3 nw_p now_p.length (now_p.flatMap BEd.enc) • edsK now_p • F)) (fun (k : Nat) => gs_p.length - k) (0) (Sub.cons rfl (Sub.cons rfl (Sub.nil _))) (Sub.cons rfl (Sub.nil _)) ⟨by omega, _, [], rfl, ((H2.f6.f6.f6.f6.f6.f6).edLL_nil none).edLL.f3⟩ ?_
  rintro k w4 ⟨hk, gu, hs, hhs, HL⟩
  dsimp only [List.cons_append, List.nil_append]
  have hhl := congrArg List.length hhs
  rw [List.length_map, List.length_take] at hhl
  refine wc_seq ?_
  refine wc_seq ?_
  refine wc_region ?_
  refine wl_val (r_move rfl) (ltn rfl) ?_
  refine wl_val (r_move rfl) (ltn rfl) ?_
  refine wl_val (r_nil rfl) (ltn rfl) ?_
  refine wl_val ((by first | exact r_field0 0 Try.underlying45 rfl rfl Try.sizeOf43 (by decide) rfl | exact r_field 0 Try.underlying45 rfl rfl Try.sizeOf43 (by decide) rfl)) (ltn rfl) ?_
  refine wl_val (r_load (plain_of Try.underlying43 rfl) rfl (cell_of_blk (HL.f4).get.2 rfl)) (ltn rfl) ?_
  refine wl_val (r_len Try.underlying43 rfl) (ltn rfl) ?_
  refine wl_val (r_lss rfl rfl) (ltn rfl) ?_
  refine wl_nil ?_
  refine wq_seq ?_
  refine wc_cond rfl (fun h1 => ?_) (fun h1 => ?_)
  · (try simp only [beq_iff_eq, bne_iff_ne, ne_eq, decide_eq_true_eq, decide_eq_false_iff_not, beq_eq_false_iff_ne, bne_eq_false_iff_eq, Bool.not_eq_true', Bool.not_eq_false', Bool.not_eq_eq_eq_not, Bool.not_true, Bool.not_false, gt_iff_lt, ge_iff_le, Int.not_lt, Int.not_le] at h1)
    
    refine wc_skip ?_
    refine wq_seq ?_
    refine wc_seq ?_
    refine wc_block ?_
    refine wc_seq ?_
    refine wc_region ?_
    refine wl_val (r_assign rfl) (ltn rfl) ?_
    refine wl_nil ?_
    refine wq_seq ?_
    refine wc_seq ?_
    refine wc_seq ?_
    have hkl : k < gs_p.length := by omega
    obtain ⟨gl, ges, hg⟩ : ∃ gl ges, gs_p.getD k default = (gl, ges) := ⟨_, _, rfl⟩
    have hgv : (gs_p.map (·.1)).getD k undef = gl := by
      have h9 : (gs_p.map (·.1)).getD k undef = (gs_p.getD k default).1 := by simp [List.getD_eq_getElem?_getD, hkl]
      rw [h9, hg]
    have Ho5 := HL.f6
    have Hc6 := Ho5.elsK_at hkl hg
    have hge : ges.map BEd.says = G.getD k [] := by
      rw [← k2_p]
      have h9 : (gs_p.map (fun g => g.2.map BEd.says)).getD k [] = (gs_p.getD k default).2.map BEd.says := by simp [List.getD_eq_getElem?_getD, hkl]
      rw [h9, hg]
    have hgm : G.getD k [] ∈ G := getD_mem' (by omega)
    have hBg := EB_of hge (k1_p.2.2.2.2.1 _ hgm)
    have hLg : ges.length ≤ 16384 := by
      have h8 := k1_p.2.1
      unfold uTot at h8
      have h7 := congrArg List.length hge
      rw [List.length_map] at h7
      have h6 := len_mem hgm
      omega
    obtain ⟨agl, cgl, egl, -⟩ := ((Hc6).elK_rd).form
    subst egl
    refine wc_region ?_
    refine wl_val (r_assign rfl) (ltn rfl) ?_
    refine wl_nil ?_
    refine wq_seq ?_
    refine wc_block ?_
    refine wc_loop [(0, _), (3, _), (4, _)] (fun (⟨m, u⟩ : Nat × Value) => [(5, u), (6, .int .i64 (m : Int))]) (fun (⟨m, u⟩ : Nat × Value) W => m ≤ ges.length ∧ ∃ fs : List BEd, fs.map BEd.says = (ges.take m).map BEd.says ∧ Holds w0 W (Row 24 3 u fs.length (fs.flatMap BEd.enc) • edsK fs • elK (.slice agl ges.length cgl) ges • blk b2 (.cells #[gu, .int .i64 op, .slice none 0 0] 45 (0, 0)) • Row 39 1 gu hs.length (hs.map (·.1)) • elsK hs • blk p (.cells #[.slice agw_p gs_p.length cgw_p, .int .i64 op, nw_p] 45 (0, 0)) • Row 39 1 (.slice agw_p gs_p.length cgw_p) gs_p.length (gs_p.map (·.1)) • elsK gs_p • Row 24 3 nw_p now_p.length (now_p.flatMap BEd.enc) • edsK now_p • F)) (fun (⟨m, u⟩ : Nat × Value) => ges.length - m) ((0, .slice none 0 0)) (Sub.cons rfl (Sub.cons rfl (Sub.cons rfl (Sub.nil _)))) (Sub.cons rfl (Sub.cons rfl (Sub.nil _))) ⟨by omega, [], rfl, ((Hc6.f9.f9.f4.f9.f9.f9.f9.f9.f9).edL_nil none).edL⟩ ?_
    rintro ⟨m, u⟩ w8 ⟨hm, fs, hfs, HM⟩
    dsimp only [List.cons_append, List.nil_append]
    refine wc_seq ?_
    refine wc_seq ?_
    refine wc_region ?_
    refine wl_val (r_move rfl) (ltn rfl) ?_
    refine wl_val (r_move rfl) (ltn rfl) ?_
    refine wl_val (r_nil rfl) (ltn rfl) ?_
    refine wl_val ((by first | exact r_field0 0 Try.underlying45 rfl rfl Try.sizeOf43 (by decide) rfl | exact r_field 0 Try.underlying45 rfl rfl Try.sizeOf43 (by decide) rfl)) (ltn rfl) ?_
    refine wl_val (r_load (plain_of Try.underlying43 rfl) rfl (cell_of_blk (HM.f7).get.2 rfl)) (ltn rfl) ?_
    refine wl_val (r_move rfl) (ltn rfl) ?_
    obtain ⟨bgw_p, ogw_p, rfl⟩ := Rd.pos ((HM.f8).row_rd) (by omega)
    refine wl_val (r_index Try.underlying43 Try.sizeOf39 rfl rfl (by omega)) (ltn rfl) ?_
    refine wl_val (r_load (plain_of Try.underlying39 rfl) rfl (by first | exact Rd.at1n ((HM.f8).row_rd) (by omega) | exact Rd.at0 ((HM.f8).row_rd) (by omega) | exact Rd.at1 ((HM.f8).row_rd) (by omega))) (ltn rfl) ?_
    rw [hgv]
    refine wl_val (r_len Try.underlying39 rfl) (ltn rfl) ?_
    refine wl_val (r_lss rfl rfl) (ltn rfl) ?_
    refine wl_nil ?_
    refine wq_seq ?_
    refine wc_cond rfl (fun h2 => ?_) (fun h2 => ?_)
    · (try simp only [beq_iff_eq, bne_iff_ne, ne_eq, decide_eq_true_eq, decide_eq_false_iff_not, beq_eq_false_iff_ne, bne_eq_false_iff_eq, Bool.not_eq_true', Bool.not_eq_false', Bool.not_eq_eq_eq_not, Bool.not_true, Bool.not_false, gt_iff_lt, ge_iff_le, Int.not_lt, Int.not_le] at h2)
      
      refine wc_skip ?_
      refine wq_seq ?_
      refine wc_seq ?_
      refine wc_block ?_
      have hml : m < ges.length := by omega
      have hfl : fs.length = m := by have h9 := congrArg List.length hfs; simp at h9; omega
      have Hq := (HM.f3).elK_at hml
      obtain ⟨hb1, hb2⟩ := hBg m hml
      have hb1 : (ges.getD m default).dl.length ≤ 35184372087808 := hb1
      have hb2 : (ges.getD m default).il.length ≤ 35184372087808 := hb2
      refine wc_region ?_
      refine wl_val (r_move rfl) (ltn rfl) ?_
      refine wl_val (r_move rfl) (ltn rfl) ?_
      refine wl_val (r_nil rfl) (ltn rfl) ?_
      refine wl_val ((by first | exact r_field0 0 Try.underlying45 rfl rfl Try.sizeOf43 (by decide) rfl | exact r_field 0 Try.underlying45 rfl rfl Try.sizeOf43 (by decide) rfl)) (ltn rfl) ?_
      refine wl_val (r_load (plain_of Try.underlying43 rfl) rfl (cell_of_blk (Hq.f9).get.2 rfl)) (ltn rfl) ?_
      refine wl_val (r_move rfl) (ltn rfl) ?_
      refine wl_val (r_index Try.underlying43 Try.sizeOf39 rfl rfl (by omega)) (ltn rfl) ?_
      refine wl_val (r_load (plain_of Try.underlying39 rfl) rfl (by first | exact Rd.at1n ((Hq.f10).row_rd) (by omega) | exact Rd.at0 ((Hq.f10).row_rd) (by omega) | exact Rd.at1 ((Hq.f10).row_rd) (by omega))) (ltn rfl) ?_
      rw [hgv]
      refine wl_val (r_move rfl) (ltn rfl) ?_
      obtain ⟨bgl, ogl, rfl⟩ := Rd.pos ((Hq.f3).elK_rd) (by omega)
      refine wl_val (r_index Try.underlying39 Try.sizeOf24 rfl rfl (by omega)) (ltn rfl) ?_
      refine wl_val (r_load_elem (ys := [_, _, _]) ((Hq.f3).elK_rd) (by omega) Try.underlying24 rfl Try.sizeOf24 rfl (flat_elem BEd.enc_len (by omega) default) rfl) (ltn rfl) ?_
      refine wl_eff (e_call (r_call rfl Try.func20 rfl rfl) (ref_clone_ret Hq (fun W HW => (HW).imm_rd) (fun W HW => (HW.f2).imm_rd) (by omega) (by omega))) (ltn rfl) ?_
      rintro _ w9 ⟨d9, s9, rfl, H9⟩
      refine wl_eff (e_lit_one H9 Try.underlying39 Try.sizeOf24 Try.zeroValue24 rfl rfl rfl (by decide) (by decide)) (ltn rfl) ?_
      rintro l10 w10 H10
      refine wl_eff (e_append H10.f7 Try.underlying39 (show (Try.prog.info? 24).map (fun i => (i.zero, i.size, i.bytes)) = some (some (.agg #[.int .i64 0, .slice none 0 0, .slice none 0 0]), 3, 56) by kernel_rfl) rfl rfl rfl ((H10).row_rd) (ones_cons (by first | rfl | assumption) (ones_cons (by first | rfl | exact Rd.one ((H10.f2).row_rd)) (ones_cons (by first | rfl | exact Rd.one ((H10.f3).row_rd)) ones_nil))) (by omega) (by omega)) (ltn rfl) ?_
      rintro l11 w11 H11
      have Hd12 := H11.f2.right
      refine wl_val (r_assign rfl) (ltn rfl) ?_
      refine wl_nil ?_
      refine wq_block_normal ?_
      refine wq_seq ?_
      refine wc_region ?_
      refine wl_val (r_move rfl) (ltn rfl) ?_
      refine wl_val (r_add rfl rfl (by omega)) (ltn rfl) ?_
      refine wl_val (r_assign rfl) (ltn rfl) ?_
      refine wl_nil ?_
      refine wq_round ((m + 1, l11)) ?_ ?_ ?_ ?_
      · exact (Sub.cons rfl (Sub.cons rfl (Sub.nil _)))
      · exact (Sub.cons rfl (Sub.cons rfl (Sub.cons rfl (Sub.nil _))))
      · (try dsimp only)
        exact ⟨by omega, _, by rw [List.map_append, hfs, take_says (by omega)]; rfl, (Holds.edL_snoc (Hd12.f4.right.f4.right.f13.f13.f13.f13.f13.f13.f13.f13.f12.f13.f11.f13.f13).freezeI.swap.freezeI.swap.f3).edL⟩
      · (try dsimp only); omega
    · (try simp only [beq_iff_eq, bne_iff_ne, ne_eq, decide_eq_true_eq, decide_eq_false_iff_not, beq_eq_false_iff_ne, bne_eq_false_iff_eq, Bool.not_eq_true', Bool.not_eq_false', Bool.not_eq_eq_eq_not, Bool.not_true, Bool.not_false, gt_iff_lt, ge_iff_le, Int.not_lt, Int.not_le] at h2)
      
      refine wc_exit ?_
      refine wq_then_exit ?_
      refine wq_then_exit ?_
      refine wq_block_hit ?_
      refine wq_seq ?_
      rw [List.take_of_length_le (by omega)] at hfs
      have Ho13 := HM.f2.f2
      have Hc14 := Holds.edL_freeze (es := fs) Ho13.deep
      refine wc_region ?_
      refine wl_val (r_move rfl) (ltn rfl) ?_
      refine wl_val (r_move rfl) (ltn rfl) ?_
      refine wl_val (r_nil rfl) (ltn rfl) ?_
      refine wl_val ((by first | exact r_field0 0 Try.underlying45 rfl rfl Try.sizeOf43 (by decide) rfl | exact r_field 0 Try.underlying45 rfl rfl Try.sizeOf43 (by decide) rfl)) (ltn rfl) ?_
      refine wl_val (r_load (plain_of Try.underlying43 rfl) rfl (cell_of_blk (Hc14.f3).get.2 rfl)) (ltn rfl) ?_
      refine wl_val (r_move rfl) (ltn rfl) ?_
      refine wl_eff (e_lit_row (vs := [_]) Hc14 Try.underlying43 Try.sizeOf39 Try.zeroValue39 rfl rfl rfl (by decide) (ones_cons (by first | rfl | exact Rd.one ((Hc14).elK_rd)) ones_nil)) (ltn rfl) ?_
      rintro l15 w15 H15
      refine wl_eff (e_append H15.f5 Try.underlying43 (show (Try.prog.info? 39).map (fun i => (i.zero, i.size, i.bytes)) = some (some (.slice none 0 0), 1, 24) by kernel_rfl) rfl rfl rfl ((H15).row_rd) (ones_cons (by first | rfl | exact Rd.one ((H15.f2).elK_rd)) ones_nil) (by omega) (by omega)) (ltn rfl) ?_
      rintro l16 w16 H16
      have Hd17 := H16.f2.right
      refine wl_val (r_nil rfl) (ltn rfl) ?_
      refine wl_val ((by first | exact r_field0 0 Try.underlying45 rfl rfl Try.sizeOf43 (by decide) rfl | exact r_field 0 Try.underlying45 rfl rfl Try.sizeOf43 (by decide) rfl)) (ltn rfl) ?_
      refine wl_eff0 (e_storeL 0 (l' := [_, _, _]) Hd17.f4 Try.sizeOf43 rfl rfl (by first | rfl | exact Rd.one ((Hd17).row_rd)) rfl rfl) ?_
      rintro _ w18 H18
      have HN := (Holds.edLL_snoc (H18.f4.right.f9.f9.f9.f9.f9.f6.f9.f9.f9)).edLL.f3
      have hnew : (hs ++ [(u, fs)]).map (fun g => g.2.map BEd.says) = G.take (k + 1) := by rw [List.map_append, hhs, take_getD (by omega), ← hge, ← hfs]; rfl
      refine wl_nil ?_
      refine wq_block_normal ?_
      refine wq_seq ?_
      refine wc_region ?_
      refine wl_val (r_move rfl) (ltn rfl) ?_
      refine wl_val (r_add rfl rfl (by omega)) (ltn rfl) ?_
      refine wl_val (r_assign rfl) (ltn rfl) ?_
      refine wl_nil ?_
      refine wq_round (k + 1) ?_ ?_ ?_ ?_
      · exact (Sub.cons rfl (Sub.nil _))
      · exact (Sub.cons rfl (Sub.cons rfl (Sub.nil _)))
      · (try dsimp only)
        exact ⟨by omega, _, _, hnew, HN⟩
      · (try dsimp only); omega
  · (try simp only [beq_iff_eq, bne_iff_ne, ne_eq, decide_eq_true_eq, decide_eq_false_iff_not, beq_eq_false_iff_ne, bne_eq_false_iff_eq, Bool.not_eq_true', Bool.not_eq_false', Bool.not_eq_eq_eq_not, Bool.not_true, Bool.not_false, gt_iff_lt, ge_iff_le, Int.not_lt, Int.not_le] at h1)
    
    refine wc_exit ?_
    refine wq_then_exit ?_
    refine wq_then_exit ?_
    refine wq_block_hit ?_
    refine wq_seq ?_
    refine wc_seq ?_
    refine wc_seq ?_
    refine wc_region ?_
    refine wl_val (r_assign rfl) (ltn rfl) ?_
    refine wl_nil ?_
    refine wq_seq ?_
    refine wc_block ?_
    rw [List.take_of_length_le (by omega)] at hhs
    obtain ⟨anw_p, cnw_p, enw_p, -⟩ := ((HL.f7).row_rd).form
    subst enw_p
    refine wc_loop [(0, _), (3, _)] (fun (m : Nat) => [(7, .int .i64 (m : Int))]) (fun (m : Nat) W => m ≤ now_p.length ∧ ∃ nu, ∃ fs : List BEd, fs.map BEd.says = (now_p.take m).map BEd.says ∧ Holds w0 W (blk b2 (.cells #[gu, .int .i64 op, nu] 45 (0, 0)) • Row 39 1 gu hs.length (hs.map (·.1)) • elsK hs • Row 24 3 nu fs.length (fs.flatMap BEd.enc) • edsK fs • blk p (.cells #[.slice agw_p gs_p.length cgw_p, .int .i64 op, .slice anw_p now_p.length cnw_p] 45 (0, 0)) • Row 39 1 (.slice agw_p gs_p.length cgw_p) gs_p.length (gs_p.map (·.1)) • elsK gs_p • Row 24 3 (.slice anw_p now_p.length cnw_p) now_p.length (now_p.flatMap BEd.enc) • edsK now_p • F)) (fun (m : Nat) => now_p.length - m) (0) (Sub.cons rfl (Sub.cons rfl (Sub.nil _))) (Sub.cons rfl (Sub.nil _)) ⟨by omega, _, [], rfl, ((HL.f8.f8.f8.f8.f8.f8.f8.f8).edL_nil none).edL.f5.f5.f5⟩ ?_
    rintro m w20 ⟨hm, nu, fs, hfs, HM⟩
    dsimp only [List.cons_append, List.nil_append]
    refine wc_seq ?_
    refine wc_seq ?_
    refine wc_region ?_
    refine wl_val (r_move rfl) (ltn rfl) ?_
    refine wl_val (r_move rfl) (ltn rfl) ?_
    refine wl_val (r_nil rfl) (ltn rfl) ?_
    refine wl_val ((by first | exact r_field0 2 Try.underlying45 rfl rfl Try.sizeOf39 (by decide) rfl | exact r_field 2 Try.underlying45 rfl rfl Try.sizeOf39 (by decide) rfl)) (ltn rfl) ?_
    refine wl_val (r_load (plain_of Try.underlying39 rfl) rfl (cell_of_blk (HM.f6).get.2 rfl)) (ltn rfl) ?_
    refine wl_val (r_len Try.underlying39 rfl) (ltn rfl) ?_
    refine wl_val (r_lss rfl rfl) (ltn rfl) ?_
    refine wl_nil ?_
    refine wq_seq ?_
    refine wc_cond rfl (fun h3 => ?_) (fun h3 => ?_)
    · (try simp only [beq_iff_eq, bne_iff_ne, ne_eq, decide_eq_true_eq, decide_eq_false_iff_not, beq_eq_false_iff_ne, bne_eq_false_iff_eq, Bool.not_eq_true', Bool.not_eq_false', Bool.not_eq_eq_eq_not, Bool.not_true, Bool.not_false, gt_iff_lt, ge_iff_le, Int.not_lt, Int.not_le] at h3)
      
      refine wc_skip ?_
      refine wq_seq ?_
      refine wc_seq ?_
      refine wc_block ?_
      have hml : m < now_p.length := by omega
      have hfl : fs.length = m := by have h9 := congrArg List.length hfs; simp at h9; omega
      obtain ⟨hb1, hb2⟩ := hBn m hml
      have hb1 : (now_p.getD m default).dl.length ≤ 35184372087808 := hb1
      have hb2 : (now_p.getD m default).il.length ≤ 35184372087808 := hb2
      have Hq := (HM.f10).edsK_both hml
      have H14d20 := Hq.drew
      have hS14d20 := Holds.kp (H14d20.f12.f12.f12.f12.f12.f12.f12.f12.f12.f12.f12.f12)
      refine wd_beginK [4, 8, 11] hS14d20 (by kernel_rfl) (by kernel_rfl) rfl ?_
      refine wd_takeT 0 rfl (by kernel_rfl) (by kernel_rfl) hS14d20 (fun _ => r_move rfl) (ltn rfl) ?_
      refine wd_takeT 1 rfl (by kernel_rfl) (by kernel_rfl) hS14d20 (fun _ => r_move rfl) (ltn rfl) ?_
      refine wd_takeT 2 rfl (by kernel_rfl) (by kernel_rfl) hS14d20 (fun _ => r_nil rfl) (ltn rfl) ?_
      refine wd_takeT 3 rfl (by kernel_rfl) (by kernel_rfl) hS14d20 (fun _ => (by first | exact r_field0 2 Try.underlying45 rfl rfl Try.sizeOf39 (by decide) rfl | exact r_field 2 Try.underlying45 rfl rfl Try.sizeOf39 (by decide) rfl)) (ltn rfl) ?_
      refine wd_take 4 rfl (by kernel_rfl) (by kernel_rfl) hS14d20 (by decide) (fun W hW => r_load (plain_of Try.underlying39 rfl) rfl (cell_of_blk ((Kp.h hW).f4).get.2 rfl)) (ltn rfl) ?_
      refine wd_takeT 5 rfl (by kernel_rfl) (by kernel_rfl) hS14d20 (fun _ => r_move rfl) (ltn rfl) ?_
      refine wd_takeT 6 rfl (by kernel_rfl) (by kernel_rfl) hS14d20 (fun _ => r_nil rfl) (ltn rfl) ?_
      refine wd_takeT 7 rfl (by kernel_rfl) (by kernel_rfl) hS14d20 (fun _ => (by first | exact r_field0 2 Try.underlying45 rfl rfl Try.sizeOf39 (by decide) rfl | exact r_field 2 Try.underlying45 rfl rfl Try.sizeOf39 (by decide) rfl)) (ltn rfl) ?_
      refine wd_take 8 rfl (by kernel_rfl) (by kernel_rfl) hS14d20 (by decide) (fun W hW => r_load (plain_of Try.underlying39 rfl) rfl (cell_of_blk ((Kp.h hW).f9).get.2 rfl)) (ltn rfl) ?_
      refine wd_takeT 9 rfl (by kernel_rfl) (by kernel_rfl) hS14d20 (fun _ => r_move rfl) (ltn rfl) ?_
      obtain ⟨bnw_p, onw_p, rfl⟩ := Rd.pos ((H14d20.f12).row_rd) (by omega)
      refine wd_takeT 10 rfl (by kernel_rfl) (by kernel_rfl) hS14d20 (fun _ => r_index Try.underlying39 Try.sizeOf24 rfl rfl (by omega)) (ltn rfl) ?_
      refine wd_take 11 rfl (by kernel_rfl) (by kernel_rfl) hS14d20 (by decide) (fun W hW => r_load_elem (ys := [_, _, _]) (((Kp.h hW).f12).row_rd) (by omega) Try.underlying24 rfl Try.sizeOf24 rfl (flat_elem BEd.enc_len (by omega) default) rfl) (ltn rfl) ?_
      refine wd_eff 12 rfl (by kernel_rfl) (e_call (r_call rfl Try.func20 rfl rfl) (ref_clone_ret H14d20 (fun W HW => (HW).imm_rd) (fun W HW => (HW.f2).imm_rd) (by omega) (by omega))) (ltn rfl) ?_
      rintro _ w21 ⟨d21, s21, rfl, H21⟩
      have hS21n := Holds.kp (H21.f14.f14.f14.f14.f14.f14.f14.f14.f14.f14.f14.f14.f14.f14)
      refine keepK hS21n (fun W hW => (Kp.h hW).right.right.f12.f12.f12.f12.f12.f12.f12.f12.f12.f12.f12.f12) ?_
      refine wd_eff 13 rfl (by kernel_rfl) (e_lit_one H21 Try.underlying39 Try.sizeOf24 Try.zeroValue24 rfl rfl rfl (by decide) (by decide)) (ltn rfl) ?_
      rintro l22 w22 H22
      have hS22n := Holds.kp (H22.f15.f15.f15.f15.f15.f15.f15.f15.f15.f15.f15.f15.f15.f15.f15)
      refine keepK hS22n (fun W hW => (Kp.h hW).right.f14.f14.f14.f14.f14.f14.f14.f14.f14.f14.f14.f14.f14.f14) ?_
      refine wd_eff 14 rfl (by kernel_rfl) (e_append H22.f10 Try.underlying39 (show (Try.prog.info? 24).map (fun i => (i.zero, i.size, i.bytes)) = some (some (.agg #[.int .i64 0, .slice none 0 0, .slice none 0 0]), 3, 56) by kernel_rfl) rfl rfl rfl ((H22).row_rd) (ones_cons (by first | rfl | assumption) (ones_cons (by first | rfl | exact Rd.one ((H22.f2).row_rd)) (ones_cons (by first | rfl | exact Rd.one ((H22.f3).row_rd)) ones_nil))) (by omega) (by omega)) (ltn rfl) ?_
      rintro l23 w23 H23
      have Hd24 := H23.f2.right
      have hS24n := Holds.kp (Hd24.f14.f14.f14.f14.f14.f14.f14.f14.f14.f14.f14.f14.f14.f14)
      refine keepX hS24n (by kernel_rfl) ?_
      refine wd_takeT 15 rfl (by kernel_rfl) (by kernel_rfl) hS24n (fun _ => r_nil rfl) (ltn rfl) ?_
      refine wd_takeT 16 rfl (by kernel_rfl) (by kernel_rfl) hS24n (fun _ => (by first | exact r_field0 2 Try.underlying45 rfl rfl Try.sizeOf39 (by decide) rfl | exact r_field 2 Try.underlying45 rfl rfl Try.sizeOf39 (by decide) rfl)) (ltn rfl) ?_
      refine wd_eff0 17 rfl (by kernel_rfl) (e_storeL 2 (l' := [_, _, _]) Hd24.f7 Try.sizeOf39 rfl rfl (by first | rfl | exact Rd.one ((Hd24).row_rd)) rfl rfl) ?_
      rintro _ w25 H25
      have hS25n := Holds.kp (H25.f14.f14.f14.f14.f14.f14.f14.f14.f14.f14.f14.f14.f14.f14)
      refine keepX hS25n (by kernel_rfl) ?_
      refine wd_done (by kernel_rfl) ?_
      refine wq_block_normal ?_
      refine wq_seq ?_
      refine wc_region ?_
      refine wl_val (r_move rfl) (ltn rfl) ?_
      refine wl_val (r_add rfl rfl (by omega)) (ltn rfl) ?_
      refine wl_val (r_assign rfl) (ltn rfl) ?_
      refine wl_nil ?_
      refine wq_round (m + 1) ?_ ?_ ?_ ?_
      · exact (Sub.cons rfl (Sub.nil _))
      · exact (Sub.cons rfl (Sub.cons rfl (Sub.nil _)))
      · (try dsimp only)
        exact ⟨by omega, _, _, by rw [List.map_append, hfs, take_says (by omega)]; rfl, (Holds.edL_snoc (H25.f5.right.f5.right.f5.f12.f12.f12.f12.f11.f11.f8.f12.f10.f12.f12).freezeI.swap.freezeI.swap.f3).edL.f5.f5.f5⟩
      · (try dsimp only); omega
    · (try simp only [beq_iff_eq, bne_iff_ne, ne_eq, decide_eq_true_eq, decide_eq_false_iff_not, beq_eq_false_iff_ne, bne_eq_false_iff_eq, Bool.not_eq_true', Bool.not_eq_false', Bool.not_eq_eq_eq_not, Bool.not_true, Bool.not_false, gt_iff_lt, ge_iff_le, Int.not_lt, Int.not_le] at h3)
      
      refine wc_exit ?_
      refine wq_then_exit ?_
      refine wq_then_exit ?_
      refine wq_block_hit ?_
      refine wq_seq ?_
      refine wc_seq ?_
      refine wc_region ?_
      refine wl_val (r_move rfl) (ltn rfl) ?_
      refine wl_val (r_assign rfl) (ltn rfl) ?_
      refine wl_nil ?_
      refine wq_seq ?_
      refine wc_ret ?_
      refine wq_end1 (.inl rfl) Try.results40 rfl ?_
      rw [List.take_of_length_le (by omega)] at hfs
      have X := Holds.mk_rlistF (gs := hs) (now := fs) k1_p hhs (hfs.trans k3_p) (HM.f10.f10.f10.f10.f10.f10.f10.f10.f10.f10)
      have Y := Holds.mk_rlistF k1_p k2_p k3_p X.f6.f6.f6.f6.f6
      exact ⟨_, rfl, Y.swap⟩
end
end Go.Proofs.Ytaabgcfeghcmnaa
