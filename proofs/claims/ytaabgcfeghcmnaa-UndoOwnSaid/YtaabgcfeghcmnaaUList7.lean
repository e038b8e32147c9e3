/- Lists of edits that are taken back: Clone. -/
import Derived.Test.YtaabgcfeghcmnaaUList6
set_option linter.unusedSimpArgs false
set_option linter.unusedVariables false
namespace Go.Proofs.Ytaabgcfeghcmnaa
open Go.RowKit
theorem take_getD {G : List (List EdA)} {k : Nat} (hk : k < G.length) : G.take (k + 1) = G.take k ++ [G.getD k []] := by
  rw [List.take_succ_eq_append_getElem hk, List.getD_eq_getElem?_getD, List.getElem?_eq_getElem hk]
  rfl
theorem len_mem {G : List (List EdA)} {g : List EdA} (h : g ∈ G) : g.length ≤ (G.map List.length).sum := by
  induction G with
  | nil => cases h
  | cons x G ih =>
    rw [List.map_cons, List.sum_cons]
    rcases List.mem_cons.1 h with rfl | h
    · omega
    · have := ih h; omega
theorem EB_of {es : List BEd} {l : List EdA} (h : es.map BEd.says = l) (hl : ∀ e ∈ l, EB e) : ∀ k, k < es.length → EB (es.getD k default).says := fun k hk =>
  hl _ (by rw [← h]; exact List.mem_map_of_mem (getD_mem' hk))
section
variable {w0 w : World} {F : HP} {p : Nat} {G : List (List EdA)} {N : List EdA} {op : Int}
theorem undo_clone_ret (H : Holds w0 w (UList p G N op • F)) : Ret Try.prog 30 #[.pointer (some ⟨p, 0, none⟩)] w fun v w' => ∃ q, v = .pointer (some ⟨q, 0, none⟩) ∧ Holds w0 w' (UList q G N op • UList p G N op • F) := by
  refine ret_enter Try.func30 rfl Try.ntmps30 (Nat.le_of_ble_eq_true rfl) ?_
  dsimp only [slots0, Nat.reduceAdd]
  refine wc_seq ?_
  refine wc_region ?_
  refine wl_val (r_assign rfl) (ltn rfl) ?_
  refine wl_nil ?_
  refine wq_seq ?_
  refine wc_seq ?_
  refine wc_seq ?_
  refine wc_region ?_
  refine wl_val (r_move rfl) (ltn rfl) ?_
  refine wl_eff (e_call (r_call rfl Try.func51 rfl rfl) (undo_none_ret H)) (ltn rfl) ?_
  rintro _ _ ⟨rfl, rfl⟩
  refine wl_nil ?_
  refine wq_seq ?_
  refine wc_cond_f rfl ?_
  refine wc_skip ?_
  refine wq_seq ?_
  refine wc_seq ?_
  obtain ⟨gv_p, nv_p, gs_p, now_p, k1_p, k2_p, k3_p, k4_p, k5_p, k6_p, HU_p⟩ := (H).ulist
  have hLn : now_p.length ≤ 16384 := by omega
  have hBn := EB_of k3_p k1_p.2.2.2.2.2
  refine wc_region ?_
  refine wl_val (r_move rfl) (ltn rfl) ?_
  refine wl_val (r_nil rfl) (ltn rfl) ?_
  refine wl_val (r_load_whole Try.underlying72 rfl Try.sizeOf72 rfl rfl (HU_p).get.2) (ltn rfl) ?_
  refine wl_eff (e_allocL (l := [_, _, _, _, _]) HU_p Try.zeroValue72 rfl) (ltn rfl) ?_
  rintro _ w3 ⟨b3, rfl, H3⟩
  refine wl_eff0 (e_storePL 0 (l' := [_, _, _, _, _]) (us := [_, _, _, _, _]) H3 Try.sizeOf72 rfl rfl rfl (ones_cons (by first | rfl | exact Rd.one ((H3.f3).row_rd)) (ones_cons (by first | rfl | exact Rd.one ((H3.f5).row_rd)) (ones_cons (by first | rfl | assumption) (ones_cons (by first | rfl | assumption) (ones_cons (by first | rfl | assumption) ones_nil))))) rfl rfl) ?_
  rintro _ w4 H4
  refine wl_nil ?_
  refine wq_seq ?_
  refine wc_seq ?_
  refine wc_region ?_
  refine wl_val (r_move rfl) (ltn rfl) ?_
  refine wl_val (r_nil rfl) (ltn rfl) ?_
  refine wl_val ((by first | exact r_field0 0 Try.underlying72 rfl rfl Try.sizeOf70 (by decide) rfl | exact r_field 0 Try.underlying72 rfl rfl Try.sizeOf70 (by decide) rfl)) (ltn rfl) ?_
  refine wl_val ((by first | exact r_field0 1 Try.underlying70 rfl rfl Try.sizeOf39 (by decide) rfl | exact r_field 1 Try.underlying70 rfl rfl Try.sizeOf39 (by decide) rfl)) (ltn rfl) ?_
  refine wl_val (r_load (plain_of Try.underlying39 rfl) rfl (cell_of_blk (H4.f2).get.2 rfl)) (ltn rfl) ?_
  refine wl_eff (e_call (r_call rfl Try.func52 rfl rfl) (copied_row_ret H4.f6.f6 hBn hLn)) (ltn rfl) ?_
  rintro u5 w5 ⟨fs5, hfs5, H5⟩
  obtain ⟨es1, rfl⟩ : ∃ q, q = fs5 := ⟨_, rfl⟩
  have hes1 := hfs5
  refine wl_val ((by first | exact r_field0 0 Try.underlying72 rfl rfl Try.sizeOf70 (by decide) rfl | exact r_field 0 Try.underlying72 rfl rfl Try.sizeOf70 (by decide) rfl)) (ltn rfl) ?_
  refine wl_val ((by first | exact r_field0 0 Try.underlying70 rfl rfl Try.sizeOf43 (by decide) rfl | exact r_field 0 Try.underlying70 rfl rfl Try.sizeOf43 (by decide) rfl)) (ltn rfl) ?_
  refine wl_eff0 (e_storeL 0 (l' := [_, _, _, _, _]) H5.f5 Try.sizeOf43 rfl rfl (by first | rfl | assumption) rfl rfl) ?_
  rintro _ w6 H6
  refine wl_val ((by first | exact r_field0 0 Try.underlying72 rfl rfl Try.sizeOf70 (by decide) rfl | exact r_field 0 Try.underlying72 rfl rfl Try.sizeOf70 (by decide) rfl)) (ltn rfl) ?_
  refine wl_val ((by first | exact r_field0 1 Try.underlying70 rfl rfl Try.sizeOf39 (by decide) rfl | exact r_field 1 Try.underlying70 rfl rfl Try.sizeOf39 (by decide) rfl)) (ltn rfl) ?_
  refine wl_eff0 (e_storeL 1 (l' := [_, _, _, _, _]) H6 Try.sizeOf39 rfl rfl (by first | rfl | exact Rd.one ((H6.f2).row_rd)) rfl rfl) ?_
  rintro _ w7 H7
  refine wl_nil ?_
  refine wq_seq ?_
  refine wc_seq ?_
  refine wc_seq ?_
  refine wc_region ?_
  refine wl_val (r_move rfl) (ltn rfl) ?_
  refine wl_val (r_nil rfl) (ltn rfl) ?_
  refine wl_val ((by first | exact r_field0 0 Try.underlying72 rfl rfl Try.sizeOf70 (by decide) rfl | exact r_field 0 Try.underlying72 rfl rfl Try.sizeOf70 (by decide) rfl)) (ltn rfl) ?_
  refine wl_val ((by first | exact r_field0 0 Try.underlying70 rfl rfl Try.sizeOf43 (by decide) rfl | exact r_field 0 Try.underlying70 rfl rfl Try.sizeOf43 (by decide) rfl)) (ltn rfl) ?_
  refine wl_val (r_load (plain_of Try.underlying43 rfl) rfl (cell_of_blk (H7.f6).get.2 rfl)) (ltn rfl) ?_
  refine wl_val (r_lenS ((H7.f7).row_rd) Try.underlying43 rfl) (ltn rfl) ?_
  refine wl_val (r_move rfl) (ltn rfl) ?_
  refine wl_nil ?_
  refine wq_seq ?_
  refine wc_block ?_
  obtain ⟨agv_p, cgv_p, egv_p, -⟩ := ((H7.f7).row_rd).form
  subst egv_p
  refine wc_loop [(3, _), (25, _), (26, _)] (fun (k : Nat) => [(27, .int .i64 (k : Int))]) (fun (k : Nat) W => k ≤ gs_p.length ∧ ∃ gu, ∃ hs : List (Value × List BEd), hs.map (fun g => g.2.map BEd.says) = G.take k ∧ Holds w0 W (blk b3 (.cells #[gu, u5, .int .i64 op, .int .i64 (uTot G N : Nat), .bool true] 72 (0, 0)) • Row 39 1 gu hs.length (hs.map (·.1)) • elsK hs • Row 24 3 u5 es1.length (es1.flatMap BEd.enc) • edsK es1 • blk p (.cells #[(.slice agv_p (gs_p.length) cgv_p), nv_p, .int .i64 op, .int .i64 (uTot G N : Nat), .bool true] 72 (0, 0)) • Row 39 1 (.slice agv_p (gs_p.length) cgv_p) gs_p.length (gs_p.map (·.1)) • elsK gs_p • Row 24 3 nv_p now_p.length (now_p.flatMap BEd.enc) • edsK now_p • F)) (fun (k : Nat) => gs_p.length - k) (0) (Sub.cons rfl (Sub.cons rfl (Sub.cons rfl (Sub.nil _)))) (Sub.cons rfl (Sub.nil _)) ⟨by omega, _, [], rfl, ((H7.f5.f5.f8.f8.f8.f6.f8.f8).edLL_nil none).edLL.f5⟩ ?_
  rintro k w9 ⟨hk, gu, hs, hhs, HL⟩
  dsimp only [List.cons_append, List.nil_append]
  refine wc_seq ?_
  refine wc_region ?_
  refine wl_val (r_lss rfl rfl) (ltn rfl) ?_
  refine wl_nil ?_
  refine wq_seq ?_
  refine wc_seq ?_
  refine wc_cond rfl (fun h1 => ?_) (fun h1 => ?_)
  · (try simp only [beq_iff_eq, bne_iff_ne, ne_eq, decide_eq_true_eq, decide_eq_false_iff_not, beq_eq_false_iff_ne, bne_eq_false_iff_eq, Bool.not_eq_true', Bool.not_eq_false', Bool.not_eq_eq_eq_not, Bool.not_true, Bool.not_false, gt_iff_lt, ge_iff_le, Int.not_lt, Int.not_le] at h1)
    
    refine wc_skip ?_
    refine wq_seq ?_
    refine wc_seq ?_
    refine wc_block ?_
    refine wc_seq ?_
    refine wc_region ?_
    obtain ⟨bgv_p, ogv_p, rfl⟩ := Rd.pos ((HL.f7).row_rd) (by omega)
    refine wl_val (r_index Try.underlying43 Try.sizeOf39 rfl rfl (by omega)) (ltn rfl) ?_
    refine wl_val (r_load (plain_of Try.underlying39 rfl) rfl (by first | exact Rd.at1n ((HL.f7).row_rd) (by omega) | exact Rd.at0 ((HL.f7).row_rd) (by omega) | exact Rd.at1 ((HL.f7).row_rd) (by omega))) (ltn rfl) ?_
    have hkl : k < gs_p.length := by omega
    rw [show (gs_p.map (·.1)).getD k undef = (gs_p.getD k default).1 from by simp [List.getD_eq_getElem?_getD, hkl]]
    obtain ⟨gl, ges, hg⟩ : ∃ gl ges, gs_p.getD k default = (gl, ges) := ⟨_, _, rfl⟩
    rw [hg]
    have Ho10 := HL.f8
    have Hc11 := Ho10.elsK_at hkl hg
    have hge : ges.map BEd.says = G.getD k [] := by
      rw [← k2_p]
      have h9 : (gs_p.map (fun g => g.2.map BEd.says)).getD k [] = (gs_p.getD k default).2.map BEd.says := by simp [List.getD_eq_getElem?_getD, hkl]
      rw [h9, hg]
    have hgm : G.getD k [] ∈ G := getD_mem' (by omega)
    have hBg := EB_of hge (k1_p.2.2.2.2.1 _ hgm)
    have hLg : ges.length ≤ 16384 := by
      have h8 := k1_p.2.1
      unfold uTot at h8
      have h7 := congrArg List.length hge
      rw [List.length_map] at h7
      have h6 := len_mem hgm
      omega
    have hhl := congrArg List.length hhs
    rw [List.length_map, List.length_take] at hhl
    refine wl_val (r_assign rfl) (ltn rfl) ?_
    refine wl_nil ?_
    refine wq_seq ?_
    have H8d11 := Hc11.drew
    have hS8d11 := Holds.kp (H8d11.f11.f11.f11.f11.f11.f11.f11.f11.f11.f11.f11)
    refine wd_beginK [2] hS8d11 (by kernel_rfl) (by kernel_rfl) rfl ?_
    refine wd_takeT 0 rfl (by kernel_rfl) (by kernel_rfl) hS8d11 (fun _ => (by first | exact r_field0 0 Try.underlying72 rfl rfl Try.sizeOf70 (by decide) rfl | exact r_field 0 Try.underlying72 rfl rfl Try.sizeOf70 (by decide) rfl)) (ltn rfl) ?_
    refine wd_takeT 1 rfl (by kernel_rfl) (by kernel_rfl) hS8d11 (fun _ => (by first | exact r_field0 0 Try.underlying70 rfl rfl Try.sizeOf43 (by decide) rfl | exact r_field 0 Try.underlying70 rfl rfl Try.sizeOf43 (by decide) rfl)) (ltn rfl) ?_
    refine wd_take 2 rfl (by kernel_rfl) (by kernel_rfl) hS8d11 (by decide) (fun W hW => r_load (plain_of Try.underlying43 rfl) rfl (cell_of_blk ((Kp.h hW).f3).get.2 rfl)) (ltn rfl) ?_
    refine wd_takeT 3 rfl (by kernel_rfl) (by kernel_rfl) hS8d11 (fun _ => r_move rfl) (ltn rfl) ?_
    refine wd_eff 4 rfl (by kernel_rfl) (e_call (r_call rfl Try.func52 rfl rfl) (copied_el_ret H8d11 hBg hLg)) (ltn rfl) ?_
    rintro u12 w12 ⟨fs12, hfs12, H12⟩
    obtain ⟨es2, rfl⟩ : ∃ q, q = fs12 := ⟨_, rfl⟩
    have hes2 := hfs12
    have hS12n := Holds.kp (H12.f13.f13.f13.f13.f13.f13.f13.f13.f13.f13.f13.f13.f13)
    refine keepK hS12n (fun W hW => (Kp.h hW).right.right.f11.f11.f11.f11.f11.f11.f11.f11.f11.f11.f11) ?_
    refine wd_eff 5 rfl (by kernel_rfl) (e_lit_row (vs := [_]) H12 Try.underlying43 Try.sizeOf39 Try.zeroValue39 rfl rfl rfl (by decide) (ones_cons (by first | rfl | exact Rd.one ((H12).row_rd)) ones_nil)) (ltn rfl) ?_
    rintro l13 w13 H13
    have hS13n := Holds.kp (H13.f14.f14.f14.f14.f14.f14.f14.f14.f14.f14.f14.f14.f14.f14)
    refine keepK hS13n (fun W hW => (Kp.h hW).right.f13.f13.f13.f13.f13.f13.f13.f13.f13.f13.f13.f13.f13) ?_
    refine wd_eff 6 rfl (by kernel_rfl) (e_append H13.f7 Try.underlying43 (show (Try.prog.info? 39).map (fun i => (i.zero, i.size, i.bytes)) = some (some (.slice none 0 0), 1, 24) by kernel_rfl) rfl rfl rfl ((H13).row_rd) (ones_cons (by first | rfl | exact Rd.one ((H13.f2).row_rd)) ones_nil) (by omega) (by omega)) (ltn rfl) ?_
    rintro l14 w14 H14
    have Hd15 := H14.f2.right
    have hS15n := Holds.kp (Hd15.f13.f13.f13.f13.f13.f13.f13.f13.f13.f13.f13.f13.f13)
    refine keepX hS15n (by kernel_rfl) ?_
    refine wd_takeT 7 rfl (by kernel_rfl) (by kernel_rfl) hS15n (fun _ => (by first | exact r_field0 0 Try.underlying72 rfl rfl Try.sizeOf70 (by decide) rfl | exact r_field 0 Try.underlying72 rfl rfl Try.sizeOf70 (by decide) rfl)) (ltn rfl) ?_
    refine wd_takeT 8 rfl (by kernel_rfl) (by kernel_rfl) hS15n (fun _ => (by first | exact r_field0 0 Try.underlying70 rfl rfl Try.sizeOf43 (by decide) rfl | exact r_field 0 Try.underlying70 rfl rfl Try.sizeOf43 (by decide) rfl)) (ltn rfl) ?_
    refine wd_eff0 9 rfl (by kernel_rfl) (e_storeL 0 (l' := [_, _, _, _, _]) Hd15.f6 Try.sizeOf43 rfl rfl (by first | rfl | exact Rd.one ((Hd15).row_rd)) rfl rfl) ?_
    rintro _ w16 H16
    have hS16n := Holds.kp (H16.f13.f13.f13.f13.f13.f13.f13.f13.f13.f13.f13.f13.f13)
    refine keepX hS16n (by kernel_rfl) ?_
    have X := Holds.edL_freeze (es := es2) (H16.f5.right.f12.f12.f7.f12.f12.f12.f12.f8.f12.f10.f12.f12).deep
    have HN := (Holds.edLL_snoc X.swap).edLL.f3
    have hnew : (hs ++ [(u12, es2)]).map (fun g => g.2.map BEd.says) = G.take (k + 1) := by rw [List.map_append, hhs, take_getD (by omega), ← hge, ← hes2]; rfl
    refine wd_done (by kernel_rfl) ?_
    refine wq_block_normal ?_
    refine wq_seq ?_
    refine wc_region ?_
    refine wl_val (r_add rfl rfl (by omega)) (ltn rfl) ?_
    refine wl_val (r_move rfl) (ltn rfl) ?_
    refine wl_nil ?_
    refine wq_round (k + 1) ?_ ?_ ?_ ?_
    · exact (Sub.cons rfl (Sub.nil _))
    · exact (Sub.cons rfl (Sub.cons rfl (Sub.cons rfl (Sub.nil _))))
    · (try dsimp only)
      exact ⟨by omega, _, _, hnew, HN⟩
    · (try dsimp only); omega
  · (try simp only [beq_iff_eq, bne_iff_ne, ne_eq, decide_eq_true_eq, decide_eq_false_iff_not, beq_eq_false_iff_ne, bne_eq_false_iff_eq, Bool.not_eq_true', Bool.not_eq_false', Bool.not_eq_eq_eq_not, Bool.not_true, Bool.not_false, gt_iff_lt, ge_iff_le, Int.not_lt, Int.not_le] at h1)
    
    refine wc_exit ?_
    refine wq_then_exit ?_
    refine wq_then_exit ?_
    refine wq_block_hit ?_
    refine wq_seq ?_
    refine wc_seq ?_
    refine wc_region ?_
    refine wl_val (r_assign rfl) (ltn rfl) ?_
    refine wl_nil ?_
    refine wq_seq ?_
    refine wc_ret ?_
    refine wq_end1 (.inl rfl) Try.results30 rfl ?_
    rw [List.take_of_length_le (by omega)] at hhs
    have X := Holds.mk_ulistF (gs := hs) (now := es1) k1_p hhs (hes1.trans k3_p) rfl (HL.f10.f10.f10.f10.f10.f10.f10.f10.f10.f10)
    have Y := Holds.mk_ulistF k1_p k2_p k3_p rfl X.f6.f6.f6.f6.f6
    exact ⟨_, rfl, Y.swap⟩
end
end Go.Proofs.Ytaabgcfeghcmnaa
