/- Lists of edits that are taken back: Clear, Revert. -/
import Derived.Test.YtaabgcfeghcmnaaUList5
set_option linter.unusedSimpArgs false
set_option linter.unusedVariables false
namespace Go.Proofs.Ytaabgcfeghcmnaa
open Go.RowKit
def revR (G : List (List EdA)) (N : List EdA) : List EdA := (closeG G N).flatten.reverse.map invA
theorem sum_len (G : List (List EdA)) : (G.map List.length).sum = G.flatten.length := by
  induction G with
  | nil => rfl
  | cons g G ih => simp only [List.map_cons, List.sum_cons, List.flatten_cons, List.length_append, ih]
theorem flatten_take {G : List (List EdA)} {k : Nat} (hk : k < G.length) : (G.take (k + 1)).flatten = (G.take k).flatten ++ G.getD k [] := by
  rw [List.take_succ_eq_append_getElem hk, List.flatten_append, List.getD_eq_getElem?_getD, List.getElem?_eq_getElem hk]
  simp
theorem flatten_le (G : List (List EdA)) (k : Nat) : (G.take k).flatten.length ≤ G.flatten.length := by
  conv => rhs; rw [← List.take_append_drop k G, List.flatten_append, List.length_append]
  omega
section
variable {w0 w : World} {F : HP} {p : Nat} {G : List (List EdA)} {N : List EdA} {op : Int} {gv nv v u : Value} {gs : List (Value × List BEd)} {now es fs : List BEd} {a : Int} {d z : Value} {dl il : List Int}
theorem undo_clear_ret (H : Holds w0 w (UList p G N op • F)) : Ret Try.prog 39 #[.pointer (some ⟨p, 0, none⟩)] w fun _ w' => Holds w0 w' (UList p [] [] 0 • F) := by
  refine ret_enter Try.func39 rfl Try.ntmps39 (Nat.le_of_ble_eq_true rfl) ?_
  dsimp only [slots0, Nat.reduceAdd]
  refine wc_seq ?_
  refine wc_region ?_
  refine wl_val (r_move rfl) (ltn rfl) ?_
  refine wl_eff (e_call (r_call rfl Try.func51 rfl rfl) (undo_none_ret H)) (ltn rfl) ?_
  rintro _ _ ⟨rfl, rfl⟩
  refine wl_val (r_not rfl) (ltn rfl) ?_
  refine wl_nil ?_
  refine wq_seq ?_
  refine wc_cond rfl (fun h1 => ?_) (fun h => by exfalso; (try simp only [beq_iff_eq, bne_iff_ne, ne_eq, decide_eq_true_eq, decide_eq_false_iff_not, beq_eq_false_iff_ne, bne_eq_false_iff_eq, Bool.not_eq_true', Bool.not_eq_false', Bool.not_eq_eq_eq_not, Bool.not_true, Bool.not_false, gt_iff_lt, ge_iff_le, Int.not_lt, Int.not_le] at h); simp at h)
  (try simp only [beq_iff_eq, bne_iff_ne, ne_eq, decide_eq_true_eq, decide_eq_false_iff_not, beq_eq_false_iff_ne, bne_eq_false_iff_eq, Bool.not_eq_true', Bool.not_eq_false', Bool.not_eq_eq_eq_not, Bool.not_true, Bool.not_false, gt_iff_lt, ge_iff_le, Int.not_lt, Int.not_le] at h1)
  obtain ⟨gv_p, nv_p, gs_p, now_p, k1_p, k2_p, k3_p, k4_p, k5_p, k6_p, HU_p⟩ := (H).ulist
  refine wc_region ?_
  refine wl_val (r_move rfl) (ltn rfl) ?_
  refine wl_val (r_build (pl := #[(0, 4), (4, 1)]) (_) Try.underlying72 Try.zeroValue72 (fun w => by kernel_rfl) rfl (rfl)) (ltn rfl) ?_
  refine wl_val (r_nil rfl) (ltn rfl) ?_
  refine wl_eff0 (e_storePL 0 (l' := [_, _, _, _, _]) (us := [_, _, _, _, _]) HU_p Try.sizeOf72 rfl rfl rfl (ones_cons (by first | rfl | assumption) (ones_cons (by first | rfl | assumption) (ones_cons (by first | rfl | assumption) (ones_cons (by first | rfl | assumption) (ones_cons (by first | rfl | assumption) ones_nil))))) rfl rfl) ?_
  rintro _ w3 H3
  refine wl_nil ?_
  refine wq_end0 (.inr rfl) Try.results39 ?_
  refine Holds.mk_ulist (gv := .slice none 0 0) (nv := .slice none 0 0) (gs := []) (now := []) ⟨by simp, by decide, by decide, by decide, by simp, by simp⟩ rfl rfl rfl ?_
  exact (((H3.f2.right.f2.right.f2.right.f2.right).edL_nil none).edLL_nil none).of_eq (by ac_rfl)
theorem Holds.elK_ones (H : Holds w0 w (elK v es • F)) : ∀ x ∈ es.flatMap BEd.enc, x.oneCell' = true :=
  Holds.edL_ones (es := es) (w0 := w0) (w := w) (F := F) (H.ent (know_ent (fun I h => h.2) F))
theorem Holds.elsK_at (H : Holds w0 w (elsK gs • F)) {k : Nat} {gl : Value} {ges : List BEd} (hk : k < gs.length) (hg : gs.getD k default = (gl, ges)) : Holds w0 w (elK gl ges • elsK gs • F) := by
  have := H.elsK_get hk
  rwa [hg] at this
theorem Holds.edsK_app (H : Holds w0 w (elK u fs • edsK es • F)) : Holds w0 w (edsK (es ++ fs) • F) := H.ent (know_two (fun I h g => g.app h.2) F)
theorem undo_revert_ret (H : Holds w0 w (UList p G N op • F)) : Ret Try.prog 32 #[.pointer (some ⟨p, 0, none⟩)] w fun v w' => ∃ fs : List BEd, fs.map BEd.says = revR G N ∧
    Holds w0 w' (Row 24 3 v fs.length (fs.flatMap BEd.enc) • edsK fs • UList p [] [] 0 • F) := by
  unfold revR
  refine ret_enter Try.func32 rfl Try.ntmps32 (Nat.le_of_ble_eq_true rfl) ?_
  dsimp only [slots0, Nat.reduceAdd]
  refine wc_seq ?_
  refine wc_region ?_
  refine wl_val (r_assign rfl) (ltn rfl) ?_
  refine wl_nil ?_
  refine wq_seq ?_
  refine wc_seq ?_
  refine wc_seq ?_
  refine wc_region ?_
  refine wl_val (r_move rfl) (ltn rfl) ?_
  refine wl_eff (e_call (r_call rfl Try.func51 rfl rfl) (undo_none_ret H)) (ltn rfl) ?_
  rintro _ _ ⟨rfl, rfl⟩
  refine wl_nil ?_
  refine wq_seq ?_
  refine wc_cond_f rfl ?_
  refine wc_skip ?_
  refine wq_seq ?_
  refine wc_seq ?_
  refine wc_region ?_
  refine wl_val (r_move rfl) (ltn rfl) ?_
  refine wl_eff (e_call (r_call rfl Try.func55 rfl rfl) (undo_close_ret H)) (ltn rfl) ?_
  rintro _ w2 H2
  refine wl_nil ?_
  refine wq_seq ?_
  refine wc_seq ?_
  refine wc_region ?_
  refine wl_val (r_assign rfl) (ltn rfl) ?_
  refine wl_nil ?_
  refine wq_seq ?_
  refine wc_seq ?_
  refine wc_seq ?_
  generalize hC : closeG G N = C at *
  obtain ⟨gv_p, nv_p, gs_p, now_p, k1_p, k2_p, k3_p, k4_p, k5_p, k6_p, HU_p⟩ := (H2).ulist
  have htot := k1_p.2.1
  have hfl : C.flatten.length ≤ 16384 := by unfold uTot at htot; rw [sum_len] at htot; simp only [List.length_nil, Nat.add_zero] at htot; exact htot
  refine wc_region ?_
  refine wl_val (r_move rfl) (ltn rfl) ?_
  refine wl_val (r_nil rfl) (ltn rfl) ?_
  refine wl_val ((by first | exact r_field0 0 Try.underlying72 rfl rfl Try.sizeOf70 (by decide) rfl | exact r_field 0 Try.underlying72 rfl rfl Try.sizeOf70 (by decide) rfl)) (ltn rfl) ?_
  refine wl_val ((by first | exact r_field0 0 Try.underlying70 rfl rfl Try.sizeOf43 (by decide) rfl | exact r_field 0 Try.underlying70 rfl rfl Try.sizeOf43 (by decide) rfl)) (ltn rfl) ?_
  refine wl_val (r_load (plain_of Try.underlying43 rfl) rfl (cell_of_blk (HU_p).get.2 rfl)) (ltn rfl) ?_
  refine wl_val (r_lenS ((HU_p.f2).row_rd) Try.underlying43 rfl) (ltn rfl) ?_
  refine wl_val (r_move rfl) (ltn rfl) ?_
  refine wl_nil ?_
  refine wq_seq ?_
  refine wc_block ?_
  obtain ⟨agv_p, cgv_p, egv_p, -⟩ := ((HU_p.f2).row_rd).form
  subst egv_p
  refine wc_loop [(0, _), (14, _), (15, _)] (fun (⟨k, u⟩ : Nat × Value) => [(3, u), (16, .int .i64 (k : Int))]) (fun (⟨k, u⟩ : Nat × Value) W => k ≤ gs_p.length ∧ ∃ fs : List BEd, fs.map BEd.says = (C.take k).flatten ∧ Holds w0 W (Row 24 3 u fs.length (fs.flatMap BEd.enc) • edsK fs • blk p (.cells #[(.slice agv_p (gs_p.length) cgv_p), nv_p, .int .i64 0, .int .i64 (uTot C [] : Nat), .bool true] 72 (0, 0)) • Row 39 1 (.slice agv_p (gs_p.length) cgv_p) gs_p.length (gs_p.map (·.1)) • elsK gs_p • Row 24 3 nv_p now_p.length (now_p.flatMap BEd.enc) • edsK now_p • F)) (fun (⟨k, u⟩ : Nat × Value) => gs_p.length - k) ((0, .slice none 0 0)) (Sub.cons rfl (Sub.cons rfl (Sub.cons rfl (Sub.nil _)))) (Sub.cons rfl (Sub.cons rfl (Sub.nil _))) ⟨by omega, [], rfl, ((HU_p.f5.f5.f5.f5.f5).edL_nil none).edL⟩ ?_
  rintro ⟨k, u⟩ w5 ⟨hk, fs, hfs, HL⟩
  dsimp only [List.cons_append, List.nil_append]
  refine wc_seq ?_
  refine wc_region ?_
  refine wl_val (r_lss rfl rfl) (ltn rfl) ?_
  refine wl_nil ?_
  refine wq_seq ?_
  refine wc_seq ?_
  refine wc_cond rfl (fun h1 => ?_) (fun h1 => ?_)
  · (try simp only [beq_iff_eq, bne_iff_ne, ne_eq, decide_eq_true_eq, decide_eq_false_iff_not, beq_eq_false_iff_ne, bne_eq_false_iff_eq, Bool.not_eq_true', Bool.not_eq_false', Bool.not_eq_eq_eq_not, Bool.not_true, Bool.not_false, gt_iff_lt, ge_iff_le, Int.not_lt, Int.not_le] at h1)
    
    refine wc_skip ?_
    refine wq_seq ?_
    refine wc_seq ?_
    refine wc_block ?_
    refine wc_seq ?_
    refine wc_region ?_
    obtain ⟨bgv_p, ogv_p, rfl⟩ := Rd.pos ((HL.f4).row_rd) (by omega)
    refine wl_val (r_index Try.underlying43 Try.sizeOf39 rfl rfl (by omega)) (ltn rfl) ?_
    refine wl_val (r_load (plain_of Try.underlying39 rfl) rfl (by first | exact Rd.at1n ((HL.f4).row_rd) (by omega) | exact Rd.at0 ((HL.f4).row_rd) (by omega) | exact Rd.at1 ((HL.f4).row_rd) (by omega))) (ltn rfl) ?_
    have hkl : k < gs_p.length := by omega
    rw [show (gs_p.map (·.1)).getD k undef = (gs_p.getD k default).1 from by simp [List.getD_eq_getElem?_getD, hkl]]
    obtain ⟨gl, ges, hg⟩ : ∃ gl ges, gs_p.getD k default = (gl, ges) := ⟨_, _, rfl⟩
    rw [hg]
    have Ho6 := HL.f5
    have Hc7 := Ho6.elsK_at hkl hg
    have hones := (Hc7).elK_ones
    have hge : C.getD k [] = ges.map BEd.says := by
      rw [← k2_p]
      have h9 : (gs_p.map (fun g => g.2.map BEd.says)).getD k [] = (gs_p.getD k default).2.map BEd.says := by simp [List.getD_eq_getElem?_getD, hkl]
      rw [h9, hg]
    have hft := congrArg List.length (flatten_take (G := C) (k := k) (by omega))
    have hfe := flatten_le C (k + 1)
    have hfk := congrArg List.length hfs
    rw [List.length_append, hge, List.length_map] at hft
    rw [List.length_map] at hfk
    refine wl_val (r_assign rfl) (ltn rfl) ?_
    refine wl_nil ?_
    refine wq_seq ?_
    refine wc_region ?_
    refine wl_val (r_move rfl) (ltn rfl) ?_
    refine wl_val (r_move rfl) (ltn rfl) ?_
    refine wl_eff (e_append Hc7.f3 Try.underlying39 (show (Try.prog.info? 24).map (fun i => (i.zero, i.size, i.bytes)) = some (some (.agg #[.int .i64 0, .slice none 0 0, .slice none 0 0]), 3, 56) by kernel_rfl) rfl rfl rfl ((Hc7).elK_rd) (by assumption) (by omega) (by omega)) (ltn rfl) ?_
    rintro l8 w8 H8
    refine wl_val (r_assign rfl) (ltn rfl) ?_
    refine wl_nil ?_
    refine wq_block_normal ?_
    refine wq_seq ?_
    refine wc_region ?_
    refine wl_val (r_add rfl rfl (by omega)) (ltn rfl) ?_
    refine wl_val (r_move rfl) (ltn rfl) ?_
    refine wl_nil ?_
    refine wq_round ((k + 1, l8)) ?_ ?_ ?_ ?_
    · exact (Sub.cons rfl (Sub.cons rfl (Sub.nil _)))
    · exact (Sub.cons rfl (Sub.cons rfl (Sub.cons rfl (Sub.nil _))))
    · (try dsimp only)
      exact ⟨by omega, fs ++ ges, by rw [List.map_append, hfs, flatten_take (by omega), hge], by rw [List.length_append, List.flatMap_append]; exact (H8.f8.f8.f5.f8.f8.f6.f8.f8).edsK_app.swap⟩
    · (try dsimp only); omega
  · (try simp only [beq_iff_eq, bne_iff_ne, ne_eq, decide_eq_true_eq, decide_eq_false_iff_not, beq_eq_false_iff_ne, bne_eq_false_iff_eq, Bool.not_eq_true', Bool.not_eq_false', Bool.not_eq_eq_eq_not, Bool.not_true, Bool.not_false, gt_iff_lt, ge_iff_le, Int.not_lt, Int.not_le] at h1)
    
    refine wc_exit ?_
    refine wq_then_exit ?_
    refine wq_then_exit ?_
    refine wq_block_hit ?_
    refine wq_seq ?_
    refine wc_seq ?_
    have Ho10 := HL.f7.f7.f7.f7.f7
    have Hc11 := Holds.mk_ulistF k1_p k2_p k3_p rfl Ho10
    refine wc_region ?_
    refine wl_val (r_move rfl) (ltn rfl) ?_
    refine wl_eff (e_call (r_call rfl Try.func39 rfl rfl) (undo_clear_ret Hc11)) (ltn rfl) ?_
    rintro _ w12 H12
    refine wl_nil ?_
    refine wq_seq ?_
    refine wc_seq ?_
    rw [List.take_of_length_le (by omega)] at hfs
    have hfk := congrArg List.length hfs
    rw [List.length_map] at hfk
    have hLs : fs.length ≤ 16384 := by omega
    have hEBs : ∀ k, k < fs.length → EB (fs.getD k default).says := fun k hk => by
      have hm : (fs.getD k default).says ∈ fs.map BEd.says := List.mem_map_of_mem (getD_mem' hk)
      rw [hfs] at hm
      obtain ⟨g, hg, hx⟩ := List.mem_flatten.1 hm
      exact k1_p.2.2.2.2.1 g hg _ hx
    have Ho13 := H12.f3.f3
    have Hc14 := Holds.edL_freeze (es := fs) Ho13.deep
    refine wc_region ?_
    refine wl_val (r_move rfl) (ltn rfl) ?_
    refine wl_eff (e_call (r_call rfl Try.func56 rfl rfl) (undo_inverses_ret Hc14 hEBs hLs)) (ltn rfl) ?_
    rintro u15 w15 ⟨fs15, hfs15, H15⟩
    rw [hfs] at hfs15
    have hres := hfs15
    refine wl_val (r_assign rfl) (ltn rfl) ?_
    refine wl_nil ?_
    refine wq_seq ?_
    refine wc_ret ?_
    refine wq_end1 (.inl rfl) Try.results32 rfl ?_
    exact ⟨_, hres, H15.f3.right.f3.f3.f3⟩
end
end Go.Proofs.Ytaabgcfeghcmnaa
