/- The document's list of edits: Revert; are two lists of edits the same? -/
import Derived.Test.YtaabgcfeghcmnaaRList5
set_option linter.unusedSimpArgs false
set_option linter.unusedVariables false
namespace Go.Proofs.Ytaabgcfeghcmnaa
open Go.RowKit
theorem closeG_none (G : List (List EdA)) : closeG G [] = G := closeG_nil rfl
theorem rev_step {C : List (List EdA)} {m : Nat} (hm : m < C.length) : (C.drop m).flatten.reverse.map invA = (C.drop (m + 1)).flatten.reverse.map invA ++ (C.getD m []).reverse.map invA := by
  rw [List.drop_eq_getElem_cons hm, List.flatten_cons, List.reverse_append, List.map_append, List.getD_eq_getElem?_getD, List.getElem?_eq_getElem hm]
  rfl
theorem take_last {C : List (List EdA)} {m : Nat} (hm : m < C.length) : (C.take (m + 1)).getLastD [] = C.getD m [] := by
  rw [take_getD hm]; simp
theorem take_dl {C : List (List EdA)} {m : Nat} (hm : m < C.length) : (C.take (m + 1)).dropLast = C.take m := by
  rw [take_getD hm]; simp
theorem flatten_len_drop (G : List (List EdA)) (k : Nat) : (G.drop k).flatten.length ≤ G.flatten.length := by
  conv => rhs; rw [← List.take_append_drop k G, List.flatten_append, List.length_append]
  omega
section
variable {w0 w : World} {F : HP} {p : Nat} {G : List (List EdA)} {N : List EdA} {op : Int} {v u : Value} {es fs : List BEd}
theorem rl_revert_ret (H : Holds w0 w (RList p G N op • F)) : Ret Try.prog 38 #[.pointer (some ⟨p, 0, none⟩)] w fun v w' => ∃ fs : List BEd, fs.map BEd.says = revR G N ∧
    Holds w0 w' (Row 24 3 v fs.length (fs.flatMap BEd.enc) • edsK fs • RList p [] [] 0 • F) := by
  unfold revR
  refine ret_enter Try.func38 rfl Try.ntmps38 (Nat.le_of_ble_eq_true rfl) ?_
  dsimp only [slots0, Nat.reduceAdd]
  refine wc_seq ?_
  refine wc_region ?_
  refine wl_val (r_assign rfl) (ltn rfl) ?_
  refine wl_nil ?_
  refine wq_seq ?_
  refine wc_seq ?_
  refine wc_region ?_
  refine wl_val (r_move rfl) (ltn rfl) ?_
  refine wl_eff (e_call (r_call rfl Try.func57 rfl rfl) (rl_close_ret H)) (ltn rfl) ?_
  rintro _ w1 H1
  refine wl_nil ?_
  refine wq_seq ?_
  refine wc_seq ?_
  generalize hC : closeG G N = C at *
  obtain ⟨hfl⟩ : Nonempty (C.flatten.length ≤ 16384) := by
    obtain ⟨_, _, _, _, k1, _⟩ := (H1).rlist
    have htot := k1.2.1
    unfold uTot at htot; rw [sum_len] at htot; simp only [List.length_nil, Nat.add_zero] at htot; exact ⟨htot⟩
  refine wc_region ?_
  refine wl_val (r_assign rfl) (ltn rfl) ?_
  refine wl_nil ?_
  refine wq_seq ?_
  refine wc_seq ?_
  refine wc_block ?_
  refine wc_loop [(0, _)] (fun (⟨k, u⟩ : Nat × Value) => [(3, u)]) (fun (⟨k, u⟩ : Nat × Value) W => k ≤ C.length ∧ ∃ fs : List BEd, fs.map BEd.says = (C.drop k).flatten.reverse.map invA ∧ Holds w0 W (Row 24 3 u fs.length (fs.flatMap BEd.enc) • edsK fs • RList p (C.take k) [] 0 • F)) (fun (⟨k, u⟩ : Nat × Value) => k) ((C.length, .slice none 0 0)) (Sub.cons rfl (Sub.nil _)) (Sub.cons rfl (Sub.nil _)) ⟨by omega, [], by simp, by rw [List.take_of_length_le (Nat.le_refl _)]; exact (H1.edL_nil none).edL⟩ ?_
  rintro ⟨k, u⟩ w2 ⟨hk, fs, hfs, HL⟩
  dsimp only [List.cons_append, List.nil_append]
  refine wc_seq ?_
  refine wc_seq ?_
  obtain ⟨gw_p, nw_p, gs_p, now_p, k1_p, k2_p, k3_p, k4_p, k5_p, k6_p, HU_p⟩ := (HL.f3).rlist
  have hkt : (C.take k).length = k := by rw [List.length_take]; omega
  refine wc_region ?_
  refine wl_val (r_move rfl) (ltn rfl) ?_
  refine wl_val (r_nil rfl) (ltn rfl) ?_
  refine wl_val ((by first | exact r_field0 0 Try.underlying45 rfl rfl Try.sizeOf43 (by decide) rfl | exact r_field 0 Try.underlying45 rfl rfl Try.sizeOf43 (by decide) rfl)) (ltn rfl) ?_
  refine wl_val (r_load (plain_of Try.underlying43 rfl) rfl (cell_of_blk (HU_p).get.2 rfl)) (ltn rfl) ?_
  refine wl_val (r_lenS ((HU_p.f2).row_rd) Try.underlying43 rfl) (ltn rfl) ?_
  refine wl_val (r_gtr rfl rfl) (ltn rfl) ?_
  refine wl_nil ?_
  refine wq_seq ?_
  refine wc_cond rfl (fun h1 => ?_) (fun h1 => ?_)
  · (try simp only [beq_iff_eq, bne_iff_ne, ne_eq, decide_eq_true_eq, decide_eq_false_iff_not, beq_eq_false_iff_ne, bne_eq_false_iff_eq, Bool.not_eq_true', Bool.not_eq_false', Bool.not_eq_eq_eq_not, Bool.not_true, Bool.not_false, gt_iff_lt, ge_iff_le, Int.not_lt, Int.not_le] at h1)
    
    refine wc_skip ?_
    refine wq_seq ?_
    refine wc_block ?_
    refine wc_seq ?_
    have Ho5 := HU_p.f5.f5.f5.f5.f5
    have Hc6 := Holds.mk_rlistF k1_p k2_p k3_p Ho5
    obtain ⟨m, rfl⟩ : ∃ m, k = m + 1 := ⟨k - 1, by omega⟩
    have hml : m < C.length := by omega
    have hne : ¬ (C.take (m + 1)).length + ([] : List EdA).length = 0 := by simp only [List.length_nil]; omega
    refine wc_region ?_
    refine wl_val (r_move rfl) (ltn rfl) ?_
    refine wl_eff (e_call (r_call rfl Try.func36 rfl rfl) (rl_undo_ret Hc6)) (ltn rfl) ?_
    rintro _ w7 ⟨u7, fs7, rfl, hfs7, H7⟩
    have eN : undoN (C.take (m + 1)) [] = [] := by unfold undoN; rw [if_neg hne]
    have eO : undoO (C.take (m + 1)) [] 0 = 0 := by unfold undoO; rw [if_neg hne]
    have eG : undoG (C.take (m + 1)) [] = C.take m := by unfold undoG; rw [if_neg hne, closeG_none, take_dl hml]
    have eR : undoR (C.take (m + 1)) [] = (C.getD m []).reverse.map invA := by unfold undoR; rw [if_neg hne, closeG_none, take_last hml]
    rw [eG, eN, eO] at H7
    rw [eR] at hfs7
    obtain ⟨gs2, rfl⟩ : ∃ q, q = fs7 := ⟨_, rfl⟩
    have hgs2 := hfs7
    refine wl_val (r_move rfl) (ltn rfl) ?_
    refine wl_val (r_extract rfl rfl) (ltn rfl) ?_
    refine wl_val (r_extract rfl rfl) (ltn rfl) ?_
    refine wl_val (r_assign rfl) (ltn rfl) ?_
    refine wl_val (r_assign rfl) (ltn rfl) ?_
    refine wl_nil ?_
    refine wq_seq ?_
    have Ho8 := H7.f2.f2
    have Hc9 := Holds.edL_freeze (es := gs2) Ho8.deep
    have hones := (Hc9).elK_ones
    have hfk := congrArg List.length hfs
    have hgk := congrArg List.length hgs2
    have hst := congrArg List.length (rev_step hml)
    have hfe := flatten_len_drop C m
    simp only [List.length_map, List.length_reverse, List.length_append] at hfk hgk hst
    refine wc_region ?_
    refine wl_val (r_move rfl) (ltn rfl) ?_
    refine wl_val (r_move rfl) (ltn rfl) ?_
    refine wl_eff (e_append Hc9.f3 Try.underlying39 (show (Try.prog.info? 24).map (fun i => (i.zero, i.size, i.bytes)) = some (some (.agg #[.int .i64 0, .slice none 0 0, .slice none 0 0]), 3, 56) by kernel_rfl) rfl rfl rfl ((Hc9).elK_rd) (by assumption) (by omega) (by omega)) (ltn rfl) ?_
    rintro l10 w10 H10
    refine wl_val (r_assign rfl) (ltn rfl) ?_
    refine wl_nil ?_
    refine wq_block_normal ?_
    refine wq_round ((m, l10)) ?_ ?_ ?_ ?_
    · exact (Sub.cons rfl (Sub.nil _))
    · exact (Sub.cons rfl (Sub.nil _))
    · (try dsimp only)
      exact ⟨by omega, fs ++ gs2, by rw [List.map_append, hfs, rev_step (m := m) hml, hgs2], by rw [List.length_append, List.flatMap_append]; exact (H10.f3.f2.f4.f4).edsK_app.swap⟩
    · (try dsimp only); omega
  · (try simp only [beq_iff_eq, bne_iff_ne, ne_eq, decide_eq_true_eq, decide_eq_false_iff_not, beq_eq_false_iff_ne, bne_eq_false_iff_eq, Bool.not_eq_true', Bool.not_eq_false', Bool.not_eq_eq_eq_not, Bool.not_true, Bool.not_false, gt_iff_lt, ge_iff_le, Int.not_lt, Int.not_le] at h1)
    
    refine wc_exit ?_
    refine wq_then_exit ?_
    refine wq_then_exit ?_
    refine wq_block_hit ?_
    refine wq_seq ?_
    refine wc_seq ?_
    have Ho12 := HU_p.f5.f5.f5.f5.f5
    have Hc13 := Holds.mk_rlistF k1_p k2_p k3_p Ho12
    obtain rfl : k = 0 := by omega
    refine wc_region ?_
    refine wl_val (r_move rfl) (ltn rfl) ?_
    refine wl_val (r_assign rfl) (ltn rfl) ?_
    refine wl_nil ?_
    refine wq_seq ?_
    refine wc_ret ?_
    refine wq_end1 (.inl rfl) Try.results38 rfl ?_
    rw [List.drop_zero] at hfs
    exact ⟨_, hfs, Hc13.f3.f3⟩
theorem samelist_any (H : Holds w0 w F) (hv : FRd w0 F 3 v es.length (es.flatMap BEd.enc)) (he : ∀ k, k < es.length → FRdI w0 F .i32 (es.getD k default).d (es.getD k default).dl ∧ FRdI w0 F .i32 (es.getD k default).i (es.getD k default).il)
    (hu : FRd w0 F 3 u fs.length (fs.flatMap BEd.enc)) (hf : ∀ k, k < fs.length → FRdI w0 F .i32 (fs.getD k default).d (fs.getD k default).dl ∧ FRdI w0 F .i32 (fs.getD k default).i (fs.getD k default).il) :
    Ret Try.prog 37 #[v, u] w fun r w' => r = .bool (decide (es.map BEd.says = fs.map BEd.says)) ∧ Holds w0 w' F := by
  obtain ⟨-, _, cv, -, hcv1, hcv2, -⟩ := hv _ H
  refine ret_enter Try.func37 rfl Try.ntmps37 (Nat.le_of_ble_eq_true rfl) ?_
  dsimp only [slots0, Nat.reduceAdd]
  refine wc_seq ?_
  refine wc_region ?_
  refine wl_val (r_assign rfl) (ltn rfl) ?_
  refine wl_nil ?_
  refine wq_seq ?_
  refine wc_seq ?_
  refine wc_seq ?_
  refine wc_region ?_
  refine wl_val (r_move rfl) (ltn rfl) ?_
  refine wl_val (r_lenS (hv _ (H)) Try.underlying39 rfl) (ltn rfl) ?_
  refine wl_val (r_move rfl) (ltn rfl) ?_
  refine wl_val (r_lenS (hu _ (H)) Try.underlying39 rfl) (ltn rfl) ?_
  refine wl_val (r_neq rfl rfl) (ltn rfl) ?_
  refine wl_nil ?_
  refine wq_seq ?_
  refine wc_cond rfl (fun h1 => ?_) (fun h1 => ?_)
  · (try simp only [beq_iff_eq, bne_iff_ne, ne_eq, decide_eq_true_eq, decide_eq_false_iff_not, beq_eq_false_iff_ne, bne_eq_false_iff_eq, Bool.not_eq_true', Bool.not_eq_false', Bool.not_eq_eq_eq_not, Bool.not_true, Bool.not_false, gt_iff_lt, ge_iff_le, Int.not_lt, Int.not_le] at h1)
    have hlen : ¬ es.length = fs.length := by omega
    refine wc_seq ?_
    refine wc_region ?_
    refine wl_val (r_assign rfl) (ltn rfl) ?_
    refine wl_nil ?_
    refine wq_seq ?_
    refine wc_ret ?_
    refine wq_then_ret ?_
    refine wq_end1 (.inl rfl) Try.results37 rfl ?_
    exact ⟨by rw [decide_eq_false (fun q => hlen (by have := congrArg List.length q; simpa using this))], H⟩
  · (try simp only [beq_iff_eq, bne_iff_ne, ne_eq, decide_eq_true_eq, decide_eq_false_iff_not, beq_eq_false_iff_ne, bne_eq_false_iff_eq, Bool.not_eq_true', Bool.not_eq_false', Bool.not_eq_eq_eq_not, Bool.not_true, Bool.not_false, gt_iff_lt, ge_iff_le, Int.not_lt, Int.not_le] at h1)
    have hlen : es.length = fs.length := by omega
    refine wc_skip ?_
    refine wq_seq ?_
    refine wc_seq ?_
    refine wc_seq ?_
    refine wc_region ?_
    refine wl_val (r_assign rfl) (ltn rfl) ?_
    refine wl_nil ?_
    refine wq_seq ?_
    refine wc_block ?_
    refine wc_loop [(0, _), (1, _)] (fun (k : Nat) => [(5, .int .i64 (k : Int))]) (fun (k : Nat) W => (k ≤ es.length ∧ ∀ j, j < k → (es.getD j default).says = (fs.getD j default).says) ∧ Holds w0 W F) (fun (k : Nat) => es.length - k) (0) (Sub.cons rfl (Sub.cons rfl (Sub.nil _))) (Sub.cons rfl (Sub.nil _)) ⟨⟨by omega, fun j hj => absurd hj (Nat.not_lt_zero _)⟩, H⟩ ?_
    rintro k w1 ⟨⟨hk, hj⟩, HL⟩
    dsimp only [List.cons_append, List.nil_append]
    refine wc_seq ?_
    refine wc_seq ?_
    refine wc_region ?_
    refine wl_val (r_move rfl) (ltn rfl) ?_
    refine wl_val (r_move rfl) (ltn rfl) ?_
    refine wl_val (r_lenS (hv _ (HL)) Try.underlying39 rfl) (ltn rfl) ?_
    refine wl_val (r_lss rfl rfl) (ltn rfl) ?_
    refine wl_nil ?_
    refine wq_seq ?_
    refine wc_cond rfl (fun h2 => ?_) (fun h2 => ?_)
    · (try simp only [beq_iff_eq, bne_iff_ne, ne_eq, decide_eq_true_eq, decide_eq_false_iff_not, beq_eq_false_iff_ne, bne_eq_false_iff_eq, Bool.not_eq_true', Bool.not_eq_false', Bool.not_eq_eq_eq_not, Bool.not_true, Bool.not_false, gt_iff_lt, ge_iff_le, Int.not_lt, Int.not_le] at h2)
      
      refine wc_skip ?_
      refine wq_seq ?_
      refine wc_seq ?_
      refine wc_block ?_
      refine wc_seq ?_
      have hkl : k < es.length := by omega
      obtain ⟨f1, f2⟩ := he k hkl
      obtain ⟨f3, f4⟩ := hf k (by omega)
      have H6d1 := HL.drew
      have hS6d1 := Holds.kp (H6d1)
      refine wd_beginK [3, 7] hS6d1 (by kernel_rfl) (by kernel_rfl) rfl ?_
      refine wd_takeT 0 rfl (by kernel_rfl) (by kernel_rfl) hS6d1 (fun _ => r_move rfl) (ltn rfl) ?_
      refine wd_takeT 1 rfl (by kernel_rfl) (by kernel_rfl) hS6d1 (fun _ => r_move rfl) (ltn rfl) ?_
      obtain ⟨bv, ov, cv, ev⟩ := Rd.posV (hv _ (H6d1)) (by omega)
      cases ev
      refine wd_takeT 2 rfl (by kernel_rfl) (by kernel_rfl) hS6d1 (fun _ => r_index Try.underlying39 Try.sizeOf24 rfl rfl (by omega)) (ltn rfl) ?_
      refine wd_take 3 rfl (by kernel_rfl) (by kernel_rfl) hS6d1 (by decide) (fun W hW => r_load_elem (ys := [_, _, _]) (hv _ ((Kp.h hW))) (by omega) Try.underlying24 rfl Try.sizeOf24 rfl (flat_elem BEd.enc_len (by omega) default) rfl) (ltn rfl) ?_
      refine wd_takeT 4 rfl (by kernel_rfl) (by kernel_rfl) hS6d1 (fun _ => r_move rfl) (ltn rfl) ?_
      refine wd_takeT 5 rfl (by kernel_rfl) (by kernel_rfl) hS6d1 (fun _ => r_move rfl) (ltn rfl) ?_
      obtain ⟨bu, ou, cu, eu⟩ := Rd.posV (hu _ (H6d1)) (by omega)
      cases eu
      refine wd_takeT 6 rfl (by kernel_rfl) (by kernel_rfl) hS6d1 (fun _ => r_index Try.underlying39 Try.sizeOf24 rfl rfl (by omega)) (ltn rfl) ?_
      refine wd_take 7 rfl (by kernel_rfl) (by kernel_rfl) hS6d1 (by decide) (fun W hW => r_load_elem (ys := [_, _, _]) (hu _ ((Kp.h hW))) (by omega) Try.underlying24 rfl Try.sizeOf24 rfl (flat_elem BEd.enc_len (by omega) default) rfl) (ltn rfl) ?_
      refine wd_eff 8 rfl (by kernel_rfl) (e_call (r_call rfl Try.func15 rfl rfl) (same_ed_ret H6d1 (fun W HW => f1 _ (HW)) (fun W HW => f2 _ (HW)) (fun W HW => f3 _ (HW)) (fun W HW => f4 _ (HW)))) (ltn rfl) ?_
      rintro _ w2 ⟨rfl, H2⟩
      have hS2n := Holds.kp (H2)
      refine keepX hS2n (by kernel_rfl) ?_
      refine wd_takeT 9 rfl (by kernel_rfl) (by kernel_rfl) hS2n (fun _ => r_not rfl) (ltn rfl) ?_
      refine wd_done (by kernel_rfl) ?_
      refine wq_seq ?_
      refine wc_cond rfl (fun h3 => ?_) (fun h3 => ?_)
      · (try simp only [beq_iff_eq, bne_iff_ne, ne_eq, decide_eq_true_eq, decide_eq_false_iff_not, beq_eq_false_iff_ne, bne_eq_false_iff_eq, Bool.not_eq_true', Bool.not_eq_false', Bool.not_eq_eq_eq_not, Bool.not_true, Bool.not_false, gt_iff_lt, ge_iff_le, Int.not_lt, Int.not_le] at h3)
        have hsm : ¬ (es.getD k default).says = (fs.getD k default).says := fun q => by unfold BEd.says at q; simp only [Prod.mk.injEq] at q; simp_all
        refine wc_seq ?_
        refine wc_region ?_
        refine wl_val (r_assign rfl) (ltn rfl) ?_
        refine wl_nil ?_
        refine wq_seq ?_
        refine wc_ret ?_
        refine wq_block_ret ?_
        refine wq_then_ret ?_
        refine wq_then_ret ?_
        refine wq_block_ret ?_
        refine wq_then_ret ?_
        refine wq_end1 (.inl rfl) Try.results37 rfl ?_
        refine ⟨?_, H2⟩
        rw [decide_eq_false]
        intro q
        apply hsm
        have h9 := congrArg (fun l => l.getD k (default : BEd).says) q
        simp only [List.getD_eq_getElem?_getD, List.getElem?_map] at h9 ⊢
        rw [List.getElem?_eq_getElem hkl, List.getElem?_eq_getElem (show k < fs.length by omega)] at h9 ⊢
        exact h9
      · (try simp only [beq_iff_eq, bne_iff_ne, ne_eq, decide_eq_true_eq, decide_eq_false_iff_not, beq_eq_false_iff_ne, bne_eq_false_iff_eq, Bool.not_eq_true', Bool.not_eq_false', Bool.not_eq_eq_eq_not, Bool.not_true, Bool.not_false, gt_iff_lt, ge_iff_le, Int.not_lt, Int.not_le] at h3)
        have hsm : (es.getD k default).says = (fs.getD k default).says := by unfold BEd.says; simp only [Prod.mk.injEq]; simp_all
        refine wc_skip ?_
        refine wq_block_normal ?_
        refine wq_seq ?_
        refine wc_region ?_
        refine wl_val (r_move rfl) (ltn rfl) ?_
        refine wl_val (r_add rfl rfl (by omega)) (ltn rfl) ?_
        refine wl_val (r_assign rfl) (ltn rfl) ?_
        refine wl_nil ?_
        refine wq_round (k + 1) ?_ ?_ ?_ ?_
        · exact (Sub.cons rfl (Sub.nil _))
        · exact (Sub.cons rfl (Sub.cons rfl (Sub.nil _)))
        · (try dsimp only)
          exact ⟨⟨by omega, fun j h9 => by rcases Nat.lt_succ_iff_lt_or_eq.1 h9 with h9 | rfl; exact hj j h9; exact hsm⟩, H2⟩
        · (try dsimp only); omega
    · (try simp only [beq_iff_eq, bne_iff_ne, ne_eq, decide_eq_true_eq, decide_eq_false_iff_not, beq_eq_false_iff_ne, bne_eq_false_iff_eq, Bool.not_eq_true', Bool.not_eq_false', Bool.not_eq_eq_eq_not, Bool.not_true, Bool.not_false, gt_iff_lt, ge_iff_le, Int.not_lt, Int.not_le] at h2)
      
      refine wc_exit ?_
      refine wq_then_exit ?_
      refine wq_then_exit ?_
      refine wq_block_hit ?_
      refine wq_seq ?_
      refine wc_seq ?_
      refine wc_region ?_
      refine wl_val (r_assign rfl) (ltn rfl) ?_
      refine wl_nil ?_
      refine wq_seq ?_
      refine wc_ret ?_
      refine wq_end1 (.inl rfl) Try.results37 rfl ?_
      refine ⟨?_, HL⟩
      obtain rfl : k = es.length := by omega
      rw [decide_eq_true]
      refine List.ext_getElem (by simp [hlen]) fun j h1 h2 => ?_
      have h9 := hj j (by simpa using h1)
      simp only [List.length_map] at h1 h2
      rw [List.getD_eq_getElem?_getD, List.getD_eq_getElem?_getD, List.getElem?_eq_getElem h1, List.getElem?_eq_getElem h2] at h9
      simpa using h9
theorem samelist_rr (H : Holds w0 w (Row 24 3 v es.length (es.flatMap BEd.enc) • edsK es • Row 24 3 u fs.length (fs.flatMap BEd.enc) • edsK fs • F)) :
    Ret Try.prog 37 #[v, u] w fun r w' => r = .bool (decide (es.map BEd.says = fs.map BEd.says)) ∧ Holds w0 w' (Row 24 3 v es.length (es.flatMap BEd.enc) • edsK es • Row 24 3 u fs.length (fs.flatMap BEd.enc) • edsK fs • F) :=
  samelist_any H (fun W HW => HW.row_rd) (fun k hk => ⟨fun W HW => (HW.f2.edsK_ii hk).1, fun W HW => (HW.f2.edsK_ii hk).2⟩) (fun W HW => HW.f3.row_rd) (fun k hk => ⟨fun W HW => (HW.f4.edsK_ii hk).1, fun W HW => (HW.f4.edsK_ii hk).2⟩)
theorem samelist_re (H : Holds w0 w (Row 24 3 v es.length (es.flatMap BEd.enc) • edsK es • elK u fs • F)) :
    Ret Try.prog 37 #[v, u] w fun r w' => r = .bool (decide (es.map BEd.says = fs.map BEd.says)) ∧ Holds w0 w' (Row 24 3 v es.length (es.flatMap BEd.enc) • edsK es • elK u fs • F) :=
  samelist_any H (fun W HW => HW.row_rd) (fun k hk => ⟨fun W HW => (HW.f2.edsK_ii hk).1, fun W HW => (HW.f2.edsK_ii hk).2⟩) (fun W HW => HW.f3.elK_rd) (fun k hk => ⟨fun W HW => HW.f3.elK_d hk, fun W HW => HW.f3.elK_i hk⟩)
end
end Go.Proofs.Ytaabgcfeghcmnaa
