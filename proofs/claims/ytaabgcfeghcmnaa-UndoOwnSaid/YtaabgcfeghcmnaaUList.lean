/- Lists of edits that are taken back: what stands in memory; methods. -/
import Derived.Test.YtaabgcfeghcmnaaEds
set_option linter.unusedSimpArgs false
set_option linter.unusedVariables false
namespace Go.Proofs.Ytaabgcfeghcmnaa
open Go.RowKit
abbrev EdA := Int × List Int × List Int
def uTot (G : List (List EdA)) (N : List EdA) : Nat := (G.map List.length).sum + N.length
def EB (e : EdA) : Prop := e.2.1.length ≤ 35184372087808 ∧ e.2.2.length ≤ 35184372087808
theorem EB_snoc {N : List EdA} {x : EdA} (h : ∀ e ∈ N, EB e) (hx : EB x) : ∀ e ∈ N ++ [x], EB e := fun e he => by
  rcases List.mem_append.1 he with he | he
  · exact h e he
  · rw [List.mem_singleton.1 he]; exact hx
theorem EBs_snoc {G : List (List EdA)} {N : List EdA} (h : ∀ g ∈ G, ∀ e ∈ g, EB e) (hx : ∀ e ∈ N, EB e) : ∀ g ∈ G ++ [N], ∀ e ∈ g, EB e := fun g hg => by
  rcases List.mem_append.1 hg with hg | hg
  · exact h g hg
  · rw [List.mem_singleton.1 hg]; exact hx
theorem nn_snoc {G : List (List EdA)} {N : List EdA} (h : ∀ g ∈ G, g ≠ []) (hx : N ≠ []) : ∀ g ∈ G ++ [N], g ≠ [] := fun g hg => by
  rcases List.mem_append.1 hg with hg | hg
  · exact h g hg
  · rw [List.mem_singleton.1 hg]; exact hx
def UOk (G : List (List EdA)) (N : List EdA) (op : Int) : Prop := (∀ g ∈ G, g ≠ []) ∧ uTot G N ≤ 16384 ∧ 0 ≤ op ∧ op ≤ 4611686018427387904 ∧ (∀ g ∈ G, ∀ e ∈ g, EB e) ∧ ∀ e ∈ N, EB e
theorem len_le_sum {G : List (List EdA)} (h : ∀ g ∈ G, g ≠ []) : G.length ≤ (G.map List.length).sum := by
  induction G with
  | nil => simp
  | cons g G ih =>
    have h1 := ih fun x hx => h x (by simp [hx])
    have h2 : 0 < g.length := List.length_pos_iff.2 (h g (by simp))
    simp; omega
theorem UOk.len {G : List (List EdA)} {N : List EdA} {op : Int} (h : UOk G N op) : G.length + N.length ≤ 16384 := by
  have := len_le_sum h.1
  have := h.2.1
  unfold uTot at this
  omega
def UList (p : Nat) (G : List (List EdA)) (N : List EdA) (op : Int) : HP := exHP fun (x : Value × Value × List (Value × List BEd) × List BEd) =>
  fact (UOk G N op ∧ x.2.2.1.map (fun g => g.2.map BEd.says) = G ∧ x.2.2.2.map BEd.says = N) • blk p (.cells #[x.1, x.2.1, .int .i64 op, .int .i64 (uTot G N : Nat), .bool true] 72 (0, 0)) • EdLL x.1 x.2.2.1 • EdL x.2.1 x.2.2.2
section
variable {w0 w : World} {F : HP} {p : Nat} {G : List (List EdA)} {N : List EdA} {op : Int} {gv nv : Value} {gs : List (Value × List BEd)} {now : List BEd} {a : Int} {d z : Value} {dl il : List Int}
theorem Holds.ulist (H : Holds w0 w (UList p G N op • F)) : ∃ gv nv gs now, UOk G N op ∧ gs.map (fun g => g.2.map BEd.says) = G ∧ now.map BEd.says = N ∧ gs.length = G.length ∧ now.length = N.length ∧ G.length + N.length ≤ 16384 ∧
    Holds w0 w (blk p (.cells #[gv, nv, .int .i64 op, .int .i64 (uTot G N : Nat), .bool true] 72 (0, 0)) • Row 39 1 gv gs.length (gs.map (·.1)) • elsK gs • Row 24 3 nv now.length (now.flatMap BEd.enc) • edsK now • F) := by
  obtain ⟨⟨gv, nv, gs, now⟩, H⟩ := H.ex_sep
  obtain ⟨⟨h1, h2, h3⟩, H⟩ := H.flat.fact
  refine ⟨gv, nv, gs, now, h1, h2, h3, ?_, ?_, h1.len, ?_⟩
  · rw [← h2]; simp
  · rw [← h3]; simp
  · have := H.flat
    unfold EdLL EdL at this
    exact this.of_eq (by ac_rfl)
theorem Holds.mk_ulist (h1 : UOk G N op) (h2 : gs.map (fun g => g.2.map BEd.says) = G) (h3 : now.map BEd.says = N) {ed : Int} (he : ed = (uTot G N : Nat))
    (H : Holds w0 w (blk p (.cells #[gv, nv, .int .i64 op, .int .i64 ed, .bool true] 72 (0, 0)) • EdLL gv gs • EdL nv now • F)) : Holds w0 w (UList p G N op • F) := by
  subst he
  exact Holds.mk_ex_sep (gv, nv, gs, now) (Holds.deep (Holds.mk_fact ⟨h1, h2, h3⟩ (H.of_eq (by ac_rfl))))
theorem Holds.mk_ulistF (h1 : UOk G N op) (h2 : gs.map (fun g => g.2.map BEd.says) = G) (h3 : now.map BEd.says = N) {ed : Int} (he : ed = (uTot G N : Nat))
    (H : Holds w0 w (blk p (.cells #[gv, nv, .int .i64 op, .int .i64 ed, .bool true] 72 (0, 0)) • Row 39 1 gv gs.length (gs.map (·.1)) • elsK gs • Row 24 3 nv now.length (now.flatMap BEd.enc) • edsK now • F)) : Holds w0 w (UList p G N op • F) :=
  Holds.mk_ulist h1 h2 h3 he (H.of_eq (by unfold EdLL EdL; ac_rfl))
theorem undo_none_ret (H : Holds w0 w (UList p G N op • F)) : Ret Try.prog 51 #[.pointer (some ⟨p, 0, none⟩)] w fun v w' => v = .bool false ∧ w = w' := by
  refine ret_enter Try.func51 rfl Try.ntmps51 (Nat.le_of_ble_eq_true rfl) ?_
  dsimp only [slots0, Nat.reduceAdd]
  refine wc_seq ?_
  refine wc_region ?_
  refine wl_val (r_assign rfl) (ltn rfl) ?_
  refine wl_nil ?_
  refine wq_seq ?_
  refine wc_seq ?_
  obtain ⟨gv_p, nv_p, gs_p, now_p, k1_p, k2_p, k3_p, k4_p, k5_p, k6_p, HU_p⟩ := (H).ulist
  refine wc_region ?_
  refine wl_val (r_move rfl) (ltn rfl) ?_
  refine wl_val (r_ptr_nil Try.underlying40 rfl rfl) (ltn rfl) ?_
  refine wl_split rfl (ltn rfl) (fun h1 => ?_) (fun h1 => ?_)
  · (try simp only [beq_iff_eq, bne_iff_ne, ne_eq, decide_eq_true_eq, decide_eq_false_iff_not, beq_eq_false_iff_ne, bne_eq_false_iff_eq, Bool.not_eq_true', Bool.not_eq_false', Bool.not_eq_eq_eq_not, Bool.not_true, Bool.not_false, gt_iff_lt, ge_iff_le, Int.not_lt, Int.not_le] at h1)
    try (exfalso; first | contradiction | omega)
    all_goals
      refine wl_no rfl rfl rfl (ltn rfl) ?_
      refine wl_no rfl rfl rfl (ltn rfl) ?_
      refine wl_no rfl rfl rfl (ltn rfl) ?_
      refine wl_no rfl rfl rfl (ltn rfl) ?_
      refine wl_no rfl rfl rfl (ltn rfl) ?_
      refine wl_val (r_pick_t rfl rfl) (ltn rfl) ?_
      refine wl_val (r_assign rfl) (ltn rfl) ?_
      refine wl_nil ?_
      refine wq_seq ?_
      refine wc_ret ?_
      refine wq_end1 (.inl rfl) Try.results51 rfl ?_
      exact ⟨rfl, rfl⟩
  · (try simp only [beq_iff_eq, bne_iff_ne, ne_eq, decide_eq_true_eq, decide_eq_false_iff_not, beq_eq_false_iff_ne, bne_eq_false_iff_eq, Bool.not_eq_true', Bool.not_eq_false', Bool.not_eq_eq_eq_not, Bool.not_true, Bool.not_false, gt_iff_lt, ge_iff_le, Int.not_lt, Int.not_le] at h1)
    try (exfalso; first | contradiction | omega)
    all_goals
      refine wl_yes rfl rfl ?_
      refine wl_val (r_move rfl) (ltn rfl) ?_
      refine wl_yes rfl rfl ?_
      refine wl_val (r_nil rfl) (ltn rfl) ?_
      refine wl_yes rfl rfl ?_
      refine wl_val ((by first | exact r_field0 4 Try.underlying72 rfl rfl Try.sizeOf4 (by decide) rfl | exact r_field 4 Try.underlying72 rfl rfl Try.sizeOf4 (by decide) rfl)) (ltn rfl) ?_
      refine wl_yes rfl rfl ?_
      refine wl_val (r_load (plain_of Try.underlying4 rfl) rfl (cell_of_blk (HU_p).get.2 rfl)) (ltn rfl) ?_
      refine wl_yes rfl rfl ?_
      refine wl_val (r_not rfl) (ltn rfl) ?_
      refine wl_val (r_pick_f rfl rfl) (ltn rfl) ?_
      refine wl_val (r_assign rfl) (ltn rfl) ?_
      refine wl_nil ?_
      refine wq_seq ?_
      refine wc_ret ?_
      refine wq_end1 (.inl rfl) Try.results51 rfl ?_
      exact ⟨rfl, rfl⟩
theorem undo_new_ret (H : Holds w0 w F) : Ret Try.prog 19 #[] w fun v w' => ∃ p, v = .pointer (some ⟨p, 0, none⟩) ∧ Holds w0 w' (UList p [] [] 0 • F) := by
  refine ret_enter Try.func19 rfl Try.ntmps19 (Nat.le_of_ble_eq_true rfl) ?_
  dsimp only [slots0, Nat.reduceAdd]
  refine wc_seq ?_
  refine wc_region ?_
  refine wl_val (r_assign rfl) (ltn rfl) ?_
  refine wl_nil ?_
  refine wq_seq ?_
  refine wc_seq ?_
  refine wc_region ?_
  refine wl_val (r_build (pl := #[(0, 4), (4, 1)]) (_) Try.underlying72 Try.zeroValue72 (fun w => by kernel_rfl) rfl (rfl)) (ltn rfl) ?_
  refine wl_eff (e_boxL (l := [_, _, _, _, _]) H rfl rfl) (ltn rfl) ?_
  rintro _ w1 ⟨b1, rfl, H1⟩
  refine wl_val (r_assign rfl) (ltn rfl) ?_
  refine wl_nil ?_
  refine wq_seq ?_
  refine wc_ret ?_
  refine wq_end1 (.inl rfl) Try.results19 rfl ?_
  refine ⟨_, rfl, Holds.mk_ulist (gv := .slice none 0 0) (nv := .slice none 0 0) (gs := []) (now := []) ⟨by simp, by decide, by decide, by decide, by simp, by simp⟩ rfl rfl rfl ?_⟩
  exact (((H1).edL_nil none).edLL_nil none).of_eq (by ac_rfl)
theorem undo_len_ret (H : Holds w0 w (UList p G N op • F)) : Ret Try.prog 27 #[.pointer (some ⟨p, 0, none⟩)] w fun v w' => v = .int .i64 ((G.length : Int) + min 1 N.length) ∧ Holds w0 w' (UList p G N op • F) := by
  refine ret_enter Try.func27 rfl Try.ntmps27 (Nat.le_of_ble_eq_true rfl) ?_
  dsimp only [slots0, Nat.reduceAdd]
  refine wc_seq ?_
  refine wc_region ?_
  refine wl_val (r_assign rfl) (ltn rfl) ?_
  refine wl_nil ?_
  refine wq_seq ?_
  refine wc_seq ?_
  refine wc_seq ?_
  refine wc_region ?_
  refine wl_val (r_move rfl) (ltn rfl) ?_
  refine wl_eff (e_call (r_call rfl Try.func51 rfl rfl) (undo_none_ret H)) (ltn rfl) ?_
  rintro _ _ ⟨rfl, rfl⟩
  refine wl_nil ?_
  refine wq_seq ?_
  refine wc_cond_f rfl ?_
  refine wc_skip ?_
  refine wq_seq ?_
  refine wc_seq ?_
  obtain ⟨gv_p, nv_p, gs_p, now_p, k1_p, k2_p, k3_p, k4_p, k5_p, k6_p, HU_p⟩ := (H).ulist
  have H3d2 := HU_p.drew
  have hS3d2 := Holds.kp (H3d2.f5.f5.f5.f5.f5)
  refine wd_beginK [4, 10] hS3d2 (by kernel_rfl) (by kernel_rfl) rfl ?_
  refine wd_takeT 0 rfl (by kernel_rfl) (by kernel_rfl) hS3d2 (fun _ => r_move rfl) (ltn rfl) ?_
  refine wd_takeT 1 rfl (by kernel_rfl) (by kernel_rfl) hS3d2 (fun _ => r_nil rfl) (ltn rfl) ?_
  refine wd_takeT 2 rfl (by kernel_rfl) (by kernel_rfl) hS3d2 (fun _ => (by first | exact r_field0 0 Try.underlying72 rfl rfl Try.sizeOf70 (by decide) rfl | exact r_field 0 Try.underlying72 rfl rfl Try.sizeOf70 (by decide) rfl)) (ltn rfl) ?_
  refine wd_takeT 3 rfl (by kernel_rfl) (by kernel_rfl) hS3d2 (fun _ => (by first | exact r_field0 0 Try.underlying70 rfl rfl Try.sizeOf43 (by decide) rfl | exact r_field 0 Try.underlying70 rfl rfl Try.sizeOf43 (by decide) rfl)) (ltn rfl) ?_
  refine wd_take 4 rfl (by kernel_rfl) (by kernel_rfl) hS3d2 (by decide) (fun W hW => r_load (plain_of Try.underlying43 rfl) rfl (cell_of_blk ((Kp.h hW)).get.2 rfl)) (ltn rfl) ?_
  refine wd_takeT 5 rfl (by kernel_rfl) (by kernel_rfl) hS3d2 (fun _ => r_lenS ((H3d2.f2).row_rd) Try.underlying43 rfl) (ltn rfl) ?_
  refine wd_takeT 6 rfl (by kernel_rfl) (by kernel_rfl) hS3d2 (fun _ => r_move rfl) (ltn rfl) ?_
  refine wd_takeT 7 rfl (by kernel_rfl) (by kernel_rfl) hS3d2 (fun _ => r_nil rfl) (ltn rfl) ?_
  refine wd_takeT 8 rfl (by kernel_rfl) (by kernel_rfl) hS3d2 (fun _ => (by first | exact r_field0 0 Try.underlying72 rfl rfl Try.sizeOf70 (by decide) rfl | exact r_field 0 Try.underlying72 rfl rfl Try.sizeOf70 (by decide) rfl)) (ltn rfl) ?_
  refine wd_takeT 9 rfl (by kernel_rfl) (by kernel_rfl) hS3d2 (fun _ => (by first | exact r_field0 1 Try.underlying70 rfl rfl Try.sizeOf39 (by decide) rfl | exact r_field 1 Try.underlying70 rfl rfl Try.sizeOf39 (by decide) rfl)) (ltn rfl) ?_
  refine wd_take 10 rfl (by kernel_rfl) (by kernel_rfl) hS3d2 (by decide) (fun W hW => r_load (plain_of Try.underlying39 rfl) rfl (cell_of_blk ((Kp.h hW)).get.2 rfl)) (ltn rfl) ?_
  refine wd_takeT 11 rfl (by kernel_rfl) (by kernel_rfl) hS3d2 (fun _ => r_lenS ((H3d2.f4).row_rd) Try.underlying39 rfl) (ltn rfl) ?_
  refine wd_takeT 12 rfl (by kernel_rfl) (by kernel_rfl) hS3d2 (fun _ => r_min rfl rfl) (ltn rfl) ?_
  refine wd_takeT 13 rfl (by kernel_rfl) (by kernel_rfl) hS3d2 (fun _ => r_add rfl rfl (by omega)) (ltn rfl) ?_
  refine wd_takeT 14 rfl (by kernel_rfl) (by kernel_rfl) hS3d2 (fun _ => r_assign rfl) (ltn rfl) ?_
  refine wd_done (by kernel_rfl) ?_
  refine wq_seq ?_
  refine wc_ret ?_
  refine wq_end1 (.inl rfl) Try.results27 rfl ?_
  have Ho4 := H3d2.f5.f5.f5.f5.f5
  have Hc5 := Holds.mk_ulistF k1_p k2_p k3_p rfl Ho4
  exact ⟨by rw [k4_p, k5_p]; congr 1; omega, Hc5⟩
theorem undo_edits_ret (H : Holds w0 w (UList p G N op • F)) : Ret Try.prog 28 #[.pointer (some ⟨p, 0, none⟩)] w fun v w' => v = .int .i64 (uTot G N : Nat) ∧ Holds w0 w' (UList p G N op • F) := by
  refine ret_enter Try.func28 rfl Try.ntmps28 (Nat.le_of_ble_eq_true rfl) ?_
  dsimp only [slots0, Nat.reduceAdd]
  refine wc_seq ?_
  refine wc_region ?_
  refine wl_val (r_assign rfl) (ltn rfl) ?_
  refine wl_nil ?_
  refine wq_seq ?_
  refine wc_seq ?_
  refine wc_seq ?_
  refine wc_region ?_
  refine wl_val (r_move rfl) (ltn rfl) ?_
  refine wl_eff (e_call (r_call rfl Try.func51 rfl rfl) (undo_none_ret H)) (ltn rfl) ?_
  rintro _ _ ⟨rfl, rfl⟩
  refine wl_nil ?_
  refine wq_seq ?_
  refine wc_cond_f rfl ?_
  refine wc_skip ?_
  refine wq_seq ?_
  refine wc_seq ?_
  obtain ⟨gv_p, nv_p, gs_p, now_p, k1_p, k2_p, k3_p, k4_p, k5_p, k6_p, HU_p⟩ := (H).ulist
  refine wc_region ?_
  refine wl_val (r_move rfl) (ltn rfl) ?_
  refine wl_val (r_nil rfl) (ltn rfl) ?_
  refine wl_val ((by first | exact r_field0 0 Try.underlying72 rfl rfl Try.sizeOf70 (by decide) rfl | exact r_field 0 Try.underlying72 rfl rfl Try.sizeOf70 (by decide) rfl)) (ltn rfl) ?_
  refine wl_val ((by first | exact r_field0 3 Try.underlying70 rfl rfl Try.sizeOf3 (by decide) rfl | exact r_field 3 Try.underlying70 rfl rfl Try.sizeOf3 (by decide) rfl)) (ltn rfl) ?_
  refine wl_val (r_load (plain_of Try.underlying3 rfl) rfl (cell_of_blk (HU_p).get.2 rfl)) (ltn rfl) ?_
  refine wl_val (r_assign rfl) (ltn rfl) ?_
  refine wl_nil ?_
  refine wq_seq ?_
  refine wc_ret ?_
  refine wq_end1 (.inl rfl) Try.results28 rfl ?_
  have Ho4 := HU_p.f5.f5.f5.f5.f5
  have Hc5 := Holds.mk_ulistF k1_p k2_p k3_p rfl Ho4
  exact ⟨rfl, Hc5⟩
theorem undo_open_ret (H : Holds w0 w (UList p G N op • F)) : Ret Try.prog 43 #[.pointer (some ⟨p, 0, none⟩)] w fun v w' => v = .int .i64 op ∧ Holds w0 w' (UList p G N op • F) := by
  refine ret_enter Try.func43 rfl Try.ntmps43 (Nat.le_of_ble_eq_true rfl) ?_
  dsimp only [slots0, Nat.reduceAdd]
  refine wc_seq ?_
  refine wc_region ?_
  refine wl_val (r_assign rfl) (ltn rfl) ?_
  refine wl_nil ?_
  refine wq_seq ?_
  refine wc_seq ?_
  refine wc_seq ?_
  refine wc_region ?_
  refine wl_val (r_move rfl) (ltn rfl) ?_
  refine wl_eff (e_call (r_call rfl Try.func51 rfl rfl) (undo_none_ret H)) (ltn rfl) ?_
  rintro _ _ ⟨rfl, rfl⟩
  refine wl_nil ?_
  refine wq_seq ?_
  refine wc_cond_f rfl ?_
  refine wc_skip ?_
  refine wq_seq ?_
  refine wc_seq ?_
  obtain ⟨gv_p, nv_p, gs_p, now_p, k1_p, k2_p, k3_p, k4_p, k5_p, k6_p, HU_p⟩ := (H).ulist
  refine wc_region ?_
  refine wl_val (r_move rfl) (ltn rfl) ?_
  refine wl_val (r_nil rfl) (ltn rfl) ?_
  refine wl_val ((by first | exact r_field0 0 Try.underlying72 rfl rfl Try.sizeOf70 (by decide) rfl | exact r_field 0 Try.underlying72 rfl rfl Try.sizeOf70 (by decide) rfl)) (ltn rfl) ?_
  refine wl_val ((by first | exact r_field0 2 Try.underlying70 rfl rfl Try.sizeOf3 (by decide) rfl | exact r_field 2 Try.underlying70 rfl rfl Try.sizeOf3 (by decide) rfl)) (ltn rfl) ?_
  refine wl_val (r_load (plain_of Try.underlying3 rfl) rfl (cell_of_blk (HU_p).get.2 rfl)) (ltn rfl) ?_
  refine wl_val (r_assign rfl) (ltn rfl) ?_
  refine wl_nil ?_
  refine wq_seq ?_
  refine wc_ret ?_
  refine wq_end1 (.inl rfl) Try.results43 rfl ?_
  have Ho4 := HU_p.f5.f5.f5.f5.f5
  have Hc5 := Holds.mk_ulistF k1_p k2_p k3_p rfl Ho4
  exact ⟨rfl, Hc5⟩
theorem undo_begin_ret (H : Holds w0 w (UList p G N op • F)) (hb : op < 4611686018427387904) : Ret Try.prog 26 #[.pointer (some ⟨p, 0, none⟩)] w fun v w' => v = .int .i64 0 ∧ Holds w0 w' (UList p G N (op + 1) • F) := by
  have hop : 0 ≤ op := by obtain ⟨gv, nv, gs, now, k1, _⟩ := H.ulist; exact k1.2.2.1
  refine ret_enter Try.func26 rfl Try.ntmps26 (Nat.le_of_ble_eq_true rfl) ?_
  dsimp only [slots0, Nat.reduceAdd]
  refine wc_seq ?_
  refine wc_region ?_
  refine wl_val (r_assign rfl) (ltn rfl) ?_
  refine wl_nil ?_
  refine wq_seq ?_
  refine wc_seq ?_
  refine wc_seq ?_
  refine wc_region ?_
  refine wl_val (r_move rfl) (ltn rfl) ?_
  refine wl_eff (e_call (r_call rfl Try.func51 rfl rfl) (undo_none_ret H)) (ltn rfl) ?_
  rintro _ _ ⟨rfl, rfl⟩
  refine wl_nil ?_
  refine wq_seq ?_
  refine wc_cond_f rfl ?_
  refine wc_skip ?_
  refine wq_seq ?_
  refine wc_seq ?_
  obtain ⟨gv_p, nv_p, gs_p, now_p, k1_p, k2_p, k3_p, k4_p, k5_p, k6_p, HU_p⟩ := (H).ulist
  refine wc_region ?_
  refine wl_val (r_move rfl) (ltn rfl) ?_
  refine wl_val (r_nil rfl) (ltn rfl) ?_
  refine wl_val ((by first | exact r_field0 0 Try.underlying72 rfl rfl Try.sizeOf70 (by decide) rfl | exact r_field 0 Try.underlying72 rfl rfl Try.sizeOf70 (by decide) rfl)) (ltn rfl) ?_
  refine wl_val ((by first | exact r_field0 2 Try.underlying70 rfl rfl Try.sizeOf3 (by decide) rfl | exact r_field 2 Try.underlying70 rfl rfl Try.sizeOf3 (by decide) rfl)) (ltn rfl) ?_
  refine wl_val (r_load (plain_of Try.underlying3 rfl) rfl (cell_of_blk (HU_p).get.2 rfl)) (ltn rfl) ?_
  refine wl_val (r_add rfl rfl (by omega)) (ltn rfl) ?_
  refine wl_val (r_nil rfl) (ltn rfl) ?_
  refine wl_val ((by first | exact r_field0 0 Try.underlying72 rfl rfl Try.sizeOf70 (by decide) rfl | exact r_field 0 Try.underlying72 rfl rfl Try.sizeOf70 (by decide) rfl)) (ltn rfl) ?_
  refine wl_val ((by first | exact r_field0 2 Try.underlying70 rfl rfl Try.sizeOf3 (by decide) rfl | exact r_field 2 Try.underlying70 rfl rfl Try.sizeOf3 (by decide) rfl)) (ltn rfl) ?_
  refine wl_eff0 (e_storeL 2 (l' := [_, _, _, _, _]) HU_p Try.sizeOf3 rfl rfl (by first | rfl | assumption) rfl rfl) ?_
  rintro _ w3 H3
  refine wl_nil ?_
  refine wq_seq ?_
  refine wc_seq ?_
  refine wc_region ?_
  refine wl_val (r_assign rfl) (ltn rfl) ?_
  refine wl_nil ?_
  refine wq_seq ?_
  refine wc_ret ?_
  refine wq_end1 (.inl rfl) Try.results26 rfl ?_
  exact ⟨rfl, Holds.mk_ulistF ⟨k1_p.1, k1_p.2.1, by omega, by omega, k1_p.2.2.2.2⟩ k2_p k3_p rfl H3.f5.f5.f5.f5.f5⟩
/-- Add: its answer; the groups, what was added in open ones. -/
def addE (G : List (List EdA)) (N : List EdA) (a : Int) (dl il : List Int) : Int := if dl.length + il.length = 0 ∨ a < 0 then 1 else if 16384 ≤ uTot G N then 3 else 0
def addG (G : List (List EdA)) (N : List EdA) (op a : Int) (dl il : List Int) : List (List EdA) := if addE G N a dl il = 0 then (if 0 < op then G else G ++ [[(a, dl, il)]]) else G
def addN (G : List (List EdA)) (N : List EdA) (op a : Int) (dl il : List Int) : List EdA := if addE G N a dl il = 0 then (if 0 < op then N ++ [(a, dl, il)] else N) else N
theorem uTot_in {x : EdA} : uTot G (N ++ [x]) = uTot G N + 1 := by simp [uTot]; omega
theorem uTot_out {x : EdA} : uTot (G ++ [[x]]) N = uTot G N + 1 := by simp [uTot]; omega
theorem addG_not (h : addE G N a dl il ≠ 0) : addG G N op a dl il = G := by unfold addG; rw [if_neg h]
theorem addN_not (h : addE G N a dl il ≠ 0) : addN G N op a dl il = N := by unfold addN; rw [if_neg h]
theorem addG_in (h : addE G N a dl il = 0) (ho : 0 < op) : addG G N op a dl il = G := by unfold addG; rw [if_pos h, if_pos ho]
theorem addN_in (h : addE G N a dl il = 0) (ho : 0 < op) : addN G N op a dl il = N ++ [(a, dl, il)] := by unfold addN; rw [if_pos h, if_pos ho]
theorem addG_out (h : addE G N a dl il = 0) (ho : ¬ 0 < op) : addG G N op a dl il = G ++ [[(a, dl, il)]] := by unfold addG; rw [if_pos h, if_neg ho]
theorem addN_out (h : addE G N a dl il = 0) (ho : ¬ 0 < op) : addN G N op a dl il = N := by unfold addN; rw [if_pos h, if_neg ho]
theorem undo_add_ret (H : Holds w0 w (UList p G N op • F)) (hd : FRdI w0 F .i32 d dl) (hi : FRdI w0 F .i32 z il) (b2 : dl.length ≤ 35184372087808) (b3 : il.length ≤ 35184372087808) :
    Ret Try.prog 21 #[.pointer (some ⟨p, 0, none⟩), edV a d z] w fun v w' => v = .int .i64 (addE G N a dl il) ∧ Holds w0 w' (UList p (addG G N op a dl il) (addN G N op a dl il) op • F) := by
  refine ret_enter Try.func21 rfl Try.ntmps21 (Nat.le_of_ble_eq_true rfl) ?_
  dsimp only [slots0, Nat.reduceAdd]
  refine wc_seq ?_
  refine wc_region ?_
  refine wl_eff (e_boxL (l := [_, _, _]) H rfl rfl) (ltn rfl) ?_
  rintro _ w1 ⟨b1, rfl, H1⟩
  refine wl_val (r_assign rfl) (ltn rfl) ?_
  refine wl_nil ?_
  refine wq_seq ?_
  refine wc_seq ?_
  refine wc_seq ?_
  refine wc_region ?_
  refine wl_val (r_move rfl) (ltn rfl) ?_
  refine wl_eff (e_call (r_call rfl Try.func51 rfl rfl) (undo_none_ret H1.f2)) (ltn rfl) ?_
  rintro _ _ ⟨rfl, rfl⟩
  refine wl_nil ?_
  refine wq_seq ?_
  refine wc_cond_f rfl ?_
  refine wc_skip ?_
  refine wq_seq ?_
  refine wc_seq ?_
  refine wc_seq ?_
  refine wc_region ?_
  refine wl_val ((by first | exact r_field0 1 Try.underlying24 rfl rfl Try.sizeOf22 (by decide) rfl | exact r_field 1 Try.underlying24 rfl rfl Try.sizeOf22 (by decide) rfl)) (ltn rfl) ?_
  refine wl_val (r_load (plain_of Try.underlying22 rfl) rfl (cell_of_blk (H1).get.2 rfl)) (ltn rfl) ?_
  refine wl_val (r_lenR (hd _ (H1.right.right)) Try.underlying22 rfl) (ltn rfl) ?_
  refine wl_val ((by first | exact r_field0 2 Try.underlying24 rfl rfl Try.sizeOf22 (by decide) rfl | exact r_field 2 Try.underlying24 rfl rfl Try.sizeOf22 (by decide) rfl)) (ltn rfl) ?_
  refine wl_val (r_load (plain_of Try.underlying22 rfl) rfl (cell_of_blk (H1).get.2 rfl)) (ltn rfl) ?_
  refine wl_val (r_lenR (hi _ (H1.right.right)) Try.underlying22 rfl) (ltn rfl) ?_
  refine wl_val (r_add rfl rfl (by omega)) (ltn rfl) ?_
  refine wl_val (r_eql rfl rfl) (ltn rfl) ?_
  refine wl_split rfl (ltn rfl) (fun h1 => ?_) (fun h1 => ?_)
  · (try simp only [beq_iff_eq, bne_iff_ne, ne_eq, decide_eq_true_eq, decide_eq_false_iff_not, beq_eq_false_iff_ne, bne_eq_false_iff_eq, Bool.not_eq_true', Bool.not_eq_false', Bool.not_eq_eq_eq_not, Bool.not_true, Bool.not_false, gt_iff_lt, ge_iff_le, Int.not_lt, Int.not_le] at h1)
    refine wl_no rfl rfl rfl (ltn rfl) ?_
    refine wl_no rfl rfl rfl (ltn rfl) ?_
    refine wl_no rfl rfl rfl (ltn rfl) ?_
    refine wl_val (r_pick_t rfl rfl) (ltn rfl) ?_
    refine wl_nil ?_
    refine wq_seq ?_
    refine wc_cond_t rfl ?_
    refine wc_seq ?_
    refine wc_region ?_
    refine wl_val (r_assign rfl) (ltn rfl) ?_
    refine wl_nil ?_
    refine wq_seq ?_
    refine wc_ret ?_
    refine wq_then_ret ?_
    refine wq_end1 (.inl rfl) Try.results21 rfl ?_
    have e : addE G N a dl il = 1 := by unfold addE; rw [if_pos (by omega)]
    rw [addG_not (by rw [e]; decide), addN_not (by rw [e]; decide), e]
    exact ⟨rfl, H1.right⟩
  · (try simp only [beq_iff_eq, bne_iff_ne, ne_eq, decide_eq_true_eq, decide_eq_false_iff_not, beq_eq_false_iff_ne, bne_eq_false_iff_eq, Bool.not_eq_true', Bool.not_eq_false', Bool.not_eq_eq_eq_not, Bool.not_true, Bool.not_false, gt_iff_lt, ge_iff_le, Int.not_lt, Int.not_le] at h1)
    refine wl_yes rfl rfl ?_
    refine wl_val ((by first | exact r_field0 0 Try.underlying24 rfl rfl Try.sizeOf3 (by decide) rfl | exact r_field 0 Try.underlying24 rfl rfl Try.sizeOf3 (by decide) rfl)) (ltn rfl) ?_
    refine wl_yes rfl rfl ?_
    refine wl_val (r_load (plain_of Try.underlying3 rfl) rfl (cell_of_blk (H1).get.2 rfl)) (ltn rfl) ?_
    refine wl_yes rfl rfl ?_
    refine wl_val (r_lss rfl rfl) (ltn rfl) ?_
    refine wl_val (r_pick_f rfl rfl) (ltn rfl) ?_
    refine wl_nil ?_
    refine wq_seq ?_
    refine wc_cond rfl (fun h2 => ?_) (fun h2 => ?_)
    · (try simp only [beq_iff_eq, bne_iff_ne, ne_eq, decide_eq_true_eq, decide_eq_false_iff_not, beq_eq_false_iff_ne, bne_eq_false_iff_eq, Bool.not_eq_true', Bool.not_eq_false', Bool.not_eq_eq_eq_not, Bool.not_true, Bool.not_false, gt_iff_lt, ge_iff_le, Int.not_lt, Int.not_le] at h2)
      
      refine wc_seq ?_
      refine wc_region ?_
      refine wl_val (r_assign rfl) (ltn rfl) ?_
      refine wl_nil ?_
      refine wq_seq ?_
      refine wc_ret ?_
      refine wq_then_ret ?_
      refine wq_end1 (.inl rfl) Try.results21 rfl ?_
      have e : addE G N a dl il = 1 := by unfold addE; rw [if_pos (by omega)]
      rw [addG_not (by rw [e]; decide), addN_not (by rw [e]; decide), e]
      exact ⟨rfl, H1.right⟩
    · (try simp only [beq_iff_eq, bne_iff_ne, ne_eq, decide_eq_true_eq, decide_eq_false_iff_not, beq_eq_false_iff_ne, bne_eq_false_iff_eq, Bool.not_eq_true', Bool.not_eq_false', Bool.not_eq_eq_eq_not, Bool.not_true, Bool.not_false, gt_iff_lt, ge_iff_le, Int.not_lt, Int.not_le] at h2)
      
      refine wc_skip ?_
      refine wq_seq ?_
      refine wc_seq ?_
      refine wc_seq ?_
      obtain ⟨gv_p, nv_p, gs_p, now_p, k1_p, k2_p, k3_p, k4_p, k5_p, k6_p, HU_p⟩ := (H1.f2).ulist
      refine wc_region ?_
      refine wl_val (r_move rfl) (ltn rfl) ?_
      refine wl_val (r_nil rfl) (ltn rfl) ?_
      refine wl_val ((by first | exact r_field0 0 Try.underlying72 rfl rfl Try.sizeOf70 (by decide) rfl | exact r_field 0 Try.underlying72 rfl rfl Try.sizeOf70 (by decide) rfl)) (ltn rfl) ?_
      refine wl_val ((by first | exact r_field0 3 Try.underlying70 rfl rfl Try.sizeOf3 (by decide) rfl | exact r_field 3 Try.underlying70 rfl rfl Try.sizeOf3 (by decide) rfl)) (ltn rfl) ?_
      refine wl_val (r_load (plain_of Try.underlying3 rfl) rfl (cell_of_blk (HU_p).get.2 rfl)) (ltn rfl) ?_
      refine wl_val (r_geq rfl rfl) (ltn rfl) ?_
      refine wl_nil ?_
      refine wq_seq ?_
      refine wc_cond rfl (fun h3 => ?_) (fun h3 => ?_)
      · (try simp only [beq_iff_eq, bne_iff_ne, ne_eq, decide_eq_true_eq, decide_eq_false_iff_not, beq_eq_false_iff_ne, bne_eq_false_iff_eq, Bool.not_eq_true', Bool.not_eq_false', Bool.not_eq_eq_eq_not, Bool.not_true, Bool.not_false, gt_iff_lt, ge_iff_le, Int.not_lt, Int.not_le] at h3)
        
        refine wc_seq ?_
        refine wc_region ?_
        refine wl_val (r_assign rfl) (ltn rfl) ?_
        refine wl_nil ?_
        refine wq_seq ?_
        refine wc_ret ?_
        refine wq_then_ret ?_
        refine wq_end1 (.inl rfl) Try.results21 rfl ?_
        have e : addE G N a dl il = 3 := by unfold addE; rw [if_neg (by omega), if_pos (by omega)]
        have Ho5 := HU_p.f5.f5.f5.f5.f5
        have Hc6 := Holds.mk_ulistF k1_p k2_p k3_p rfl Ho5
        rw [addG_not (by rw [e]; decide), addN_not (by rw [e]; decide), e]
        exact ⟨rfl, Hc6.f2.right⟩
      · (try simp only [beq_iff_eq, bne_iff_ne, ne_eq, decide_eq_true_eq, decide_eq_false_iff_not, beq_eq_false_iff_ne, bne_eq_false_iff_eq, Bool.not_eq_true', Bool.not_eq_false', Bool.not_eq_eq_eq_not, Bool.not_true, Bool.not_false, gt_iff_lt, ge_iff_le, Int.not_lt, Int.not_le] at h3)
        
        refine wc_skip ?_
        refine wq_seq ?_
        refine wc_seq ?_
        refine wc_region ?_
        refine wl_val (r_move rfl) (ltn rfl) ?_
        refine wl_val (r_nil rfl) (ltn rfl) ?_
        refine wl_val ((by first | exact r_field0 0 Try.underlying72 rfl rfl Try.sizeOf70 (by decide) rfl | exact r_field 0 Try.underlying72 rfl rfl Try.sizeOf70 (by decide) rfl)) (ltn rfl) ?_
        refine wl_val ((by first | exact r_field0 3 Try.underlying70 rfl rfl Try.sizeOf3 (by decide) rfl | exact r_field 3 Try.underlying70 rfl rfl Try.sizeOf3 (by decide) rfl)) (ltn rfl) ?_
        refine wl_val (r_load (plain_of Try.underlying3 rfl) rfl (cell_of_blk (HU_p).get.2 rfl)) (ltn rfl) ?_
        refine wl_val (r_add rfl rfl (by omega)) (ltn rfl) ?_
        refine wl_val (r_nil rfl) (ltn rfl) ?_
        refine wl_val ((by first | exact r_field0 0 Try.underlying72 rfl rfl Try.sizeOf70 (by decide) rfl | exact r_field 0 Try.underlying72 rfl rfl Try.sizeOf70 (by decide) rfl)) (ltn rfl) ?_
        refine wl_val ((by first | exact r_field0 3 Try.underlying70 rfl rfl Try.sizeOf3 (by decide) rfl | exact r_field 3 Try.underlying70 rfl rfl Try.sizeOf3 (by decide) rfl)) (ltn rfl) ?_
        refine wl_eff0 (e_storeL 3 (l' := [_, _, _, _, _]) HU_p Try.sizeOf3 rfl rfl (by first | rfl | assumption) rfl rfl) ?_
        rintro _ w7 H7
        refine wl_nil ?_
        refine wq_seq ?_
        refine wc_seq ?_
        refine wc_seq ?_
        refine wc_region ?_
        refine wl_val (r_move rfl) (ltn rfl) ?_
        refine wl_val (r_nil rfl) (ltn rfl) ?_
        refine wl_val ((by first | exact r_field0 0 Try.underlying72 rfl rfl Try.sizeOf70 (by decide) rfl | exact r_field 0 Try.underlying72 rfl rfl Try.sizeOf70 (by decide) rfl)) (ltn rfl) ?_
        refine wl_val ((by first | exact r_field0 2 Try.underlying70 rfl rfl Try.sizeOf3 (by decide) rfl | exact r_field 2 Try.underlying70 rfl rfl Try.sizeOf3 (by decide) rfl)) (ltn rfl) ?_
        refine wl_val (r_load (plain_of Try.underlying3 rfl) rfl (cell_of_blk (H7).get.2 rfl)) (ltn rfl) ?_
        refine wl_val (r_gtr rfl rfl) (ltn rfl) ?_
        refine wl_nil ?_
        refine wq_seq ?_
        refine wc_cond rfl (fun h4 => ?_) (fun h4 => ?_)
        · (try simp only [beq_iff_eq, bne_iff_ne, ne_eq, decide_eq_true_eq, decide_eq_false_iff_not, beq_eq_false_iff_ne, bne_eq_false_iff_eq, Bool.not_eq_true', Bool.not_eq_false', Bool.not_eq_eq_eq_not, Bool.not_true, Bool.not_false, gt_iff_lt, ge_iff_le, Int.not_lt, Int.not_le] at h4)
          
          have H9d7 := H7.drew
          have hS9d7 := Holds.kp (H9d7.f6.f6.f6.f6.f6.f6)
          refine wd_beginK [5, 6] hS9d7 (by kernel_rfl) (by kernel_rfl) rfl ?_
          refine wd_takeT 0 rfl (by kernel_rfl) (by kernel_rfl) hS9d7 (fun _ => r_move rfl) (ltn rfl) ?_
          refine wd_takeT 1 rfl (by kernel_rfl) (by kernel_rfl) hS9d7 (fun _ => r_move rfl) (ltn rfl) ?_
          refine wd_takeT 2 rfl (by kernel_rfl) (by kernel_rfl) hS9d7 (fun _ => r_nil rfl) (ltn rfl) ?_
          refine wd_takeT 3 rfl (by kernel_rfl) (by kernel_rfl) hS9d7 (fun _ => (by first | exact r_field0 0 Try.underlying72 rfl rfl Try.sizeOf70 (by decide) rfl | exact r_field 0 Try.underlying72 rfl rfl Try.sizeOf70 (by decide) rfl)) (ltn rfl) ?_
          refine wd_takeT 4 rfl (by kernel_rfl) (by kernel_rfl) hS9d7 (fun _ => (by first | exact r_field0 1 Try.underlying70 rfl rfl Try.sizeOf39 (by decide) rfl | exact r_field 1 Try.underlying70 rfl rfl Try.sizeOf39 (by decide) rfl)) (ltn rfl) ?_
          refine wd_take 5 rfl (by kernel_rfl) (by kernel_rfl) hS9d7 (by decide) (fun W hW => r_load (plain_of Try.underlying39 rfl) rfl (cell_of_blk ((Kp.h hW)).get.2 rfl)) (ltn rfl) ?_
          refine wd_take 6 rfl (by kernel_rfl) (by kernel_rfl) hS9d7 (by decide) (fun W hW => r_load_whole Try.underlying24 rfl Try.sizeOf24 rfl rfl ((Kp.h hW).f6).get.2) (ltn rfl) ?_
          refine wd_eff 7 rfl (by kernel_rfl) (e_call (r_call rfl Try.func50 rfl rfl) (undo_own_ret H9d7 (fun W HW => hd _ (HW.right.right.right.right.right.right)) (fun W HW => hi _ (HW.right.right.right.right.right.right)) (by omega) (by omega))) (ltn rfl) ?_
          rintro _ w8 ⟨d8, s8, rfl, H8⟩
          have hS8n := Holds.kp (H8.f8.f8.f8.f8.f8.f8.f8.f8)
          refine keepK hS8n (fun W hW => (Kp.h hW).right.right.f6.f6.f6.f6.f6.f6) ?_
          refine wd_eff 8 rfl (by kernel_rfl) (e_lit_one H8 Try.underlying39 Try.sizeOf24 Try.zeroValue24 rfl rfl rfl (by decide) (by decide)) (ltn rfl) ?_
          rintro l9 w9 H9
          have hS9n := Holds.kp (H9.f9.f9.f9.f9.f9.f9.f9.f9.f9)
          refine keepK hS9n (fun W hW => (Kp.h hW).right.f8.f8.f8.f8.f8.f8.f8.f8) ?_
          refine wd_eff 9 rfl (by kernel_rfl) (e_append H9.f7 Try.underlying39 (show (Try.prog.info? 24).map (fun i => (i.zero, i.size, i.bytes)) = some (some (.agg #[.int .i64 0, .slice none 0 0, .slice none 0 0]), 3, 56) by kernel_rfl) rfl rfl rfl ((H9).row_rd) (ones_cons (by first | rfl | assumption) (ones_cons (by first | rfl | exact Rd.one ((H9.f2).row_rd)) (ones_cons (by first | rfl | exact Rd.one ((H9.f3).row_rd)) ones_nil))) (by omega) (by omega)) (ltn rfl) ?_
          rintro l10 w10 H10
          have Hd11 := H10.f2.right
          have hS11n := Holds.kp (Hd11.f8.f8.f8.f8.f8.f8.f8.f8)
          refine keepX hS11n (by kernel_rfl) ?_
          refine wd_takeT 10 rfl (by kernel_rfl) (by kernel_rfl) hS11n (fun _ => r_nil rfl) (ltn rfl) ?_
          refine wd_takeT 11 rfl (by kernel_rfl) (by kernel_rfl) hS11n (fun _ => (by first | exact r_field0 0 Try.underlying72 rfl rfl Try.sizeOf70 (by decide) rfl | exact r_field 0 Try.underlying72 rfl rfl Try.sizeOf70 (by decide) rfl)) (ltn rfl) ?_
          refine wd_takeT 12 rfl (by kernel_rfl) (by kernel_rfl) hS11n (fun _ => (by first | exact r_field0 1 Try.underlying70 rfl rfl Try.sizeOf39 (by decide) rfl | exact r_field 1 Try.underlying70 rfl rfl Try.sizeOf39 (by decide) rfl)) (ltn rfl) ?_
          refine wd_eff0 13 rfl (by kernel_rfl) (e_storeL 1 (l' := [_, _, _, _, _]) Hd11.f4 Try.sizeOf39 rfl rfl (by first | rfl | exact Rd.one ((Hd11).row_rd)) rfl rfl) ?_
          rintro _ w12 H12
          have hS12n := Holds.kp (H12.f8.f8.f8.f8.f8.f8.f8.f8)
          refine keepX hS12n (by kernel_rfl) ?_
          have hadd : 0 < op := by omega
          refine wd_done (by kernel_rfl) ?_
          refine wq_seq ?_
          refine wc_seq ?_
          refine wc_region ?_
          refine wl_val (r_assign rfl) (ltn rfl) ?_
          refine wl_nil ?_
          refine wq_seq ?_
          refine wc_ret ?_
          refine wq_end1 (.inl rfl) Try.results21 rfl ?_
          have e : addE G N a dl il = 0 := by unfold addE; rw [if_neg (by omega), if_neg (by omega)]
          rw [addG_in e hadd, addN_in e hadd, e]
          have X := (H12.f8.right.f6.f6.f3.f7.f5.f7.f7).freezeI.swap.freezeI.swap
          have X2 := Holds.edL_snoc X.f3
          refine ⟨rfl, Holds.mk_ulist (gv := gv_p) (nv := l10) (gs := gs_p) (now := now_p ++ [⟨a, d8, dl, s8, il⟩]) (ed := (uTot G N : Nat) + 1) ⟨k1_p.1, by rw [uTot_in]; omega, k1_p.2.2.1, k1_p.2.2.2.1, k1_p.2.2.2.2.1, EB_snoc k1_p.2.2.2.2.2 ⟨b2, b3⟩⟩ k2_p (by rw [List.map_append, k3_p]; rfl) (by rw [uTot_in]; rfl) (X2.of_eq (by unfold EdLL; ac_rfl))⟩
        · (try simp only [beq_iff_eq, bne_iff_ne, ne_eq, decide_eq_true_eq, decide_eq_false_iff_not, beq_eq_false_iff_ne, bne_eq_false_iff_eq, Bool.not_eq_true', Bool.not_eq_false', Bool.not_eq_eq_eq_not, Bool.not_true, Bool.not_false, gt_iff_lt, ge_iff_le, Int.not_lt, Int.not_le] at h4)
          
          have H10d12 := H7.drew
          have hS10d12 := Holds.kp (H10d12.f6.f6.f6.f6.f6.f6)
          refine wd_beginK [5, 6] hS10d12 (by kernel_rfl) (by kernel_rfl) rfl ?_
          refine wd_takeT 0 rfl (by kernel_rfl) (by kernel_rfl) hS10d12 (fun _ => r_move rfl) (ltn rfl) ?_
          refine wd_takeT 1 rfl (by kernel_rfl) (by kernel_rfl) hS10d12 (fun _ => r_move rfl) (ltn rfl) ?_
          refine wd_takeT 2 rfl (by kernel_rfl) (by kernel_rfl) hS10d12 (fun _ => r_nil rfl) (ltn rfl) ?_
          refine wd_takeT 3 rfl (by kernel_rfl) (by kernel_rfl) hS10d12 (fun _ => (by first | exact r_field0 0 Try.underlying72 rfl rfl Try.sizeOf70 (by decide) rfl | exact r_field 0 Try.underlying72 rfl rfl Try.sizeOf70 (by decide) rfl)) (ltn rfl) ?_
          refine wd_takeT 4 rfl (by kernel_rfl) (by kernel_rfl) hS10d12 (fun _ => (by first | exact r_field0 0 Try.underlying70 rfl rfl Try.sizeOf43 (by decide) rfl | exact r_field 0 Try.underlying70 rfl rfl Try.sizeOf43 (by decide) rfl)) (ltn rfl) ?_
          refine wd_take 5 rfl (by kernel_rfl) (by kernel_rfl) hS10d12 (by decide) (fun W hW => r_load (plain_of Try.underlying43 rfl) rfl (cell_of_blk ((Kp.h hW)).get.2 rfl)) (ltn rfl) ?_
          refine wd_take 6 rfl (by kernel_rfl) (by kernel_rfl) hS10d12 (by decide) (fun W hW => r_load_whole Try.underlying24 rfl Try.sizeOf24 rfl rfl ((Kp.h hW).f6).get.2) (ltn rfl) ?_
          refine wd_eff 7 rfl (by kernel_rfl) (e_call (r_call rfl Try.func50 rfl rfl) (undo_own_ret H10d12 (fun W HW => hd _ (HW.right.right.right.right.right.right)) (fun W HW => hi _ (HW.right.right.right.right.right.right)) (by omega) (by omega))) (ltn rfl) ?_
          rintro _ w13 ⟨d13, s13, rfl, H13⟩
          have hS13n := Holds.kp (H13.f8.f8.f8.f8.f8.f8.f8.f8)
          refine keepK hS13n (fun W hW => (Kp.h hW).right.right.f6.f6.f6.f6.f6.f6) ?_
          refine wd_eff 8 rfl (by kernel_rfl) (e_lit_one H13 Try.underlying39 Try.sizeOf24 Try.zeroValue24 rfl rfl rfl (by decide) (by decide)) (ltn rfl) ?_
          rintro l14 w14 H14
          have hS14n := Holds.kp (H14.f9.f9.f9.f9.f9.f9.f9.f9.f9)
          refine keepK hS14n (fun W hW => (Kp.h hW).right.f8.f8.f8.f8.f8.f8.f8.f8) ?_
          refine wd_eff 9 rfl (by kernel_rfl) (e_lit_row (vs := [_]) H14 Try.underlying43 Try.sizeOf39 Try.zeroValue39 rfl rfl rfl (by decide) (ones_cons (by first | rfl | exact Rd.one ((H14).row_rd)) ones_nil)) (ltn rfl) ?_
          rintro l15 w15 H15
          have hS15n := Holds.kp (H15.f10.f10.f10.f10.f10.f10.f10.f10.f10.f10)
          refine keepK hS15n (fun W hW => (Kp.h hW).right.f9.f9.f9.f9.f9.f9.f9.f9.f9) ?_
          refine wd_eff 10 rfl (by kernel_rfl) (e_append H15.f6 Try.underlying43 (show (Try.prog.info? 39).map (fun i => (i.zero, i.size, i.bytes)) = some (some (.slice none 0 0), 1, 24) by kernel_rfl) rfl rfl rfl ((H15).row_rd) (ones_cons (by first | rfl | exact Rd.one ((H15.f2).row_rd)) ones_nil) (by omega) (by omega)) (ltn rfl) ?_
          rintro l16 w16 H16
          have Hd17 := H16.f2.right
          have hS17n := Holds.kp (Hd17.f9.f9.f9.f9.f9.f9.f9.f9.f9)
          refine keepX hS17n (by kernel_rfl) ?_
          refine wd_takeT 11 rfl (by kernel_rfl) (by kernel_rfl) hS17n (fun _ => r_nil rfl) (ltn rfl) ?_
          refine wd_takeT 12 rfl (by kernel_rfl) (by kernel_rfl) hS17n (fun _ => (by first | exact r_field0 0 Try.underlying72 rfl rfl Try.sizeOf70 (by decide) rfl | exact r_field 0 Try.underlying72 rfl rfl Try.sizeOf70 (by decide) rfl)) (ltn rfl) ?_
          refine wd_takeT 13 rfl (by kernel_rfl) (by kernel_rfl) hS17n (fun _ => (by first | exact r_field0 0 Try.underlying70 rfl rfl Try.sizeOf43 (by decide) rfl | exact r_field 0 Try.underlying70 rfl rfl Try.sizeOf43 (by decide) rfl)) (ltn rfl) ?_
          refine wd_eff0 14 rfl (by kernel_rfl) (e_storeL 0 (l' := [_, _, _, _, _]) Hd17.f5 Try.sizeOf43 rfl rfl (by first | rfl | exact Rd.one ((Hd17).row_rd)) rfl rfl) ?_
          rintro _ w18 H18
          have hS18n := Holds.kp (H18.f9.f9.f9.f9.f9.f9.f9.f9.f9)
          refine keepX hS18n (by kernel_rfl) ?_
          have hadd : ¬ 0 < op := by omega
          refine wd_done (by kernel_rfl) ?_
          refine wq_seq ?_
          refine wc_seq ?_
          refine wc_region ?_
          refine wl_val (r_assign rfl) (ltn rfl) ?_
          refine wl_nil ?_
          refine wq_seq ?_
          refine wc_ret ?_
          refine wq_end1 (.inl rfl) Try.results21 rfl ?_
          have e : addE G N a dl il = 0 := by unfold addE; rw [if_neg (by omega), if_neg (by omega)]
          rw [addG_out e hadd, addN_out e hadd, e]
          have X := (H18.f9.right.f8.f8.f3.f8.f5.f6.f8.f8).freezeI.swap.freezeI.swap
          have X2 := Holds.edL_snoc (es := []) X.edsK_nil.f3.f3.f4
          have X4 := Holds.edLL_snoc X2.edL_freeze.swap
          refine ⟨rfl, Holds.mk_ulist (gv := l16) (nv := nv_p) (gs := gs_p ++ [(l14, [⟨a, d13, dl, s13, il⟩])]) (now := now_p) (ed := (uTot G N : Nat) + 1) ⟨nn_snoc k1_p.1 (List.cons_ne_nil _ _), by rw [uTot_out]; omega, k1_p.2.2.1, k1_p.2.2.2.1, EBs_snoc k1_p.2.2.2.2.1 (by intro e he; rw [List.mem_singleton.1 he]; exact ⟨b2, b3⟩), k1_p.2.2.2.2.2⟩ (by rw [List.map_append, k2_p]; rfl) k3_p (by rw [uTot_out]; rfl) (X4.of_eq (by unfold EdL; ac_rfl))⟩
end
end Go.Proofs.Ytaabgcfeghcmnaa
