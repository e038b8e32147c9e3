import Derived.Test.YtgmpclifphbjkaaGreatDoorZ10
import Derived.Test.YtgmpclifphbjkaaGreatDoorZ7
/- Texts of mine, joined: UList Range. -/
section
/- Lists of edits that are taken back: what stands in memory; methods. -/
set_option linter.unusedSimpArgs false
set_option linter.unusedVariables false
namespace Go.Proofs.YtgmpclifphbjkaaGreatDoor
open Go.RowKit
abbrev EdA := Int × List Int × List Int
def uTot (G : List (List EdA)) (N : List EdA) : Nat := (G.map List.length).sum + N.length
def EB (e : EdA) : Prop := e.2.1.length ≤ 35184372087808 ∧ e.2.2.length ≤ 35184372087808
theorem EB_snoc {N : List EdA} {x : EdA} (h : ∀ e ∈ N, EB e) (hx : EB x) : ∀ e ∈ N ++ [x], EB e := fun e he => by
  rcases List.mem_append.1 he with he | he
  · exact h e he
  · rw [List.mem_singleton.1 he]; exact hx
theorem EBs_snoc {G : List (List EdA)} {N : List EdA} (h : ∀ g ∈ G, ∀ e ∈ g, EB e) (hx : ∀ e ∈ N, EB e) : ∀ g ∈ G ++ [N], ∀ e ∈ g, EB e := fun g hg => by
  rcases List.mem_append.1 hg with hg | hg
  · exact h g hg
  · rw [List.mem_singleton.1 hg]; exact hx
theorem nn_snoc {G : List (List EdA)} {N : List EdA} (h : ∀ g ∈ G, g ≠ []) (hx : N ≠ []) : ∀ g ∈ G ++ [N], g ≠ [] := fun g hg => by
  rcases List.mem_append.1 hg with hg | hg
  · exact h g hg
  · rw [List.mem_singleton.1 hg]; exact hx
def UOk (G : List (List EdA)) (N : List EdA) (op : Int) : Prop := (∀ g ∈ G, g ≠ []) ∧ uTot G N ≤ 16384 ∧ 0 ≤ op ∧ op ≤ 4611686018427387904 ∧ (∀ g ∈ G, ∀ e ∈ g, EB e) ∧ ∀ e ∈ N, EB e
theorem len_le_sum {G : List (List EdA)} (h : ∀ g ∈ G, g ≠ []) : G.length ≤ (G.map List.length).sum := by
  induction G with
  | nil => simp
  | cons g G ih =>
    have h1 := ih fun x hx => h x (by simp [hx])
    have h2 : 0 < g.length := List.length_pos_iff.2 (h g (by simp))
    simp; omega
theorem UOk.len {G : List (List EdA)} {N : List EdA} {op : Int} (h : UOk G N op) : G.length + N.length ≤ 16384 := by
  have := len_le_sum h.1
  have := h.2.1
  unfold uTot at this
  omega
def UList (p : Nat) (G : List (List EdA)) (N : List EdA) (op : Int) : HP := exHP fun (x : Value × Value × List (Value × List BEd) × List BEd) =>
  fact (UOk G N op ∧ x.2.2.1.map (fun g => g.2.map BEd.says) = G ∧ x.2.2.2.map BEd.says = N) • blk p (.cells #[x.1, x.2.1, .int .i64 op, .int .i64 (uTot G N : Nat), .bool true] 171 (0, 0)) • EdLL x.1 x.2.2.1 • EdL x.2.1 x.2.2.2
section
variable {w0 w : World} {F : HP} {p : Nat} {G : List (List EdA)} {N : List EdA} {op : Int} {gv nv : Value} {gs : List (Value × List BEd)} {now : List BEd} {a : Int} {d z : Value} {dl il : List Int}
theorem Holds.ulist (H : Holds w0 w (UList p G N op • F)) : ∃ gv nv gs now, UOk G N op ∧ gs.map (fun g => g.2.map BEd.says) = G ∧ now.map BEd.says = N ∧ gs.length = G.length ∧ now.length = N.length ∧ G.length + N.length ≤ 16384 ∧
    Holds w0 w (blk p (.cells #[gv, nv, .int .i64 op, .int .i64 (uTot G N : Nat), .bool true] 171 (0, 0)) • Row 64 1 gv gs.length (gs.map (·.1)) • elsK gs • Row 120 3 nv now.length (now.flatMap BEd.enc) • edsK now • F) := by
  obtain ⟨⟨gv, nv, gs, now⟩, H⟩ := H.ex_sep
  obtain ⟨⟨h1, h2, h3⟩, H⟩ := H.flat.fact
  refine ⟨gv, nv, gs, now, h1, h2, h3, ?_, ?_, h1.len, ?_⟩
  · rw [← h2]; simp
  · rw [← h3]; simp
  · have := H.flat
    unfold EdLL EdL at this
    exact this.of_eq (by ac_rfl)
theorem Holds.mk_ulist (h1 : UOk G N op) (h2 : gs.map (fun g => g.2.map BEd.says) = G) (h3 : now.map BEd.says = N) {ed : Int} (he : ed = (uTot G N : Nat))
    (H : Holds w0 w (blk p (.cells #[gv, nv, .int .i64 op, .int .i64 ed, .bool true] 171 (0, 0)) • EdLL gv gs • EdL nv now • F)) : Holds w0 w (UList p G N op • F) := by
  subst he
  exact Holds.mk_ex_sep (gv, nv, gs, now) (Holds.deep (Holds.mk_fact ⟨h1, h2, h3⟩ (H.of_eq (by ac_rfl))))
theorem Holds.mk_ulistF (h1 : UOk G N op) (h2 : gs.map (fun g => g.2.map BEd.says) = G) (h3 : now.map BEd.says = N) {ed : Int} (he : ed = (uTot G N : Nat))
    (H : Holds w0 w (blk p (.cells #[gv, nv, .int .i64 op, .int .i64 ed, .bool true] 171 (0, 0)) • Row 64 1 gv gs.length (gs.map (·.1)) • elsK gs • Row 120 3 nv now.length (now.flatMap BEd.enc) • edsK now • F)) : Holds w0 w (UList p G N op • F) :=
  Holds.mk_ulist h1 h2 h3 he (H.of_eq (by unfold EdLL EdL; ac_rfl))
theorem undo_none_ret (H : Holds w0 w (UList p G N op • F)) : Ret Tryz.prog 127 #[.pointer (some ⟨p, 0, none⟩)] w fun v w' => v = .bool false ∧ w = w' := by
  refine ret_enter Tryz.func127 rfl Tryz.ntmps127 (Nat.le_of_ble_eq_true rfl) ?_
  dsimp only [slots0, Nat.reduceAdd]
  refine wc_seq ?_
  refine wc_region ?_
  refine wl_val (r_assign rfl) (ltn rfl) ?_
  refine wl_nil ?_
  refine wq_seq ?_
  refine wc_seq ?_
  obtain ⟨gv_p, nv_p, gs_p, now_p, k1_p, k2_p, k3_p, k4_p, k5_p, k6_p, HU_p⟩ := (H).ulist
  refine wc_region ?_
  refine wl_val (r_move rfl) (ltn rfl) ?_
  refine wl_val (r_ptr_nil Tryz.underlying116 rfl rfl) (ltn rfl) ?_
  refine wl_split rfl (ltn rfl) (fun h1 => ?_) (fun h1 => ?_)
  · (try simp only [cmpS] at h1)
    try (exfalso; first | contradiction | omega)
    all_goals
      refine wl_no rfl rfl rfl (ltn rfl) ?_
      refine wl_no rfl rfl rfl (ltn rfl) ?_
      refine wl_no rfl rfl rfl (ltn rfl) ?_
      refine wl_no rfl rfl rfl (ltn rfl) ?_
      refine wl_no rfl rfl rfl (ltn rfl) ?_
      refine wl_val (r_pick_t rfl rfl) (ltn rfl) ?_
      refine wl_val (r_assign rfl) (ltn rfl) ?_
      refine wl_nil ?_
      refine wq_seq ?_
      refine wc_ret ?_
      refine wq_end1 (.inl rfl) Tryz.results127 rfl ?_
      exact ⟨rfl, rfl⟩
  · (try simp only [cmpS] at h1)
    try (exfalso; first | contradiction | omega)
    all_goals
      refine wl_yes rfl rfl ?_
      refine wl_val (r_move rfl) (ltn rfl) ?_
      refine wl_yes rfl rfl ?_
      refine wl_val (r_nil rfl) (ltn rfl) ?_
      refine wl_yes rfl rfl ?_
      refine wl_val (r_fieldA 4 Tryz.underlying171 rfl rfl Tryz.sizeOf4 (by decide) rfl (by first | exact Nat.zero_add _ | rfl)) (ltn rfl) ?_
      refine wl_yes rfl rfl ?_
      refine wl_val (r_load (plain_of Tryz.underlying4 rfl) rfl (cell_of_blk (HU_p).get.2 rfl)) (ltn rfl) ?_
      refine wl_yes rfl rfl ?_
      refine wl_val (r_not rfl) (ltn rfl) ?_
      refine wl_val (r_pick_f rfl rfl) (ltn rfl) ?_
      refine wl_val (r_assign rfl) (ltn rfl) ?_
      refine wl_nil ?_
      refine wq_seq ?_
      refine wc_ret ?_
      refine wq_end1 (.inl rfl) Tryz.results127 rfl ?_
      exact ⟨rfl, rfl⟩
theorem undo_new_ret (H : Holds w0 w F) : Ret Tryz.prog 126 #[] w fun v w' => ∃ p, v = .pointer (some ⟨p, 0, none⟩) ∧ Holds w0 w' (UList p [] [] 0 • F) := by
  refine ret_enter Tryz.func126 rfl Tryz.ntmps126 (Nat.le_of_ble_eq_true rfl) ?_
  dsimp only [slots0, Nat.reduceAdd]
  refine wc_seq ?_
  refine wc_region ?_
  refine wl_val (r_assign rfl) (ltn rfl) ?_
  refine wl_nil ?_
  refine wq_seq ?_
  refine wc_seq ?_
  refine wc_region ?_
  refine wl_val (r_build (pl := #[(0, 4), (4, 1)]) (#[_, _, _, _, _]) Tryz.underlying171 Tryz.zeroValue171 (fun w => by kernel_rfl) rfl (rfl)) (ltn rfl) ?_
  refine wl_eff (e_boxL (l := [_, _, _, _, _]) H rfl rfl) (ltn rfl) ?_
  rintro _ w1 ⟨b1, rfl, H1⟩
  refine wl_val (r_assign rfl) (ltn rfl) ?_
  refine wl_nil ?_
  refine wq_seq ?_
  refine wc_ret ?_
  refine wq_end1 (.inl rfl) Tryz.results126 rfl ?_
  refine ⟨_, rfl, Holds.mk_ulist (gv := .slice none 0 0) (nv := .slice none 0 0) (gs := []) (now := []) ⟨by simp, by decide, by decide, by decide, by simp, by simp⟩ rfl rfl rfl ?_⟩
  exact (((H1).edL_nil none).edLL_nil none).of_eq (by ac_rfl)
theorem undo_len_ret (H : Holds w0 w (UList p G N op • F)) : Ret Tryz.prog 60 #[.pointer (some ⟨p, 0, none⟩)] w fun v w' => v = .int .i64 ((G.length : Int) + min 1 N.length) ∧ Holds w0 w' (UList p G N op • F) := by
  refine ret_enter Tryz.func60 rfl Tryz.ntmps60 (Nat.le_of_ble_eq_true rfl) ?_
  dsimp only [slots0, Nat.reduceAdd]
  refine wc_seq ?_
  refine wc_region ?_
  refine wl_val (r_assign rfl) (ltn rfl) ?_
  refine wl_nil ?_
  refine wq_seq ?_
  refine wc_seq ?_
  refine wc_seq ?_
  refine wc_region ?_
  refine wl_val (r_move rfl) (ltn rfl) ?_
  refine wl_eff (e_call (r_call rfl Tryz.func127 rfl rfl) (undo_none_ret H)) (ltn rfl) ?_
  rintro _ _ ⟨rfl, rfl⟩
  refine wl_nil ?_
  refine wq_seq ?_
  refine wc_cond_f rfl ?_
  refine wc_skip ?_
  refine wq_seq ?_
  refine wc_seq ?_
  obtain ⟨gv_p, nv_p, gs_p, now_p, k1_p, k2_p, k3_p, k4_p, k5_p, k6_p, HU_p⟩ := (H).ulist
  have H3d2 := HU_p.drew
  have hS3d2 := Holds.kp (H3d2.f5.f5.f5.f5.f5)
  refine wd_beginK [4, 10] hS3d2 (by kernel_rfl) (by kernel_rfl) rfl ?_
  refine wd_takeT 0 rfl (by kernel_rfl) (by kernel_rfl) hS3d2 (fun _ => r_move rfl) (ltn rfl) ?_
  refine wd_takeT 1 rfl (by kernel_rfl) (by kernel_rfl) hS3d2 (fun _ => r_nil rfl) (ltn rfl) ?_
  refine wd_takeT 2 rfl (by kernel_rfl) (by kernel_rfl) hS3d2 (fun _ => r_fieldA 0 Tryz.underlying171 rfl rfl Tryz.sizeOf169 (by decide) rfl (by first | exact Nat.zero_add _ | rfl)) (ltn rfl) ?_
  refine wd_takeT 3 rfl (by kernel_rfl) (by kernel_rfl) hS3d2 (fun _ => r_fieldA 0 Tryz.underlying169 rfl rfl Tryz.sizeOf167 (by decide) rfl (by first | exact Nat.zero_add _ | rfl)) (ltn rfl) ?_
  refine wd_take 4 rfl (by kernel_rfl) (by kernel_rfl) hS3d2 (by decide) (fun W hW => r_load (plain_of Tryz.underlying167 rfl) rfl (cell_of_blk ((Kp.h hW)).get.2 rfl)) (ltn rfl) ?_
  refine wd_takeT 5 rfl (by kernel_rfl) (by kernel_rfl) hS3d2 (fun _ => r_lenS ((H3d2.f2).row_rd) Tryz.underlying167 rfl) (ltn rfl) ?_
  refine wd_takeT 6 rfl (by kernel_rfl) (by kernel_rfl) hS3d2 (fun _ => r_move rfl) (ltn rfl) ?_
  refine wd_takeT 7 rfl (by kernel_rfl) (by kernel_rfl) hS3d2 (fun _ => r_nil rfl) (ltn rfl) ?_
  refine wd_takeT 8 rfl (by kernel_rfl) (by kernel_rfl) hS3d2 (fun _ => r_fieldA 0 Tryz.underlying171 rfl rfl Tryz.sizeOf169 (by decide) rfl (by first | exact Nat.zero_add _ | rfl)) (ltn rfl) ?_
  refine wd_takeT 9 rfl (by kernel_rfl) (by kernel_rfl) hS3d2 (fun _ => r_fieldA 1 Tryz.underlying169 rfl rfl Tryz.sizeOf64 (by decide) rfl (by first | exact Nat.zero_add _ | rfl)) (ltn rfl) ?_
  refine wd_take 10 rfl (by kernel_rfl) (by kernel_rfl) hS3d2 (by decide) (fun W hW => r_load (plain_of Tryz.underlying64 rfl) rfl (cell_of_blk ((Kp.h hW)).get.2 rfl)) (ltn rfl) ?_
  refine wd_takeT 11 rfl (by kernel_rfl) (by kernel_rfl) hS3d2 (fun _ => r_lenS ((H3d2.f4).row_rd) Tryz.underlying64 rfl) (ltn rfl) ?_
  refine wd_takeT 12 rfl (by kernel_rfl) (by kernel_rfl) hS3d2 (fun _ => r_min rfl rfl) (ltn rfl) ?_
  refine wd_takeT 13 rfl (by kernel_rfl) (by kernel_rfl) hS3d2 (fun _ => r_add rfl rfl (by omega)) (ltn rfl) ?_
  refine wd_takeT 14 rfl (by kernel_rfl) (by kernel_rfl) hS3d2 (fun _ => r_assign rfl) (ltn rfl) ?_
  refine wd_done (by kernel_rfl) ?_
  refine wq_seq ?_
  refine wc_ret ?_
  refine wq_end1 (.inl rfl) Tryz.results60 rfl ?_
  have Ho4 := H3d2.f5.f5.f5.f5.f5
  have Hc5 := Holds.mk_ulistF k1_p k2_p k3_p rfl Ho4
  exact ⟨by rw [k4_p, k5_p]; congr 1; omega, Hc5⟩
theorem undo_edits_ret (H : Holds w0 w (UList p G N op • F)) : Ret Tryz.prog 114 #[.pointer (some ⟨p, 0, none⟩)] w fun v w' => v = .int .i64 (uTot G N : Nat) ∧ Holds w0 w' (UList p G N op • F) := by
  refine ret_enter Tryz.func114 rfl Tryz.ntmps114 (Nat.le_of_ble_eq_true rfl) ?_
  dsimp only [slots0, Nat.reduceAdd]
  refine wc_seq ?_
  refine wc_region ?_
  refine wl_val (r_assign rfl) (ltn rfl) ?_
  refine wl_nil ?_
  refine wq_seq ?_
  refine wc_seq ?_
  refine wc_seq ?_
  refine wc_region ?_
  refine wl_val (r_move rfl) (ltn rfl) ?_
  refine wl_eff (e_call (r_call rfl Tryz.func127 rfl rfl) (undo_none_ret H)) (ltn rfl) ?_
  rintro _ _ ⟨rfl, rfl⟩
  refine wl_nil ?_
  refine wq_seq ?_
  refine wc_cond_f rfl ?_
  refine wc_skip ?_
  refine wq_seq ?_
  refine wc_seq ?_
  obtain ⟨gv_p, nv_p, gs_p, now_p, k1_p, k2_p, k3_p, k4_p, k5_p, k6_p, HU_p⟩ := (H).ulist
  refine wc_region ?_
  refine wl_val (r_move rfl) (ltn rfl) ?_
  refine wl_val (r_nil rfl) (ltn rfl) ?_
  refine wl_val (r_fieldA 0 Tryz.underlying171 rfl rfl Tryz.sizeOf169 (by decide) rfl (by first | exact Nat.zero_add _ | rfl)) (ltn rfl) ?_
  refine wl_val (r_fieldA 3 Tryz.underlying169 rfl rfl Tryz.sizeOf3 (by decide) rfl (by first | exact Nat.zero_add _ | rfl)) (ltn rfl) ?_
  refine wl_val (r_load (plain_of Tryz.underlying3 rfl) rfl (cell_of_blk (HU_p).get.2 rfl)) (ltn rfl) ?_
  refine wl_val (r_assign rfl) (ltn rfl) ?_
  refine wl_nil ?_
  refine wq_seq ?_
  refine wc_ret ?_
  refine wq_end1 (.inl rfl) Tryz.results114 rfl ?_
  have Ho4 := HU_p.f5.f5.f5.f5.f5
  have Hc5 := Holds.mk_ulistF k1_p k2_p k3_p rfl Ho4
  exact ⟨rfl, Hc5⟩
theorem undo_begin_ret (H : Holds w0 w (UList p G N op • F)) (hb : op < 4611686018427387904) : Ret Tryz.prog 121 #[.pointer (some ⟨p, 0, none⟩)] w fun v w' => v = .int .i64 0 ∧ Holds w0 w' (UList p G N (op + 1) • F) := by
  have hop : 0 ≤ op := by obtain ⟨gv, nv, gs, now, k1, _⟩ := H.ulist; exact k1.2.2.1
  refine ret_enter Tryz.func121 rfl Tryz.ntmps121 (Nat.le_of_ble_eq_true rfl) ?_
  dsimp only [slots0, Nat.reduceAdd]
  refine wc_seq ?_
  refine wc_region ?_
  refine wl_val (r_assign rfl) (ltn rfl) ?_
  refine wl_nil ?_
  refine wq_seq ?_
  refine wc_seq ?_
  refine wc_seq ?_
  refine wc_region ?_
  refine wl_val (r_move rfl) (ltn rfl) ?_
  refine wl_eff (e_call (r_call rfl Tryz.func127 rfl rfl) (undo_none_ret H)) (ltn rfl) ?_
  rintro _ _ ⟨rfl, rfl⟩
  refine wl_nil ?_
  refine wq_seq ?_
  refine wc_cond_f rfl ?_
  refine wc_skip ?_
  refine wq_seq ?_
  refine wc_seq ?_
  obtain ⟨gv_p, nv_p, gs_p, now_p, k1_p, k2_p, k3_p, k4_p, k5_p, k6_p, HU_p⟩ := (H).ulist
  refine wc_region ?_
  refine wl_val (r_move rfl) (ltn rfl) ?_
  refine wl_val (r_nil rfl) (ltn rfl) ?_
  refine wl_val (r_fieldA 0 Tryz.underlying171 rfl rfl Tryz.sizeOf169 (by decide) rfl (by first | exact Nat.zero_add _ | rfl)) (ltn rfl) ?_
  refine wl_val (r_fieldA 2 Tryz.underlying169 rfl rfl Tryz.sizeOf3 (by decide) rfl (by first | exact Nat.zero_add _ | rfl)) (ltn rfl) ?_
  refine wl_val (r_load (plain_of Tryz.underlying3 rfl) rfl (cell_of_blk (HU_p).get.2 rfl)) (ltn rfl) ?_
  refine wl_val (r_add rfl rfl (by omega)) (ltn rfl) ?_
  refine wl_val (r_nil rfl) (ltn rfl) ?_
  refine wl_val (r_fieldA 0 Tryz.underlying171 rfl rfl Tryz.sizeOf169 (by decide) rfl (by first | exact Nat.zero_add _ | rfl)) (ltn rfl) ?_
  refine wl_val (r_fieldA 2 Tryz.underlying169 rfl rfl Tryz.sizeOf3 (by decide) rfl (by first | exact Nat.zero_add _ | rfl)) (ltn rfl) ?_
  refine wl_eff0 (e_storeL 2 (l' := [_, _, _, _, _]) HU_p Tryz.sizeOf3 rfl rfl (by first | rfl | assumption) rfl rfl) ?_
  rintro _ w3 H3
  refine wl_nil ?_
  refine wq_seq ?_
  refine wc_seq ?_
  refine wc_region ?_
  refine wl_val (r_assign rfl) (ltn rfl) ?_
  refine wl_nil ?_
  refine wq_seq ?_
  refine wc_ret ?_
  refine wq_end1 (.inl rfl) Tryz.results121 rfl ?_
  exact ⟨rfl, Holds.mk_ulistF ⟨k1_p.1, k1_p.2.1, by omega, by omega, k1_p.2.2.2.2⟩ k2_p k3_p rfl H3.f5.f5.f5.f5.f5⟩
/-- Add: its answer; the groups, what was added in open ones. -/
def addE (G : List (List EdA)) (N : List EdA) (a : Int) (dl il : List Int) : Int := if dl.length + il.length = 0 ∨ a < 0 then 1 else if 16384 ≤ uTot G N then 3 else 0
def addG (G : List (List EdA)) (N : List EdA) (op a : Int) (dl il : List Int) : List (List EdA) := if addE G N a dl il = 0 then (if 0 < op then G else G ++ [[(a, dl, il)]]) else G
def addN (G : List (List EdA)) (N : List EdA) (op a : Int) (dl il : List Int) : List EdA := if addE G N a dl il = 0 then (if 0 < op then N ++ [(a, dl, il)] else N) else N
theorem uTot_in {x : EdA} : uTot G (N ++ [x]) = uTot G N + 1 := by simp [uTot]; omega
theorem uTot_out {x : EdA} : uTot (G ++ [[x]]) N = uTot G N + 1 := by simp [uTot]; omega
theorem addG_not (h : addE G N a dl il ≠ 0) : addG G N op a dl il = G := by unfold addG; rw [if_neg h]
theorem addN_not (h : addE G N a dl il ≠ 0) : addN G N op a dl il = N := by unfold addN; rw [if_neg h]
theorem addG_in (h : addE G N a dl il = 0) (ho : 0 < op) : addG G N op a dl il = G := by unfold addG; rw [if_pos h, if_pos ho]
theorem addN_in (h : addE G N a dl il = 0) (ho : 0 < op) : addN G N op a dl il = N ++ [(a, dl, il)] := by unfold addN; rw [if_pos h, if_pos ho]
theorem addG_out (h : addE G N a dl il = 0) (ho : ¬ 0 < op) : addG G N op a dl il = G ++ [[(a, dl, il)]] := by unfold addG; rw [if_pos h, if_neg ho]
theorem addN_out (h : addE G N a dl il = 0) (ho : ¬ 0 < op) : addN G N op a dl il = N := by unfold addN; rw [if_pos h, if_neg ho]
theorem undo_add_ret (H : Holds w0 w (UList p G N op • F)) (hd : FRdI w0 F .i32 d dl) (hi : FRdI w0 F .i32 z il) (b2 : dl.length ≤ 35184372087808) (b3 : il.length ≤ 35184372087808) :
    Ret Tryz.prog 122 #[.pointer (some ⟨p, 0, none⟩), edV a d z] w fun v w' => v = .int .i64 (addE G N a dl il) ∧ Holds w0 w' (UList p (addG G N op a dl il) (addN G N op a dl il) op • F) := by
  refine ret_enter Tryz.func122 rfl Tryz.ntmps122 (Nat.le_of_ble_eq_true rfl) ?_
  dsimp only [slots0, Nat.reduceAdd]
  refine wc_seq ?_
  refine wc_region ?_
  refine wl_eff (e_boxL (l := [_, _, _]) H rfl rfl) (ltn rfl) ?_
  rintro _ w1 ⟨b1, rfl, H1⟩
  refine wl_val (r_assign rfl) (ltn rfl) ?_
  refine wl_nil ?_
  refine wq_seq ?_
  refine wc_seq ?_
  refine wc_seq ?_
  refine wc_region ?_
  refine wl_val (r_move rfl) (ltn rfl) ?_
  refine wl_eff (e_call (r_call rfl Tryz.func127 rfl rfl) (undo_none_ret H1.f2)) (ltn rfl) ?_
  rintro _ _ ⟨rfl, rfl⟩
  refine wl_nil ?_
  refine wq_seq ?_
  refine wc_cond_f rfl ?_
  refine wc_skip ?_
  refine wq_seq ?_
  refine wc_seq ?_
  refine wc_seq ?_
  refine wc_region ?_
  refine wl_val (r_fieldA 1 Tryz.underlying120 rfl rfl Tryz.sizeOf22 (by decide) rfl (by first | exact Nat.zero_add _ | rfl)) (ltn rfl) ?_
  refine wl_val (r_load (plain_of Tryz.underlying22 rfl) rfl (cell_of_blk (H1).get.2 rfl)) (ltn rfl) ?_
  refine wl_val (r_lenR (hd _ (H1.right.right)) Tryz.underlying22 rfl) (ltn rfl) ?_
  refine wl_val (r_fieldA 2 Tryz.underlying120 rfl rfl Tryz.sizeOf22 (by decide) rfl (by first | exact Nat.zero_add _ | rfl)) (ltn rfl) ?_
  refine wl_val (r_load (plain_of Tryz.underlying22 rfl) rfl (cell_of_blk (H1).get.2 rfl)) (ltn rfl) ?_
  refine wl_val (r_lenR (hi _ (H1.right.right)) Tryz.underlying22 rfl) (ltn rfl) ?_
  refine wl_val (r_add rfl rfl (by omega)) (ltn rfl) ?_
  refine wl_val (r_eql rfl rfl) (ltn rfl) ?_
  refine wl_split rfl (ltn rfl) (fun h1 => ?_) (fun h1 => ?_)
  · (try simp only [cmpS] at h1)
    refine wl_no rfl rfl rfl (ltn rfl) ?_
    refine wl_no rfl rfl rfl (ltn rfl) ?_
    refine wl_no rfl rfl rfl (ltn rfl) ?_
    refine wl_val (r_pick_t rfl rfl) (ltn rfl) ?_
    refine wl_nil ?_
    refine wq_seq ?_
    refine wc_cond_t rfl ?_
    refine wc_seq ?_
    refine wc_region ?_
    refine wl_val (r_assign rfl) (ltn rfl) ?_
    refine wl_nil ?_
    refine wq_seq ?_
    refine wc_ret ?_
    refine wq_then_ret ?_
    refine wq_end1 (.inl rfl) Tryz.results122 rfl ?_
    have e : addE G N a dl il = 1 := by unfold addE; rw [if_pos (by omega)]
    rw [addG_not (by rw [e]; decide), addN_not (by rw [e]; decide), e]
    exact ⟨rfl, H1.right⟩
  · (try simp only [cmpS] at h1)
    refine wl_yes rfl rfl ?_
    refine wl_val (r_fieldA 0 Tryz.underlying120 rfl rfl Tryz.sizeOf3 (by decide) rfl (by first | exact Nat.zero_add _ | rfl)) (ltn rfl) ?_
    refine wl_yes rfl rfl ?_
    refine wl_val (r_load (plain_of Tryz.underlying3 rfl) rfl (cell_of_blk (H1).get.2 rfl)) (ltn rfl) ?_
    refine wl_yes rfl rfl ?_
    refine wl_val (r_lss rfl rfl) (ltn rfl) ?_
    refine wl_val (r_pick_f rfl rfl) (ltn rfl) ?_
    refine wl_nil ?_
    refine wq_seq ?_
    refine wc_cond rfl (fun h2 => ?_) (fun h2 => ?_)
    · (try simp only [cmpS] at h2)
      
      refine wc_seq ?_
      refine wc_region ?_
      refine wl_val (r_assign rfl) (ltn rfl) ?_
      refine wl_nil ?_
      refine wq_seq ?_
      refine wc_ret ?_
      refine wq_then_ret ?_
      refine wq_end1 (.inl rfl) Tryz.results122 rfl ?_
      have e : addE G N a dl il = 1 := by unfold addE; rw [if_pos (by omega)]
      rw [addG_not (by rw [e]; decide), addN_not (by rw [e]; decide), e]
      exact ⟨rfl, H1.right⟩
    · (try simp only [cmpS] at h2)
      
      refine wc_skip ?_
      refine wq_seq ?_
      refine wc_seq ?_
      refine wc_seq ?_
      obtain ⟨gv_p, nv_p, gs_p, now_p, k1_p, k2_p, k3_p, k4_p, k5_p, k6_p, HU_p⟩ := (H1.f2).ulist
      refine wc_region ?_
      refine wl_val (r_move rfl) (ltn rfl) ?_
      refine wl_val (r_nil rfl) (ltn rfl) ?_
      refine wl_val (r_fieldA 0 Tryz.underlying171 rfl rfl Tryz.sizeOf169 (by decide) rfl (by first | exact Nat.zero_add _ | rfl)) (ltn rfl) ?_
      refine wl_val (r_fieldA 3 Tryz.underlying169 rfl rfl Tryz.sizeOf3 (by decide) rfl (by first | exact Nat.zero_add _ | rfl)) (ltn rfl) ?_
      refine wl_val (r_load (plain_of Tryz.underlying3 rfl) rfl (cell_of_blk (HU_p).get.2 rfl)) (ltn rfl) ?_
      refine wl_val (r_geq rfl rfl) (ltn rfl) ?_
      refine wl_nil ?_
      refine wq_seq ?_
      refine wc_cond rfl (fun h3 => ?_) (fun h3 => ?_)
      · (try simp only [cmpS] at h3)
        
        refine wc_seq ?_
        refine wc_region ?_
        refine wl_val (r_assign rfl) (ltn rfl) ?_
        refine wl_nil ?_
        refine wq_seq ?_
        refine wc_ret ?_
        refine wq_then_ret ?_
        refine wq_end1 (.inl rfl) Tryz.results122 rfl ?_
        have e : addE G N a dl il = 3 := by unfold addE; rw [if_neg (by omega), if_pos (by omega)]
        have Ho5 := HU_p.f5.f5.f5.f5.f5
        have Hc6 := Holds.mk_ulistF k1_p k2_p k3_p rfl Ho5
        rw [addG_not (by rw [e]; decide), addN_not (by rw [e]; decide), e]
        exact ⟨rfl, Hc6.f2.right⟩
      · (try simp only [cmpS] at h3)
        
        refine wc_skip ?_
        refine wq_seq ?_
        refine wc_seq ?_
        refine wc_region ?_
        refine wl_val (r_move rfl) (ltn rfl) ?_
        refine wl_val (r_nil rfl) (ltn rfl) ?_
        refine wl_val (r_fieldA 0 Tryz.underlying171 rfl rfl Tryz.sizeOf169 (by decide) rfl (by first | exact Nat.zero_add _ | rfl)) (ltn rfl) ?_
        refine wl_val (r_fieldA 3 Tryz.underlying169 rfl rfl Tryz.sizeOf3 (by decide) rfl (by first | exact Nat.zero_add _ | rfl)) (ltn rfl) ?_
        refine wl_val (r_load (plain_of Tryz.underlying3 rfl) rfl (cell_of_blk (HU_p).get.2 rfl)) (ltn rfl) ?_
        refine wl_val (r_add rfl rfl (by omega)) (ltn rfl) ?_
        refine wl_val (r_nil rfl) (ltn rfl) ?_
        refine wl_val (r_fieldA 0 Tryz.underlying171 rfl rfl Tryz.sizeOf169 (by decide) rfl (by first | exact Nat.zero_add _ | rfl)) (ltn rfl) ?_
        refine wl_val (r_fieldA 3 Tryz.underlying169 rfl rfl Tryz.sizeOf3 (by decide) rfl (by first | exact Nat.zero_add _ | rfl)) (ltn rfl) ?_
        refine wl_eff0 (e_storeL 3 (l' := [_, _, _, _, _]) HU_p Tryz.sizeOf3 rfl rfl (by first | rfl | assumption) rfl rfl) ?_
        rintro _ w7 H7
        refine wl_nil ?_
        refine wq_seq ?_
        refine wc_seq ?_
        refine wc_seq ?_
        refine wc_region ?_
        refine wl_val (r_move rfl) (ltn rfl) ?_
        refine wl_val (r_nil rfl) (ltn rfl) ?_
        refine wl_val (r_fieldA 0 Tryz.underlying171 rfl rfl Tryz.sizeOf169 (by decide) rfl (by first | exact Nat.zero_add _ | rfl)) (ltn rfl) ?_
        refine wl_val (r_fieldA 2 Tryz.underlying169 rfl rfl Tryz.sizeOf3 (by decide) rfl (by first | exact Nat.zero_add _ | rfl)) (ltn rfl) ?_
        refine wl_val (r_load (plain_of Tryz.underlying3 rfl) rfl (cell_of_blk (H7).get.2 rfl)) (ltn rfl) ?_
        refine wl_val (r_gtr rfl rfl) (ltn rfl) ?_
        refine wl_nil ?_
        refine wq_seq ?_
        refine wc_cond rfl (fun h4 => ?_) (fun h4 => ?_)
        · (try simp only [cmpS] at h4)
          
          have H9d7 := H7.drew
          have hS9d7 := Holds.kp (H9d7.f6.f6.f6.f6.f6.f6)
          refine wd_beginK [5, 6] hS9d7 (by kernel_rfl) (by kernel_rfl) rfl ?_
          refine wd_takeT 0 rfl (by kernel_rfl) (by kernel_rfl) hS9d7 (fun _ => r_move rfl) (ltn rfl) ?_
          refine wd_takeT 1 rfl (by kernel_rfl) (by kernel_rfl) hS9d7 (fun _ => r_move rfl) (ltn rfl) ?_
          refine wd_takeT 2 rfl (by kernel_rfl) (by kernel_rfl) hS9d7 (fun _ => r_nil rfl) (ltn rfl) ?_
          refine wd_takeT 3 rfl (by kernel_rfl) (by kernel_rfl) hS9d7 (fun _ => r_fieldA 0 Tryz.underlying171 rfl rfl Tryz.sizeOf169 (by decide) rfl (by first | exact Nat.zero_add _ | rfl)) (ltn rfl) ?_
          refine wd_takeT 4 rfl (by kernel_rfl) (by kernel_rfl) hS9d7 (fun _ => r_fieldA 1 Tryz.underlying169 rfl rfl Tryz.sizeOf64 (by decide) rfl (by first | exact Nat.zero_add _ | rfl)) (ltn rfl) ?_
          refine wd_take 5 rfl (by kernel_rfl) (by kernel_rfl) hS9d7 (by decide) (fun W hW => r_load (plain_of Tryz.underlying64 rfl) rfl (cell_of_blk ((Kp.h hW)).get.2 rfl)) (ltn rfl) ?_
          refine wd_take 6 rfl (by kernel_rfl) (by kernel_rfl) hS9d7 (by decide) (fun W hW => r_load_whole Tryz.underlying120 rfl Tryz.sizeOf120 rfl rfl ((Kp.h hW).f6).get.2) (ltn rfl) ?_
          refine wd_eff 7 rfl (by kernel_rfl) (e_call (r_call rfl Tryz.func170 rfl rfl) (undo_own_ret H9d7 (fun W HW => hd _ (HW.right.right.right.right.right.right)) (fun W HW => hi _ (HW.right.right.right.right.right.right)) (by omega) (by omega))) (ltn rfl) ?_
          rintro _ w8 ⟨d8, s8, rfl, H8⟩
          have hS8n := Holds.kp (H8.f8.f8.f8.f8.f8.f8.f8.f8)
          refine keepK hS8n (fun W hW => (Kp.h hW).right.right.f6.f6.f6.f6.f6.f6) ?_
          refine wd_eff 8 rfl (by kernel_rfl) (e_lit_one H8 Tryz.underlying64 Tryz.sizeOf120 Tryz.zeroValue120 rfl rfl rfl (by decide) (by decide)) (ltn rfl) ?_
          rintro l9 w9 H9
          have hS9n := Holds.kp (H9.f9.f9.f9.f9.f9.f9.f9.f9.f9)
          refine keepK hS9n (fun W hW => (Kp.h hW).right.f8.f8.f8.f8.f8.f8.f8.f8) ?_
          refine wd_eff 9 rfl (by kernel_rfl) (e_append H9.f7 Tryz.underlying64 (show (Tryz.prog.info? 120).map (fun i => (i.zero, i.size, i.bytes)) = some (some (.agg #[.int .i64 0, .slice none 0 0, .slice none 0 0]), 3, 56) by kernel_rfl) rfl rfl rfl ((H9).row_rd) (ones_cons (by first | rfl | assumption) (ones_cons (by first | rfl | exact Rd.one ((H9.f2).row_rd)) (ones_cons (by first | rfl | exact Rd.one ((H9.f3).row_rd)) ones_nil))) (by omega) (by omega)) (ltn rfl) ?_
          rintro l10 w10 H10
          have Hd11 := H10.f2.right
          have hS11n := Holds.kp (Hd11.f8.f8.f8.f8.f8.f8.f8.f8)
          refine keepX hS11n (by kernel_rfl) ?_
          refine wd_takeT 10 rfl (by kernel_rfl) (by kernel_rfl) hS11n (fun _ => r_nil rfl) (ltn rfl) ?_
          refine wd_takeT 11 rfl (by kernel_rfl) (by kernel_rfl) hS11n (fun _ => r_fieldA 0 Tryz.underlying171 rfl rfl Tryz.sizeOf169 (by decide) rfl (by first | exact Nat.zero_add _ | rfl)) (ltn rfl) ?_
          refine wd_takeT 12 rfl (by kernel_rfl) (by kernel_rfl) hS11n (fun _ => r_fieldA 1 Tryz.underlying169 rfl rfl Tryz.sizeOf64 (by decide) rfl (by first | exact Nat.zero_add _ | rfl)) (ltn rfl) ?_
          refine wd_eff0 13 rfl (by kernel_rfl) (e_storeL 1 (l' := [_, _, _, _, _]) Hd11.f4 Tryz.sizeOf64 rfl rfl (by first | rfl | exact Rd.one ((Hd11).row_rd)) rfl rfl) ?_
          rintro _ w12 H12
          have hS12n := Holds.kp (H12.f8.f8.f8.f8.f8.f8.f8.f8)
          refine keepX hS12n (by kernel_rfl) ?_
          have hadd : 0 < op := by omega
          refine wd_done (by kernel_rfl) ?_
          refine wq_seq ?_
          refine wc_seq ?_
          refine wc_region ?_
          refine wl_val (r_assign rfl) (ltn rfl) ?_
          refine wl_nil ?_
          refine wq_seq ?_
          refine wc_ret ?_
          refine wq_end1 (.inl rfl) Tryz.results122 rfl ?_
          have e : addE G N a dl il = 0 := by unfold addE; rw [if_neg (by omega), if_neg (by omega)]
          rw [addG_in e hadd, addN_in e hadd, e]
          have X := (H12.f8.right.f6.f6.f3.f7.f5.f7.f7).freezeI.swap.freezeI.swap
          have X2 := Holds.edL_snoc X.f3
          refine ⟨rfl, Holds.mk_ulist (gv := gv_p) (nv := l10) (gs := gs_p) (now := now_p ++ [⟨a, d8, dl, s8, il⟩]) (ed := (uTot G N : Nat) + 1) ⟨k1_p.1, by rw [uTot_in]; omega, k1_p.2.2.1, k1_p.2.2.2.1, k1_p.2.2.2.2.1, EB_snoc k1_p.2.2.2.2.2 ⟨b2, b3⟩⟩ k2_p (by rw [List.map_append, k3_p]; rfl) (by rw [uTot_in]; rfl) (X2.of_eq (by unfold EdLL; ac_rfl))⟩
        · (try simp only [cmpS] at h4)
          
          have H10d12 := H7.drew
          have hS10d12 := Holds.kp (H10d12.f6.f6.f6.f6.f6.f6)
          refine wd_beginK [5, 6] hS10d12 (by kernel_rfl) (by kernel_rfl) rfl ?_
          refine wd_takeT 0 rfl (by kernel_rfl) (by kernel_rfl) hS10d12 (fun _ => r_move rfl) (ltn rfl) ?_
          refine wd_takeT 1 rfl (by kernel_rfl) (by kernel_rfl) hS10d12 (fun _ => r_move rfl) (ltn rfl) ?_
          refine wd_takeT 2 rfl (by kernel_rfl) (by kernel_rfl) hS10d12 (fun _ => r_nil rfl) (ltn rfl) ?_
          refine wd_takeT 3 rfl (by kernel_rfl) (by kernel_rfl) hS10d12 (fun _ => r_fieldA 0 Tryz.underlying171 rfl rfl Tryz.sizeOf169 (by decide) rfl (by first | exact Nat.zero_add _ | rfl)) (ltn rfl) ?_
          refine wd_takeT 4 rfl (by kernel_rfl) (by kernel_rfl) hS10d12 (fun _ => r_fieldA 0 Tryz.underlying169 rfl rfl Tryz.sizeOf167 (by decide) rfl (by first | exact Nat.zero_add _ | rfl)) (ltn rfl) ?_
          refine wd_take 5 rfl (by kernel_rfl) (by kernel_rfl) hS10d12 (by decide) (fun W hW => r_load (plain_of Tryz.underlying167 rfl) rfl (cell_of_blk ((Kp.h hW)).get.2 rfl)) (ltn rfl) ?_
          refine wd_take 6 rfl (by kernel_rfl) (by kernel_rfl) hS10d12 (by decide) (fun W hW => r_load_whole Tryz.underlying120 rfl Tryz.sizeOf120 rfl rfl ((Kp.h hW).f6).get.2) (ltn rfl) ?_
          refine wd_eff 7 rfl (by kernel_rfl) (e_call (r_call rfl Tryz.func170 rfl rfl) (undo_own_ret H10d12 (fun W HW => hd _ (HW.right.right.right.right.right.right)) (fun W HW => hi _ (HW.right.right.right.right.right.right)) (by omega) (by omega))) (ltn rfl) ?_
          rintro _ w13 ⟨d13, s13, rfl, H13⟩
          have hS13n := Holds.kp (H13.f8.f8.f8.f8.f8.f8.f8.f8)
          refine keepK hS13n (fun W hW => (Kp.h hW).right.right.f6.f6.f6.f6.f6.f6) ?_
          refine wd_eff 8 rfl (by kernel_rfl) (e_lit_one H13 Tryz.underlying64 Tryz.sizeOf120 Tryz.zeroValue120 rfl rfl rfl (by decide) (by decide)) (ltn rfl) ?_
          rintro l14 w14 H14
          have hS14n := Holds.kp (H14.f9.f9.f9.f9.f9.f9.f9.f9.f9)
          refine keepK hS14n (fun W hW => (Kp.h hW).right.f8.f8.f8.f8.f8.f8.f8.f8) ?_
          refine wd_eff 9 rfl (by kernel_rfl) (e_lit_row (vs := [_]) H14 Tryz.underlying167 Tryz.sizeOf64 Tryz.zeroValue64 rfl rfl rfl (by decide) (ones_cons (by first | rfl | exact Rd.one ((H14).row_rd)) ones_nil)) (ltn rfl) ?_
          rintro l15 w15 H15
          have hS15n := Holds.kp (H15.f10.f10.f10.f10.f10.f10.f10.f10.f10.f10)
          refine keepK hS15n (fun W hW => (Kp.h hW).right.f9.f9.f9.f9.f9.f9.f9.f9.f9) ?_
          refine wd_eff 10 rfl (by kernel_rfl) (e_append H15.f6 Tryz.underlying167 (show (Tryz.prog.info? 64).map (fun i => (i.zero, i.size, i.bytes)) = some (some (.slice none 0 0), 1, 24) by kernel_rfl) rfl rfl rfl ((H15).row_rd) (ones_cons (by first | rfl | exact Rd.one ((H15.f2).row_rd)) ones_nil) (by omega) (by omega)) (ltn rfl) ?_
          rintro l16 w16 H16
          have Hd17 := H16.f2.right
          have hS17n := Holds.kp (Hd17.f9.f9.f9.f9.f9.f9.f9.f9.f9)
          refine keepX hS17n (by kernel_rfl) ?_
          refine wd_takeT 11 rfl (by kernel_rfl) (by kernel_rfl) hS17n (fun _ => r_nil rfl) (ltn rfl) ?_
          refine wd_takeT 12 rfl (by kernel_rfl) (by kernel_rfl) hS17n (fun _ => r_fieldA 0 Tryz.underlying171 rfl rfl Tryz.sizeOf169 (by decide) rfl (by first | exact Nat.zero_add _ | rfl)) (ltn rfl) ?_
          refine wd_takeT 13 rfl (by kernel_rfl) (by kernel_rfl) hS17n (fun _ => r_fieldA 0 Tryz.underlying169 rfl rfl Tryz.sizeOf167 (by decide) rfl (by first | exact Nat.zero_add _ | rfl)) (ltn rfl) ?_
          refine wd_eff0 14 rfl (by kernel_rfl) (e_storeL 0 (l' := [_, _, _, _, _]) Hd17.f5 Tryz.sizeOf167 rfl rfl (by first | rfl | exact Rd.one ((Hd17).row_rd)) rfl rfl) ?_
          rintro _ w18 H18
          have hS18n := Holds.kp (H18.f9.f9.f9.f9.f9.f9.f9.f9.f9)
          refine keepX hS18n (by kernel_rfl) ?_
          have hadd : ¬ 0 < op := by omega
          refine wd_done (by kernel_rfl) ?_
          refine wq_seq ?_
          refine wc_seq ?_
          refine wc_region ?_
          refine wl_val (r_assign rfl) (ltn rfl) ?_
          refine wl_nil ?_
          refine wq_seq ?_
          refine wc_ret ?_
          refine wq_end1 (.inl rfl) Tryz.results122 rfl ?_
          have e : addE G N a dl il = 0 := by unfold addE; rw [if_neg (by omega), if_neg (by omega)]
          rw [addG_out e hadd, addN_out e hadd, e]
          have X := (H18.f9.right.f8.f8.f3.f8.f5.f6.f8.f8).freezeI.swap.freezeI.swap
          have X2 := Holds.edL_snoc (es := []) X.edsK_nil.f3.f3.f4
          have X4 := Holds.edLL_snoc X2.edL_freeze.swap
          refine ⟨rfl, Holds.mk_ulist (gv := l16) (nv := nv_p) (gs := gs_p ++ [(l14, [⟨a, d13, dl, s13, il⟩])]) (now := now_p) (ed := (uTot G N : Nat) + 1) ⟨nn_snoc k1_p.1 (List.cons_ne_nil _ _), by rw [uTot_out]; omega, k1_p.2.2.1, k1_p.2.2.2.1, EBs_snoc k1_p.2.2.2.2.1 (by intro e he; rw [List.mem_singleton.1 he]; exact ⟨b2, b3⟩), k1_p.2.2.2.2.2⟩ (by rw [List.map_append, k2_p]; rfl) k3_p (by rw [uTot_out]; rfl) (X4.of_eq (by unfold EdL; ac_rfl))⟩
end
end Go.Proofs.YtgmpclifphbjkaaGreatDoor
end
section
/- Loops over functions: a call of yield; what an iterator does; the loop. -/
set_option linter.unusedSimpArgs false
set_option linter.unusedVariables false
namespace Go.Proofs.YtgmpclifphbjkaaGreatDoor
open Go.RowKit

/-- A call of the yield of loop l comes back, and so. -/
def YRet (P : Program) (l : Nat) (vs : List Value) (w : World) (T : Value → World → Prop) : Prop :=
  ∃ f tmps c d, (Instr.yield l vs.toArray).run P w = .ok (.round l f tmps c d) w ∧ RoundIn Fence.wide 0 P l f tmps c d w fun e w' => ∃ v, e = .returned v ∧ T v w'
theorem YRet.mono {P : Program} {l : Nat} {vs : List Value} {w : World} {T T' : Value → World → Prop} (h : YRet P l vs w T) (k : ∀ v w', T v w' → T' v w') : YRet P l vs w T' :=
  let ⟨f, tmps, c, d, h1, h2⟩ := h; ⟨f, tmps, c, d, h1, RoundIn.mono h2 fun _ _ ⟨v, e, t⟩ => ⟨v, e, k _ _ t⟩⟩
theorem YRet.bool {P : Program} {l : Nat} {vs : List Value} {w : World} {A B : World → Prop} (h : YRet P l vs w fun v W' => (v = .bool true ∧ A W') ∨ (v = .bool false ∧ B W')) : YRet P l vs w fun v W' => ∃ t, v = .bool t ∧ (t = true → A W') ∧ (t = false → B W') :=
  h.mono fun v W' hv => by
    rcases hv with ⟨rfl, h⟩ | ⟨rfl, h⟩
    · exact ⟨true, rfl, fun _ => h, fun e => by cases e⟩
    · exact ⟨false, rfl, (fun e => by cases e), fun _ => h⟩
theorem e_yield {P : Program} {L : List (Nat × Value)} {w : World} {ty : TypeId} {x : Operand} {args : List Operand} {ts : Array TypeId} {l : Nat} {vs : List Value} {T : Value → World → Prop} (hx : ev L x = some (.func (.yield l) #[] #[])) (ha : evl L args = some vs) (h : YRet P l vs w T) :
    Eff P L (.call ⟨.value x, args.toArray, ts⟩) ty w T := by
  obtain ⟨f, tmps, c, d, hy, hr⟩ := h
  refine e_round (fun ρ hρ dd pos aft g => ?_) hr
  have hg := hρ _ _ hx
  simp [execOp, resolve, invoke, evs hρ _ _ ha, hg, Deferred.ofValue, hy]

/-- What an iterator does, called with a yield: at most n times, its k-th call hands over values and memory as E says; it stops where the yield says no. -/
def Iter (P : Program) (w0 : World) (fv : Value) (R : HP) (n : Nat) (E : Nat → List Value → HP → Prop) : Prop :=
  ∀ (l : Nat) (J : Nat → HP) (X : HP) (w : World),
    (∀ k, k < n → ∀ vs A, E k vs A → ∀ G W, Holds w0 W (A • J k • G) → YRet P l vs W fun v W' => (v = .bool true ∧ Holds w0 W' (J (k + 1) • G)) ∨ (v = .bool false ∧ Holds w0 W' (X • G))) →
    Holds w0 w (J 0 • R) → FnRet P fv [.func (.yield l) #[] #[]] w fun _ W' => Holds w0 W' (J n • R) ∨ Holds w0 W' (X • R)

/-- What a round leaves. -/
def RPost (w0 : World) (I : HP) (Xr : HP) (Xe : Nat → HP) (G : HP) : Exit → Act → World → Prop
  | .normal, _, W => Holds w0 W (I • G)
  | .ret, _, W => Holds w0 W (Xr • G)
  | .exit id, _, W => Holds w0 W (Xe id • G)
  | _, _, _ => False
/-- What the assignment to a round's variables leaves, and that the round's body goes on from there. -/
def MidPost (P : Program) (N : Sh) (w0 : World) (body : Code) (I : HP) (Xr : HP) (Xe : Nat → HP) (G : HP) (a : Act) (W : World) : Prop :=
  ∃ (L : List (Nat × Value)) (B : HP), Fits N L a ∧ Holds w0 W (B • G) ∧ ∀ G' W', Holds w0 W' (B • G') → WC P N body (RPost w0 I Xr Xe G') L W'
def noPost : Exit → Act → World → Prop := fun _ _ _ => False
theorem wq_mid {P : Program} {N : Sh} {w0 w : World} {body : Code} {I Xr : HP} {Xe : Nat → HP} {G B : HP} {L : List (Nat × Value)} (H : Holds w0 w (B • G)) (h : ∀ G' W', Holds w0 W' (B • G') → WC P N body (RPost w0 I Xr Xe G') L W') :
    WQ N (Exit.then (MidPost P N w0 body I Xr Xe G) noPost) .normal L w := fun _ a ha => ⟨L, B, ha, H, h⟩
theorem wq_rnormal {N : Sh} {w0 w : World} {I Xr : HP} {Xe : Nat → HP} {G : HP} {L : List (Nat × Value)} (H : Holds w0 w (I • G)) : WQ N (RPost w0 I Xr Xe G) .normal L w := fun _ _ _ => H
theorem wq_rexit {N : Sh} {w0 w : World} {I Xr : HP} {Xe : Nat → HP} {G : HP} {id : Nat} {L : List (Nat × Value)} (H : Holds w0 w (Xe id • G)) : WQ N (RPost w0 I Xr Xe G) (.exit id) L w := fun _ _ _ => H
theorem np_rpost {w0 : World} {I Xr : HP} {Xe : Nat → HP} {G : HP} : NP (RPost w0 I Xr Xe G) := fun _ _ _ h => h

/-- The slots of a round: the parameters ahead of the frame's. -/
def zipL : List Nat → List Value → List (Nat × Value) → List (Nat × Value)
  | [], _, L => L
  | _ :: _, [], L => L
  | p :: ps, v :: vs, L => zipL ps vs ((p, v) :: L)
theorem fits_zip {n l : Nat} : ∀ (ps : List Nat) (vs : List Value) (L : List (Nat × Value)) (tmps : Array Value), (∀ p ∈ ps, p < n) → Fits ⟨n, [], some l⟩ L { tmps := tmps, defers := [] } →
    Fits ⟨n, [], some l⟩ (zipL ps vs L) { tmps := (ps.zip vs).foldl (fun t (p : Nat × Value) => t.setIfInBounds p.1 p.2) tmps, defers := [] }
  | [], _, _, _, _, h => h
  | _ :: _, [], _, _, _, h => h
  | p :: ps, v :: vs, L, tmps, hp, h => fits_zip ps vs _ _ (fun q hq => hp q (by simp [hq])) (h.put (hp p (by simp)) v)

section
variable {P : Program} {N : Sh} {Q : Exit → Act → World → Prop} {L : List (Nat × Value)} {w0 w : World}
/-- A loop over a function. -/
theorem wc_rangeFunc {g : Operand} {ps : List Nat} {assign body : Code} {fv : Value} {R : HP} {n : Nat} {E : Nat → List Value → HP → Prop} (hg : ev L g = some fv) (hit : Iter P w0 fv R n E) (I : Nat → HP) (Xr : HP) (Xe : Nat → HP) (H : Holds w0 w (I 0 • R))
    (hps : ps.all (· < N.n) = true)
    (hbody : ∀ l k, k < n → ∀ vs A, E k vs A → ∀ G W, Holds w0 W (A • I k • G) → vs.length = ps.length ∧ WC P ⟨N.n, [], some l⟩ assign (Exit.then (MidPost P ⟨N.n, [], some l⟩ w0 body (I (k + 1)) Xr Xe G) noPost) (zipL ps vs L) W)
    (hdone : ∀ D W, Holds w0 W (blk D (.deferred (some [])) • I n • R) → WQ ⟨N.n, D :: N.ds, none⟩ Q .normal L W)
    (hret : ∀ D W, Holds w0 W (blk D (.deferred (some [])) • Xr • R) → WQ ⟨N.n, D :: N.ds, none⟩ Q .ret L W)
    (hexit : ∀ id D W, Holds w0 W (blk D (.deferred (some [])) • Xe id • R) → WQ ⟨N.n, D :: N.ds, none⟩ Q (.exit id) L W)
    (hro : N.ro = none := by rfl) : WC P N (.rangeFunc g ps.toArray assign body) Q L w := fun np a ha => by
  rw [hro]
  refine wpIn_rangeFunc fun fn _ => ?_
  let rec0 : LoopState → Option Code → Loop := fun s j => { state := s, pending := j, fn, tmps := a.tmps, params := ps.toArray, assign, body, defers := w.heap.size }
  have hlay := run_enterLoop_outer (P := P) (w := w) fn a.tmps ps.toArray assign body
  have H1 : Holds w0 ((w.alloc (.deferred (some []))).alloc (.loop (rec0 .ready none))) (blk (w.heap.size + 1) (.loop (rec0 .ready none)) • blk w.heap.size (.deferred (some [])) • I 0 • R) := by
    have := (H.alloc (.deferred (some []))).alloc (.loop (rec0 .ready none))
    rw [World.size_alloc] at this
    exact this
  let Lk : LoopState → Option Code → HP := fun s j => blk (w.heap.size + 1) (.loop (rec0 s j)) • blk w.heap.size (.deferred (some []))
  have hround : ∀ k, k < n → ∀ vs A, E k vs A → ∀ G W, Holds w0 W (A • (Lk .ready none • I k) • G) → YRet P (w.heap.size + 1) vs W fun v W' => (v = .bool true ∧ Holds w0 W' ((Lk .ready none • I (k + 1)) • G)) ∨
      (v = .bool false ∧ Holds w0 W' (exHP (fun c : Code => Lk .done (some c) • (match c with | .ret => Xr | .exit id => Xe id | _ => fact False)) • G)) := by
    intro k hk vs A hE G W HW
    -- the record in front
    have e1 : (A • (Lk .ready none • I k) • G) = (blk (w.heap.size + 1) (.loop (rec0 .ready none)) • A • I k • blk w.heap.size (.deferred (some [])) • G) := by
      show (A • ((blk (w.heap.size + 1) (.loop (rec0 .ready none)) • blk w.heap.size (.deferred (some []))) • I k) • G) = _
      ac_rfl
    have HW1 := HW.of_eq e1
    have hl := HW1.get.2
    have hlen := (hbody (w.heap.size + 1) k hk vs A hE _ W (HW1.of_eq (show _ = (A • I k • blk (w.heap.size + 1) (.loop (rec0 .ready none)) • blk w.heap.size (.deferred (some [])) • G) by ac_rfl))).1
    refine ⟨fn, _, assign, body, run_yield hl (by rw [List.size_toArray, hlen]; exact List.size_toArray.symm), ?_⟩
    have hfit : Fits ⟨N.n, [], some (w.heap.size + 1)⟩ (zipL ps vs L) { tmps := (ps.toArray.zip vs.toArray).foldl (fun tmps (t, a) => tmps.setIfInBounds t a) a.tmps, defers := [] } := by
      have := fits_zip (n := N.n) (l := w.heap.size + 1) ps vs L a.tmps (fun p hp => by simpa using List.all_eq_true.1 hps p hp) ⟨ha.size, rfl, ha.at_⟩
      simpa using this
    refine roundIn_of_wpIn trivial ?_
    have HW2 : Holds w0 W (A • I k • blk (w.heap.size + 1) (.loop (rec0 .ready none)) • blk w.heap.size (.deferred (some [])) • G) := HW1.of_eq (by ac_rfl)
    have hb := (hbody (w.heap.size + 1) k hk vs A hE _ W HW2).2 (fun c a w h => h) _ hfit
    refine wpIn_mono hb ?_
    rintro e a1 W1 hq
    cases e with
    | exit id => exact hq.elim
    | goto l => exact hq.elim
    | ret => exact hq.elim
    | panic c => exact hq.elim
    | outgrown => exact hq.elim
    | normal =>
      obtain ⟨L1, B, hf1, HB, hgo⟩ := hq
      have HB1 : Holds w0 W1 (blk (w.heap.size + 1) (.loop (rec0 .ready none)) • B • blk w.heap.size (.deferred (some [])) • G) := HB.of_eq (by ac_rfl)
      have hl1 := HB1.get.2
      refine ⟨_, run_beginRound hl1 rfl, ?_⟩
      have HB2 : Holds w0 (W1.putObj (w.heap.size + 1) (.loop (rec0 .busy none))) (blk (w.heap.size + 1) (.loop (rec0 .busy none)) • B • blk w.heap.size (.deferred (some [])) • G) := HB1.turn rfl rfl rfl (by simp) (World.putObj_heap_same HB1.lt) fun k hk _ => World.putObj_heap_other hk
      have hbd := hgo (blk (w.heap.size + 1) (.loop (rec0 .busy none)) • blk w.heap.size (.deferred (some [])) • G) _ (HB2.of_eq (by ac_rfl)) np_rpost a1 hf1
      refine wpIn_mono hbd ?_
      have fin : ∀ (j : Option Code) (W3 : World) (A3 : HP), Holds w0 W3 (A3 • blk (w.heap.size + 1) (.loop (rec0 .busy none)) • blk w.heap.size (.deferred (some [])) • G) →
          (Instr.endRound (w.heap.size + 1) j).run P W3 = .ok (.bool j.isNone) (W3.putObj (w.heap.size + 1) (.loop (rec0 (if j.isNone then .ready else .done) j))) ∧
          Holds w0 (W3.putObj (w.heap.size + 1) (.loop (rec0 (if j.isNone then .ready else .done) j))) ((Lk (if j.isNone then .ready else .done) j • A3) • G) := by
        intro j W3 A3 H3
        have H4 := H3.swap
        refine ⟨run_endRound j H4.get.2, ?_⟩
        have H5 : Holds w0 (W3.putObj (w.heap.size + 1) (.loop (rec0 (if j.isNone then .ready else .done) j))) (blk (w.heap.size + 1) (.loop (rec0 (if j.isNone then .ready else .done) j)) • A3 • blk w.heap.size (.deferred (some [])) • G) := H4.turn rfl rfl rfl (by simp) (World.putObj_heap_same H4.lt) fun k hk _ => World.putObj_heap_other hk
        refine H5.of_eq ?_
        show _ = (((blk (w.heap.size + 1) (.loop (rec0 (if j.isNone then .ready else .done) j)) • blk w.heap.size (.deferred (some []))) • A3) • G)
        ac_rfl
      rintro e a3 W3 hp
      cases e with
      | normal => obtain ⟨h1, h2⟩ := fin none W3 _ hp; exact ⟨_, _, h1, _, rfl, .inl ⟨rfl, h2⟩⟩
      | ret => obtain ⟨h1, h2⟩ := fin (some .ret) W3 _ hp; exact ⟨_, _, h1, _, rfl, .inr ⟨rfl, Holds.mk_ex_sep .ret h2⟩⟩
      | exit id => obtain ⟨h1, h2⟩ := fin (some (.exit id)) W3 _ hp; exact ⟨_, _, h1, _, rfl, .inr ⟨rfl, Holds.mk_ex_sep (.exit id) h2⟩⟩
      | goto l => exact hp.elim
      | panic c => exact hp.elim
      | outgrown => exact hp.elim
  have hcall := hit (w.heap.size + 1) (fun k => Lk .ready none • I k) _ _ hround (H1.of_eq (by
    show _ = (((blk (w.heap.size + 1) (.loop (rec0 .ready none)) • blk w.heap.size (.deferred (some []))) • I 0) • R)
    ac_rfl))
  obtain ⟨f, first, cap, fn', c, rfl, hf, hn, hb, hret'⟩ := hcall
  refine ⟨w.heap.size + 1, _, _, { target := .fn (.func f) cap.toArray, args := (first ++ [Value.func (.yield (w.heap.size + 1)) #[] #[]]).toArray }, (w.alloc (.deferred (some []))).alloc (.loop (rec0 .ready none)), f, _, (w.alloc (.deferred (some []))).alloc (.loop (rec0 .ready none)), hlay, ?_, fun _ _ => trivial, ?_, (fun h => by cases h), fz_calls.2 (Calls.mono hret' ?_)⟩
  · have he := ha.ev hg
    have he2 : a.eval (.const (.func (.yield (w.heap.size + 1)) #[] #[])) = .func (.yield (w.heap.size + 1)) #[] #[] := rfl
    simp [resolve, rangeCall, he, he2, Deferred.ofValue, rec0]
  · simp [invoke, callFunc, hf, hb]
    simpa using hn
  · rintro e W2 ⟨v, rfl, hv⟩
    have fin : ∀ (s : LoopState) (j : Option Code) (A : HP), s ≠ .busy → Holds w0 W2 ((Lk s j • A) • R) → (Instr.endLoop (w.heap.size + 1)).run P W2 = .ok j (W2.putObj (w.heap.size + 1) (.loop (rec0 .exhausted j))) ∧
        Holds w0 (W2.putObj (w.heap.size + 1) (.loop (rec0 .exhausted j))) (blk w.heap.size (.deferred (some [])) • A • R) := by
      intro s j A hs H3
      have H4 : Holds w0 W2 (blk (w.heap.size + 1) (.loop (rec0 s j)) • blk w.heap.size (.deferred (some [])) • A • R) := H3.of_eq (by
        show (((blk (w.heap.size + 1) (.loop (rec0 s j)) • blk w.heap.size (.deferred (some []))) • A) • R) = _
        ac_rfl)
      refine ⟨run_endLoop H4.get.2 hs, ?_⟩
      have H5 : Holds w0 (W2.putObj (w.heap.size + 1) (.loop (rec0 .exhausted j))) (blk (w.heap.size + 1) (.loop (rec0 .exhausted j)) • blk w.heap.size (.deferred (some [])) • A • R) := H4.turn rfl rfl rfl (by simp) (World.putObj_heap_same H4.lt) fun k hk _ => World.putObj_heap_other hk
      exact H5.right
    have hfit : Fits ⟨N.n, w.heap.size :: N.ds, none⟩ L { a with defers := [{ target := .collected w.heap.size, args := #[] }] ++ a.defers } := ⟨ha.size, by simp [ha.defers, markD], ha.at_⟩
    rcases hv with hv | hv
    · obtain ⟨h1, h2⟩ := fin _ _ _ (by decide) hv
      exact ⟨none, _, h1, hdone _ _ h2 np _ hfit⟩
    · obtain ⟨c, hv⟩ := hv.ex_sep
      obtain ⟨h1, h2⟩ := fin _ _ _ (by decide) hv
      cases c with
      | ret => exact ⟨some .ret, _, h1, wpIn_ret (hret _ _ h2 np _ hfit)⟩
      | exit id => exact ⟨some (.exit id), _, h1, wpIn_exit (hexit id _ _ h2 np _ hfit)⟩
      | _ => exact absurd h2.swap.fact.1 id
end
end Go.Proofs.YtgmpclifphbjkaaGreatDoor
end
