/- The document's list of edits: what stands in memory; its simple methods. -/
import Derived.Test.YtaabgcfeghcmnaaUList7
set_option linter.unusedSimpArgs false
set_option linter.unusedVariables false
namespace Go.Proofs.Ytaabgcfeghcmnaa
open Go.RowKit
def RList (p : Nat) (G : List (List EdA)) (N : List EdA) (op : Int) : HP := exHP fun (x : Value × Value × List (Value × List BEd) × List BEd) =>
  fact (UOk G N op ∧ x.2.2.1.map (fun g => g.2.map BEd.says) = G ∧ x.2.2.2.map BEd.says = N) • blk p (.cells #[x.1, .int .i64 op, x.2.1] 45 (0, 0)) • EdLL x.1 x.2.2.1 • EdL x.2.1 x.2.2.2
section
variable {w0 w : World} {F : HP} {p : Nat} {G : List (List EdA)} {N : List EdA} {op : Int} {gv nv : Value} {gs : List (Value × List BEd)} {now : List BEd}
theorem Holds.rlist (H : Holds w0 w (RList p G N op • F)) : ∃ gv nv gs now, UOk G N op ∧ gs.map (fun g => g.2.map BEd.says) = G ∧ now.map BEd.says = N ∧ gs.length = G.length ∧ now.length = N.length ∧ G.length + N.length ≤ 16384 ∧
    Holds w0 w (blk p (.cells #[gv, .int .i64 op, nv] 45 (0, 0)) • Row 39 1 gv gs.length (gs.map (·.1)) • elsK gs • Row 24 3 nv now.length (now.flatMap BEd.enc) • edsK now • F) := by
  obtain ⟨⟨gv, nv, gs, now⟩, H⟩ := H.ex_sep
  obtain ⟨⟨h1, h2, h3⟩, H⟩ := H.flat.fact
  refine ⟨gv, nv, gs, now, h1, h2, h3, ?_, ?_, h1.len, ?_⟩
  · rw [← h2]; simp
  · rw [← h3]; simp
  · have := H.flat
    unfold EdLL EdL at this
    exact this.of_eq (by ac_rfl)
theorem Holds.mk_rlist (h1 : UOk G N op) (h2 : gs.map (fun g => g.2.map BEd.says) = G) (h3 : now.map BEd.says = N)
    (H : Holds w0 w (blk p (.cells #[gv, .int .i64 op, nv] 45 (0, 0)) • EdLL gv gs • EdL nv now • F)) : Holds w0 w (RList p G N op • F) :=
  Holds.mk_ex_sep (gv, nv, gs, now) (Holds.deep (Holds.mk_fact ⟨h1, h2, h3⟩ (H.of_eq (by ac_rfl))))
theorem Holds.mk_rlistF (h1 : UOk G N op) (h2 : gs.map (fun g => g.2.map BEd.says) = G) (h3 : now.map BEd.says = N)
    (H : Holds w0 w (blk p (.cells #[gv, .int .i64 op, nv] 45 (0, 0)) • Row 39 1 gv gs.length (gs.map (·.1)) • elsK gs • Row 24 3 nv now.length (now.flatMap BEd.enc) • edsK now • F)) : Holds w0 w (RList p G N op • F) :=
  Holds.mk_rlist h1 h2 h3 (H.of_eq (by unfold EdLL EdL; ac_rfl))
theorem rl_open_ret (H : Holds w0 w (RList p G N op • F)) : Ret Try.prog 44 #[.pointer (some ⟨p, 0, none⟩)] w fun v w' => v = .int .i64 op ∧ Holds w0 w' (RList p G N op • F) := by
  refine ret_enter Try.func44 rfl Try.ntmps44 (Nat.le_of_ble_eq_true rfl) ?_
  dsimp only [slots0, Nat.reduceAdd]
  refine wc_seq ?_
  refine wc_region ?_
  refine wl_val (r_assign rfl) (ltn rfl) ?_
  refine wl_nil ?_
  refine wq_seq ?_
  refine wc_seq ?_
  obtain ⟨gw_p, nw_p, gs_p, now_p, k1_p, k2_p, k3_p, k4_p, k5_p, k6_p, HU_p⟩ := (H).rlist
  refine wc_region ?_
  refine wl_val (r_move rfl) (ltn rfl) ?_
  refine wl_val (r_nil rfl) (ltn rfl) ?_
  refine wl_val ((by first | exact r_field0 1 Try.underlying45 rfl rfl Try.sizeOf3 (by decide) rfl | exact r_field 1 Try.underlying45 rfl rfl Try.sizeOf3 (by decide) rfl)) (ltn rfl) ?_
  refine wl_val (r_load (plain_of Try.underlying3 rfl) rfl (cell_of_blk (HU_p).get.2 rfl)) (ltn rfl) ?_
  refine wl_val (r_assign rfl) (ltn rfl) ?_
  refine wl_nil ?_
  refine wq_seq ?_
  refine wc_ret ?_
  refine wq_end1 (.inl rfl) Try.results44 rfl ?_
  have Ho3 := HU_p.f5.f5.f5.f5.f5
  have Hc4 := Holds.mk_rlistF k1_p k2_p k3_p Ho3
  exact ⟨rfl, Hc4⟩
theorem rl_begin_ret (H : Holds w0 w (RList p G N op • F)) (hb : op < 4611686018427387904) : Ret Try.prog 34 #[.pointer (some ⟨p, 0, none⟩)] w fun v w' => v = .int .i64 0 ∧ Holds w0 w' (RList p G N (op + 1) • F) := by
  refine ret_enter Try.func34 rfl Try.ntmps34 (Nat.le_of_ble_eq_true rfl) ?_
  dsimp only [slots0, Nat.reduceAdd]
  refine wc_seq ?_
  refine wc_region ?_
  refine wl_val (r_assign rfl) (ltn rfl) ?_
  refine wl_nil ?_
  refine wq_seq ?_
  refine wc_seq ?_
  obtain ⟨gw_p, nw_p, gs_p, now_p, k1_p, k2_p, k3_p, k4_p, k5_p, k6_p, HU_p⟩ := (H).rlist
  have hop := k1_p.2.2.1
  refine wc_region ?_
  refine wl_val (r_move rfl) (ltn rfl) ?_
  refine wl_val (r_nil rfl) (ltn rfl) ?_
  refine wl_val ((by first | exact r_field0 1 Try.underlying45 rfl rfl Try.sizeOf3 (by decide) rfl | exact r_field 1 Try.underlying45 rfl rfl Try.sizeOf3 (by decide) rfl)) (ltn rfl) ?_
  refine wl_val (r_load (plain_of Try.underlying3 rfl) rfl (cell_of_blk (HU_p).get.2 rfl)) (ltn rfl) ?_
  refine wl_val (r_add rfl rfl (by omega)) (ltn rfl) ?_
  refine wl_val (r_nil rfl) (ltn rfl) ?_
  refine wl_val ((by first | exact r_field0 1 Try.underlying45 rfl rfl Try.sizeOf3 (by decide) rfl | exact r_field 1 Try.underlying45 rfl rfl Try.sizeOf3 (by decide) rfl)) (ltn rfl) ?_
  refine wl_eff0 (e_storeL 1 (l' := [_, _, _]) HU_p Try.sizeOf3 rfl rfl (by first | rfl | assumption) rfl rfl) ?_
  rintro _ w2 H2
  refine wl_nil ?_
  refine wq_seq ?_
  refine wc_seq ?_
  refine wc_region ?_
  refine wl_val (r_assign rfl) (ltn rfl) ?_
  refine wl_nil ?_
  refine wq_seq ?_
  refine wc_ret ?_
  refine wq_end1 (.inl rfl) Try.results34 rfl ?_
  exact ⟨rfl, Holds.mk_rlistF ⟨k1_p.1, k1_p.2.1, by omega, by omega, k1_p.2.2.2.2⟩ k2_p k3_p H2.f5.f5.f5.f5.f5⟩
theorem rl_close_ret (H : Holds w0 w (RList p G N op • F)) : Ret Try.prog 57 #[.pointer (some ⟨p, 0, none⟩)] w fun _ w' => Holds w0 w' (RList p (closeG G N) [] 0 • F) := by
  refine ret_enter Try.func57 rfl Try.ntmps57 (Nat.le_of_ble_eq_true rfl) ?_
  dsimp only [slots0, Nat.reduceAdd]
  refine wc_seq ?_
  obtain ⟨gw_p, nw_p, gs_p, now_p, k1_p, k2_p, k3_p, k4_p, k5_p, k6_p, HU_p⟩ := (H).rlist
  refine wc_region ?_
  refine wl_val (r_move rfl) (ltn rfl) ?_
  refine wl_val (r_nil rfl) (ltn rfl) ?_
  refine wl_val ((by first | exact r_field0 1 Try.underlying45 rfl rfl Try.sizeOf3 (by decide) rfl | exact r_field 1 Try.underlying45 rfl rfl Try.sizeOf3 (by decide) rfl)) (ltn rfl) ?_
  refine wl_eff0 (e_storeL 1 (l' := [_, _, _]) HU_p Try.sizeOf3 rfl rfl (by first | rfl | assumption) rfl rfl) ?_
  rintro _ w2 H2
  refine wl_nil ?_
  refine wq_seq ?_
  refine wc_seq ?_
  refine wc_seq ?_
  refine wc_region ?_
  refine wl_val (r_move rfl) (ltn rfl) ?_
  refine wl_val (r_nil rfl) (ltn rfl) ?_
  refine wl_val ((by first | exact r_field0 2 Try.underlying45 rfl rfl Try.sizeOf39 (by decide) rfl | exact r_field 2 Try.underlying45 rfl rfl Try.sizeOf39 (by decide) rfl)) (ltn rfl) ?_
  refine wl_val (r_load (plain_of Try.underlying39 rfl) rfl (cell_of_blk (H2).get.2 rfl)) (ltn rfl) ?_
  refine wl_val (r_lenS ((H2.f4).row_rd) Try.underlying39 rfl) (ltn rfl) ?_
  refine wl_val (r_gtr rfl rfl) (ltn rfl) ?_
  refine wl_nil ?_
  refine wq_seq ?_
  refine wc_cond rfl (fun h1 => ?_) (fun h1 => ?_)
  · (try simp only [beq_iff_eq, bne_iff_ne, ne_eq, decide_eq_true_eq, decide_eq_false_iff_not, beq_eq_false_iff_ne, bne_eq_false_iff_eq, Bool.not_eq_true', Bool.not_eq_false', Bool.not_eq_eq_eq_not, Bool.not_true, Bool.not_false, gt_iff_lt, ge_iff_le, Int.not_lt, Int.not_le] at h1)
    have hnow : 0 < now_p.length := by omega
    have H2d2 := H2.drew
    have hS2d2 := Holds.kp (H2d2.f5.f5.f5.f5.f5)
    refine wd_beginK [4, 8] hS2d2 (by kernel_rfl) (by kernel_rfl) rfl ?_
    refine wd_takeT 0 rfl (by kernel_rfl) (by kernel_rfl) hS2d2 (fun _ => r_move rfl) (ltn rfl) ?_
    refine wd_takeT 1 rfl (by kernel_rfl) (by kernel_rfl) hS2d2 (fun _ => r_move rfl) (ltn rfl) ?_
    refine wd_takeT 2 rfl (by kernel_rfl) (by kernel_rfl) hS2d2 (fun _ => r_nil rfl) (ltn rfl) ?_
    refine wd_takeT 3 rfl (by kernel_rfl) (by kernel_rfl) hS2d2 (fun _ => (by first | exact r_field0 0 Try.underlying45 rfl rfl Try.sizeOf43 (by decide) rfl | exact r_field 0 Try.underlying45 rfl rfl Try.sizeOf43 (by decide) rfl)) (ltn rfl) ?_
    refine wd_take 4 rfl (by kernel_rfl) (by kernel_rfl) hS2d2 (by decide) (fun W hW => r_load (plain_of Try.underlying43 rfl) rfl (cell_of_blk ((Kp.h hW)).get.2 rfl)) (ltn rfl) ?_
    refine wd_takeT 5 rfl (by kernel_rfl) (by kernel_rfl) hS2d2 (fun _ => r_move rfl) (ltn rfl) ?_
    refine wd_takeT 6 rfl (by kernel_rfl) (by kernel_rfl) hS2d2 (fun _ => r_nil rfl) (ltn rfl) ?_
    refine wd_takeT 7 rfl (by kernel_rfl) (by kernel_rfl) hS2d2 (fun _ => (by first | exact r_field0 2 Try.underlying45 rfl rfl Try.sizeOf39 (by decide) rfl | exact r_field 2 Try.underlying45 rfl rfl Try.sizeOf39 (by decide) rfl)) (ltn rfl) ?_
    refine wd_take 8 rfl (by kernel_rfl) (by kernel_rfl) hS2d2 (by decide) (fun W hW => r_load (plain_of Try.underlying39 rfl) rfl (cell_of_blk ((Kp.h hW)).get.2 rfl)) (ltn rfl) ?_
    refine wd_eff 9 rfl (by kernel_rfl) (e_lit_row (vs := [_]) H2d2 Try.underlying43 Try.sizeOf39 Try.zeroValue39 rfl rfl rfl (by decide) (ones_cons (by first | rfl | exact Rd.one ((H2d2.f4).row_rd)) ones_nil)) (ltn rfl) ?_
    rintro l3 w3 H3
    have hS3n := Holds.kp (H3.f6.f6.f6.f6.f6.f6)
    refine keepK hS3n (fun W hW => (Kp.h hW).right.f5.f5.f5.f5.f5) ?_
    refine wd_eff 10 rfl (by kernel_rfl) (e_append H3.f3 Try.underlying43 (show (Try.prog.info? 39).map (fun i => (i.zero, i.size, i.bytes)) = some (some (.slice none 0 0), 1, 24) by kernel_rfl) rfl rfl rfl ((H3).row_rd) (ones_cons (by first | rfl | exact Rd.one ((H3.f5).row_rd)) ones_nil) (by omega) (by omega)) (ltn rfl) ?_
    rintro l4 w4 H4
    have Hd5 := H4.f2.right
    have hS5n := Holds.kp (Hd5.f5.f5.f5.f5.f5)
    refine keepX hS5n (by kernel_rfl) ?_
    refine wd_takeT 11 rfl (by kernel_rfl) (by kernel_rfl) hS5n (fun _ => r_nil rfl) (ltn rfl) ?_
    refine wd_takeT 12 rfl (by kernel_rfl) (by kernel_rfl) hS5n (fun _ => (by first | exact r_field0 0 Try.underlying45 rfl rfl Try.sizeOf43 (by decide) rfl | exact r_field 0 Try.underlying45 rfl rfl Try.sizeOf43 (by decide) rfl)) (ltn rfl) ?_
    refine wd_eff0 13 rfl (by kernel_rfl) (e_storeL 0 (l' := [_, _, _]) Hd5.f2 Try.sizeOf43 rfl rfl (by first | rfl | exact Rd.one ((Hd5).row_rd)) rfl rfl) ?_
    rintro _ w6 H6
    have hS6n := Holds.kp (H6.f5.f5.f5.f5.f5)
    refine keepX hS6n (by kernel_rfl) ?_
    refine wd_done (by kernel_rfl) ?_
    refine wq_seq ?_
    refine wc_region ?_
    refine wl_val (r_move rfl) (ltn rfl) ?_
    refine wl_val (r_nil rfl) (ltn rfl) ?_
    refine wl_val ((by first | exact r_field0 2 Try.underlying45 rfl rfl Try.sizeOf39 (by decide) rfl | exact r_field 2 Try.underlying45 rfl rfl Try.sizeOf39 (by decide) rfl)) (ltn rfl) ?_
    refine wl_eff0 (e_storeL 2 (l' := [_, _, _]) H6 Try.sizeOf39 rfl rfl (by first | rfl | assumption) rfl rfl) ?_
    rintro _ w7 H7
    refine wl_nil ?_
    refine wq_end0 (.inr rfl) Try.results57 ?_
    have hN : N ≠ [] := by rintro rfl; exact absurd k5_p (by simp only [List.length_nil]; omega)
    have hu := uTot_close (G := G) (N := N)
    rw [closeG_snoc hN] at hu ⊢
    have X := Holds.edL_freeze (v := nw_p) (es := now_p) (H7.f3.f3.f5.f5).deep
    have X4 := Holds.edLL_snoc X.swap
    refine Holds.mk_rlist (gv := l4) (nv := .slice none 0 0) (gs := gs_p ++ [(nw_p, now_p)]) (now := []) ⟨nn_snoc k1_p.1 hN, by rw [hu]; exact k1_p.2.1, by decide, by decide, EBs_snoc k1_p.2.2.2.2.1 k1_p.2.2.2.2.2, by simp⟩ (by rw [List.map_append, k2_p, ← k3_p]; rfl) rfl ((X4.edL_nil none).of_eq (by ac_rfl))
  · (try simp only [beq_iff_eq, bne_iff_ne, ne_eq, decide_eq_true_eq, decide_eq_false_iff_not, beq_eq_false_iff_ne, bne_eq_false_iff_eq, Bool.not_eq_true', Bool.not_eq_false', Bool.not_eq_eq_eq_not, Bool.not_true, Bool.not_false, gt_iff_lt, ge_iff_le, Int.not_lt, Int.not_le] at h1)
    have hnow : now_p.length = 0 := by omega
    refine wc_skip ?_
    refine wq_seq ?_
    refine wc_region ?_
    refine wl_val (r_move rfl) (ltn rfl) ?_
    refine wl_val (r_nil rfl) (ltn rfl) ?_
    refine wl_val ((by first | exact r_field0 2 Try.underlying45 rfl rfl Try.sizeOf39 (by decide) rfl | exact r_field 2 Try.underlying45 rfl rfl Try.sizeOf39 (by decide) rfl)) (ltn rfl) ?_
    refine wl_eff0 (e_storeL 2 (l' := [_, _, _]) H2 Try.sizeOf39 rfl rfl (by first | rfl | assumption) rfl rfl) ?_
    rintro _ w8 H8
    refine wl_nil ?_
    refine wq_end0 (.inr rfl) Try.results57 ?_
    have hN : N = [] := by rw [← k3_p, List.eq_nil_of_length_eq_zero hnow]; rfl
    subst hN
    rw [closeG_nil rfl]
    refine Holds.mk_rlist (gv := gw_p) (nv := .slice none 0 0) (gs := gs_p) (now := []) ⟨k1_p.1, k1_p.2.1, by decide, by decide, k1_p.2.2.2.2⟩ k2_p rfl (((H8.f4.right.f4.right.f3.f3).edL_nil none).of_eq (by unfold EdLL; ac_rfl))
end
end Go.Proofs.Ytaabgcfeghcmnaa
