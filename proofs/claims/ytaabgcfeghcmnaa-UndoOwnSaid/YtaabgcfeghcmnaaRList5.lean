/- The document's list of edits: Undo, Revert. -/
import Derived.Test.YtaabgcfeghcmnaaRList4
set_option linter.unusedSimpArgs false
set_option linter.unusedVariables false
namespace Go.Proofs.Ytaabgcfeghcmnaa
open Go.RowKit
theorem inv_down {es : List BEd} {m : Nat} (hm : m < es.length) : ((es.map BEd.says).reverse.take (es.length - m)).map invA = ((es.map BEd.says).reverse.take (es.length - (m + 1))).map invA ++ [invA (es.getD m default).says] := by
  have := inv_succ (es := es) (k := es.length - (m + 1)) (by omega)
  rwa [show es.length - (m + 1) + 1 = es.length - m from by omega, show es.length - (es.length - m) = m from by omega] at this
section
variable {w0 w : World} {F : HP} {p : Nat} {G : List (List EdA)} {N : List EdA} {op : Int} {gv nv gl : Value} {hs : List (Value × List BEd)} {ges : List BEd}
theorem Holds.rlist_last (H : Holds w0 w (RList p G [] op • F)) (hG : G ≠ []) : ∃ gv nv hs gl ges, G = hs.map (fun g => g.2.map BEd.says) ++ [ges.map BEd.says] ∧ UOk G [] op ∧ G.length = hs.length + 1 ∧ hs.length ≤ 16384 ∧ ges.length ≤ 16384 ∧ (∀ k, k < ges.length → EB (ges.getD k default).says) ∧
    Holds w0 w (blk p (.cells #[gv, .int .i64 op, nv] 45 (0, 0)) • Row 39 1 gv (hs.length + 1) (hs.map (·.1) ++ [gl]) • elsK hs • elK gl ges • EdL nv [] • F) := by
  obtain ⟨gv, nv, gs, now, h1, h2, h3, h4, h5, h6, H⟩ := H.rlist
  obtain rfl : now = [] := List.eq_nil_of_length_eq_zero (by simpa using h5)
  rcases List.eq_nil_or_concat gs with rfl | ⟨hs, ⟨gl, ges⟩, rfl⟩
  · exact absurd h2.symm hG
  · have hG2 : G = hs.map (fun g => g.2.map BEd.says) ++ [ges.map BEd.says] := by rw [← h2]; simp
    have hle : ges.length ≤ 16384 := by
      have := h1.2.1
      rw [hG2, uTot_snoc] at this
      simp at this
      omega
    refine ⟨gv, nv, hs, gl, ges, hG2, h1, ?_, ?_, hle, fun k hk => ?_, ?_⟩
    · rw [hG2]; simp
    · rw [hG2] at h6; simp at h6; omega
    · refine h1.2.2.2.2.1 (ges.map BEd.says) (by rw [hG2]; simp) _ ?_
      rw [List.getD_eq_getElem?_getD, List.getElem?_eq_getElem hk]
      exact List.mem_map_of_mem (List.getElem_mem hk)
    · rw [List.concat_eq_append, List.length_append, List.map_append] at H
      have H1 := (H.f3.elsK_get (k := hs.length) (by simp)).swap
      rw [show (hs ++ [(gl, ges)]).getD hs.length default = (gl, ges) from by simp [List.getD_eq_getElem?_getD]] at H1
      have H2 := H1.elsK_cut hs.length
      rw [List.take_left' rfl] at H2
      exact H2.of_eq (by unfold EdL; ac_rfl)
theorem Holds.rlist_shut (H : Holds w0 w (Row 39 1 gv (hs.length + 1) (hs.map (·.1) ++ [gl]) • blk p (.cells #[cutV 1 0 hs.length gv, .int .i64 0, nv] 45 (0, 0)) • elsK hs • EdL nv [] • F))
    (hok : UOk (hs.map (fun g => g.2.map BEd.says)) [] 0) : Holds w0 w (RList p (hs.map (fun g => g.2.map BEd.says)) [] 0 • F) := by
  have hX := H.row_cut0 (h := hs.length) (by omega)
  rw [Nat.mul_one, List.take_left' (by simp)] at hX
  exact Holds.mk_rlist (gv := cutV 1 0 hs.length gv) (nv := nv) (gs := hs) (now := []) hok rfl rfl (hX.of_eq (by unfold EdLL; ac_rfl))
theorem rl_undo_ret (H : Holds w0 w (RList p G N op • F)) : Ret Try.prog 36 #[.pointer (some ⟨p, 0, none⟩)] w fun v w' => ∃ u, ∃ fs : List BEd, v = .tuple #[u, .int .i64 (undoE G N)] ∧ fs.map BEd.says = undoR G N ∧
    Holds w0 w' (Row 24 3 u fs.length (fs.flatMap BEd.enc) • edsK fs • RList p (undoG G N) (undoN G N) (undoO G N op) • F) := by
  unfold undoE undoR undoG undoN undoO
  refine ret_enter Try.func36 rfl Try.ntmps36 (Nat.le_of_ble_eq_true rfl) ?_
  dsimp only [slots0, Nat.reduceAdd]
  refine wc_seq ?_
  refine wc_region ?_
  refine wl_val (r_assign rfl) (ltn rfl) ?_
  refine wl_val (r_assign rfl) (ltn rfl) ?_
  refine wl_nil ?_
  refine wq_seq ?_
  refine wc_seq ?_
  refine wc_seq ?_
  refine wc_region ?_
  refine wl_val (r_move rfl) (ltn rfl) ?_
  refine wl_eff (e_call (r_call rfl Try.func41 rfl rfl) (rl_len_ret H)) (ltn rfl) ?_
  rintro _ w1 ⟨rfl, H1⟩
  refine wl_val (r_eql rfl rfl) (ltn rfl) ?_
  refine wl_nil ?_
  refine wq_seq ?_
  refine wc_cond rfl (fun h1 => ?_) (fun h1 => ?_)
  · (try simp only [beq_iff_eq, bne_iff_ne, ne_eq, decide_eq_true_eq, decide_eq_false_iff_not, beq_eq_false_iff_ne, bne_eq_false_iff_eq, Bool.not_eq_true', Bool.not_eq_false', Bool.not_eq_eq_eq_not, Bool.not_true, Bool.not_false, gt_iff_lt, ge_iff_le, Int.not_lt, Int.not_le] at h1)
    have hGN : G.length + N.length = 0 := by omega
    refine wc_seq ?_
    refine wc_region ?_
    refine wl_val (r_assign rfl) (ltn rfl) ?_
    refine wl_val (r_assign rfl) (ltn rfl) ?_
    refine wl_nil ?_
    refine wq_seq ?_
    refine wc_ret ?_
    refine wq_then_ret ?_
    refine wq_end2 (.inl rfl) Try.results36 rfl rfl ?_
    simp only [if_pos hGN]
    exact ⟨_, [], rfl, rfl, ((H1).edL_nil none).edL⟩
  · (try simp only [beq_iff_eq, bne_iff_ne, ne_eq, decide_eq_true_eq, decide_eq_false_iff_not, beq_eq_false_iff_ne, bne_eq_false_iff_eq, Bool.not_eq_true', Bool.not_eq_false', Bool.not_eq_eq_eq_not, Bool.not_true, Bool.not_false, gt_iff_lt, ge_iff_le, Int.not_lt, Int.not_le] at h1)
    have hGN : ¬ G.length + N.length = 0 := by omega
    refine wc_skip ?_
    refine wq_seq ?_
    refine wc_seq ?_
    refine wc_region ?_
    refine wl_val (r_move rfl) (ltn rfl) ?_
    refine wl_eff (e_call (r_call rfl Try.func57 rfl rfl) (rl_close_ret H1)) (ltn rfl) ?_
    rintro _ w2 H2
    refine wl_nil ?_
    refine wq_seq ?_
    refine wc_seq ?_
    obtain ⟨gv, nv, hs, gl, ges, hG, hok, hl1, hl2, hl3, hEB, HU⟩ := (H2).rlist_last (closeG_pos hGN)
    have htot := hok.2.1
    have H4d2 := HU.drew
    have hS4d2 := Holds.kp (H4d2.f5.f5.f5.f5.f5)
    refine wd_beginK [3, 7, 11] hS4d2 (by kernel_rfl) (by kernel_rfl) rfl ?_
    refine wd_takeT 0 rfl (by kernel_rfl) (by kernel_rfl) hS4d2 (fun _ => r_move rfl) (ltn rfl) ?_
    refine wd_takeT 1 rfl (by kernel_rfl) (by kernel_rfl) hS4d2 (fun _ => r_nil rfl) (ltn rfl) ?_
    refine wd_takeT 2 rfl (by kernel_rfl) (by kernel_rfl) hS4d2 (fun _ => (by first | exact r_field0 0 Try.underlying45 rfl rfl Try.sizeOf43 (by decide) rfl | exact r_field 0 Try.underlying45 rfl rfl Try.sizeOf43 (by decide) rfl)) (ltn rfl) ?_
    refine wd_take 3 rfl (by kernel_rfl) (by kernel_rfl) hS4d2 (by decide) (fun W hW => r_load (plain_of Try.underlying43 rfl) rfl (cell_of_blk ((Kp.h hW)).get.2 rfl)) (ltn rfl) ?_
    refine wd_takeT 4 rfl (by kernel_rfl) (by kernel_rfl) hS4d2 (fun _ => r_move rfl) (ltn rfl) ?_
    refine wd_takeT 5 rfl (by kernel_rfl) (by kernel_rfl) hS4d2 (fun _ => r_nil rfl) (ltn rfl) ?_
    refine wd_takeT 6 rfl (by kernel_rfl) (by kernel_rfl) hS4d2 (fun _ => (by first | exact r_field0 0 Try.underlying45 rfl rfl Try.sizeOf43 (by decide) rfl | exact r_field 0 Try.underlying45 rfl rfl Try.sizeOf43 (by decide) rfl)) (ltn rfl) ?_
    refine wd_take 7 rfl (by kernel_rfl) (by kernel_rfl) hS4d2 (by decide) (fun W hW => r_load (plain_of Try.underlying43 rfl) rfl (cell_of_blk ((Kp.h hW)).get.2 rfl)) (ltn rfl) ?_
    refine wd_takeT 8 rfl (by kernel_rfl) (by kernel_rfl) hS4d2 (fun _ => r_lenS ((H4d2.f2).row_rd) Try.underlying43 rfl) (ltn rfl) ?_
    refine wd_takeT 9 rfl (by kernel_rfl) (by kernel_rfl) hS4d2 (fun _ => r_sub rfl rfl (by omega)) (ltn rfl) ?_
    obtain ⟨bgv, ogv, cgv, egv⟩ := Rd.posV ((H4d2.f2).row_rd) (by omega)
    cases egv
    refine wd_takeT 10 rfl (by kernel_rfl) (by kernel_rfl) hS4d2 (fun _ => r_index Try.underlying43 Try.sizeOf39 rfl rfl (by omega)) (ltn rfl) ?_
    refine wd_take 11 rfl (by kernel_rfl) (by kernel_rfl) hS4d2 (by decide) (fun W hW => r_load (plain_of Try.underlying39 rfl) rfl (by first | exact Rd.at1n (((Kp.h hW).f2).row_rd) (by omega) | exact Rd.at0 (((Kp.h hW).f2).row_rd) (by omega) | exact Rd.at1 (((Kp.h hW).f2).row_rd) (by omega))) (ltn rfl) ?_
    rw [show (hs.map (·.1) ++ [gl]).getD ((((hs.length + 1 : Nat)) : Int) - 1).toNat undef = gl from by rw [show ((((hs.length + 1 : Nat)) : Int) - 1).toNat = hs.length from by omega]; simp [List.getD_eq_getElem?_getD]]
    refine wd_takeT 12 rfl (by kernel_rfl) (by kernel_rfl) hS4d2 (fun _ => r_assign rfl) (ltn rfl) ?_
    refine wd_done (by kernel_rfl) ?_
    refine wq_seq ?_
    refine wc_seq ?_
    have H5d2 := H4d2.drew
    have hS5d2 := Holds.kp (H5d2.f5.f5.f5.f5.f5)
    refine wd_beginK [4, 8] hS5d2 (by kernel_rfl) (by kernel_rfl) rfl ?_
    refine wd_takeT 0 rfl (by kernel_rfl) (by kernel_rfl) hS5d2 (fun _ => r_move rfl) (ltn rfl) ?_
    refine wd_takeT 1 rfl (by kernel_rfl) (by kernel_rfl) hS5d2 (fun _ => r_move rfl) (ltn rfl) ?_
    refine wd_takeT 2 rfl (by kernel_rfl) (by kernel_rfl) hS5d2 (fun _ => r_nil rfl) (ltn rfl) ?_
    refine wd_takeT 3 rfl (by kernel_rfl) (by kernel_rfl) hS5d2 (fun _ => (by first | exact r_field0 0 Try.underlying45 rfl rfl Try.sizeOf43 (by decide) rfl | exact r_field 0 Try.underlying45 rfl rfl Try.sizeOf43 (by decide) rfl)) (ltn rfl) ?_
    refine wd_take 4 rfl (by kernel_rfl) (by kernel_rfl) hS5d2 (by decide) (fun W hW => r_load (plain_of Try.underlying43 rfl) rfl (cell_of_blk ((Kp.h hW)).get.2 rfl)) (ltn rfl) ?_
    refine wd_takeT 5 rfl (by kernel_rfl) (by kernel_rfl) hS5d2 (fun _ => r_move rfl) (ltn rfl) ?_
    refine wd_takeT 6 rfl (by kernel_rfl) (by kernel_rfl) hS5d2 (fun _ => r_nil rfl) (ltn rfl) ?_
    refine wd_takeT 7 rfl (by kernel_rfl) (by kernel_rfl) hS5d2 (fun _ => (by first | exact r_field0 0 Try.underlying45 rfl rfl Try.sizeOf43 (by decide) rfl | exact r_field 0 Try.underlying45 rfl rfl Try.sizeOf43 (by decide) rfl)) (ltn rfl) ?_
    refine wd_take 8 rfl (by kernel_rfl) (by kernel_rfl) hS5d2 (by decide) (fun W hW => r_load (plain_of Try.underlying43 rfl) rfl (cell_of_blk ((Kp.h hW)).get.2 rfl)) (ltn rfl) ?_
    refine wd_takeT 9 rfl (by kernel_rfl) (by kernel_rfl) hS5d2 (fun _ => r_len Try.underlying43 rfl) (ltn rfl) ?_
    refine wd_takeT 10 rfl (by kernel_rfl) (by kernel_rfl) hS5d2 (fun _ => r_sub rfl rfl (by omega)) (ltn rfl) ?_
    refine wd_takeT 11 rfl (by kernel_rfl) (by kernel_rfl) hS5d2 (fun _ => r_sliceS ((H5d2.f2).row_rd) Try.underlying43 Try.sizeOf39 rfl rfl rfl (by omega)) (ltn rfl) ?_
    refine wd_takeT 12 rfl (by kernel_rfl) (by kernel_rfl) hS5d2 (fun _ => r_nil rfl) (ltn rfl) ?_
    refine wd_takeT 13 rfl (by kernel_rfl) (by kernel_rfl) hS5d2 (fun _ => (by first | exact r_field0 0 Try.underlying45 rfl rfl Try.sizeOf43 (by decide) rfl | exact r_field 0 Try.underlying45 rfl rfl Try.sizeOf43 (by decide) rfl)) (ltn rfl) ?_
    refine wd_eff0 14 rfl (by kernel_rfl) (e_storeL 0 (l' := [_, _, _]) H5d2 Try.sizeOf43 rfl rfl (by first | rfl | exact Rd.one (Rd.upto1 ((H5d2.f2).row_rd) (by omega))) rfl rfl) ?_
    rintro _ w3 H3
    have hS3n := Holds.kp (H3.f5.f5.f5.f5.f5)
    refine keepX hS3n (by kernel_rfl) ?_
    refine wd_done (by kernel_rfl) ?_
    refine wq_seq ?_
    refine wc_seq ?_
    have hX := H3.f4.f5.f5.f4.f5
    rw [show (((hs.length + 1 : Nat) : Int) - 1).toNat = hs.length from by omega, show Int.toNat 0 = 0 from rfl] at hX
    have hok2 : UOk (hs.map (fun g => g.2.map BEd.says)) [] 0 := ⟨fun g hg => hok.1 g (by rw [hG]; exact List.mem_append_left _ hg), by rw [hG, uTot_snoc] at htot; omega, by decide, by decide, fun g hg => hok.2.2.2.2.1 g (by rw [hG]; exact List.mem_append_left _ hg), by simp⟩
    have hY := Holds.rlist_shut hX hok2
    refine wc_region ?_
    refine wl_val (r_assign rfl) (ltn rfl) ?_
    refine wl_nil ?_
    refine wq_seq ?_
    refine wc_seq ?_
    refine wc_seq ?_
    refine wc_region ?_
    refine wl_val (r_move rfl) (ltn rfl) ?_
    refine wl_val (r_lenS ((hY.f2).elK_rd) Try.underlying39 rfl) (ltn rfl) ?_
    refine wl_val (r_sub rfl rfl (by omega)) (ltn rfl) ?_
    refine wl_val (r_assign rfl) (ltn rfl) ?_
    refine wl_nil ?_
    refine wq_seq ?_
    refine wc_block ?_
    obtain ⟨agl, cgl, egl, -⟩ := ((hY.f2).elK_rd).form
    subst egl
    refine wc_loop [(4, _)] (fun (⟨k, u⟩ : Nat × Value) => [(5, u), (6, .int .i64 ((k : Int) - 1))]) (fun (⟨k, u⟩ : Nat × Value) W => k ≤ ges.length ∧ ∃ fs : List BEd, fs.map BEd.says = ((ges.map BEd.says).reverse.take (ges.length - k)).map invA ∧ Holds w0 W (Row 24 3 u fs.length (fs.flatMap BEd.enc) • edsK fs • elK (.slice agl (ges.length) cgl) ges • RList p (hs.map (fun g => g.2.map BEd.says)) [] 0 • F)) (fun (⟨k, u⟩ : Nat × Value) => k) ((ges.length, .slice none 0 0)) (Sub.cons rfl (Sub.nil _)) (Sub.cons rfl (Sub.cons rfl (Sub.nil _))) ⟨by omega, [], by rw [Nat.sub_self]; rfl, ((hY.f2).edL_nil none).edL⟩ ?_
    rintro ⟨k, u⟩ w5 ⟨hk, fs, hfs, HL⟩
    dsimp only [List.cons_append, List.nil_append]
    refine wc_seq ?_
    refine wc_seq ?_
    refine wc_region ?_
    refine wl_val (r_move rfl) (ltn rfl) ?_
    refine wl_val (r_geq rfl rfl) (ltn rfl) ?_
    refine wl_nil ?_
    refine wq_seq ?_
    refine wc_cond rfl (fun h2 => ?_) (fun h2 => ?_)
    · (try simp only [beq_iff_eq, bne_iff_ne, ne_eq, decide_eq_true_eq, decide_eq_false_iff_not, beq_eq_false_iff_ne, bne_eq_false_iff_eq, Bool.not_eq_true', Bool.not_eq_false', Bool.not_eq_eq_eq_not, Bool.not_true, Bool.not_false, gt_iff_lt, ge_iff_le, Int.not_lt, Int.not_le] at h2)
      
      refine wc_skip ?_
      refine wq_seq ?_
      refine wc_seq ?_
      refine wc_block ?_
      obtain ⟨m, rfl⟩ : ∃ m, k = m + 1 := ⟨k - 1, by omega⟩
      rw [show (((m + 1 : Nat) : Int) - 1) = (m : Int) from by omega]
      have hml : m < ges.length := by omega
      have Hq := (HL.f3).elK_at hml
      obtain ⟨hb1, hb2⟩ := hEB m hml
      have hb1 : (ges.getD m default).dl.length ≤ 35184372087808 := hb1
      have hb2 : (ges.getD m default).il.length ≤ 35184372087808 := hb2
      have hfl : fs.length ≤ ges.length := by have h9 := congrArg List.length hfs; simp at h9; omega
      refine wc_region ?_
      refine wl_val (r_move rfl) (ltn rfl) ?_
      refine wl_val (r_move rfl) (ltn rfl) ?_
      refine wl_val (r_move rfl) (ltn rfl) ?_
      obtain ⟨bgl, ogl, rfl⟩ := Rd.pos ((Hq.f3).elK_rd) (by omega)
      refine wl_val (r_index Try.underlying39 Try.sizeOf24 rfl rfl (by omega)) (ltn rfl) ?_
      refine wl_val (r_load_elem (ys := [_, _, _]) ((Hq.f3).elK_rd) (by omega) Try.underlying24 rfl Try.sizeOf24 rfl (flat_elem BEd.enc_len (by omega) default) rfl) (ltn rfl) ?_
      refine wl_eff (e_call (r_call rfl Try.func17 rfl rfl) (ref_inverse_ret Hq (fun W HW => (HW).imm_rd) (fun W HW => (HW.f2).imm_rd) (by omega) (by omega))) (ltn rfl) ?_
      rintro _ w6 ⟨d6, s6, rfl, H6⟩
      refine wl_eff (e_lit_one H6 Try.underlying39 Try.sizeOf24 Try.zeroValue24 rfl rfl rfl (by decide) (by decide)) (ltn rfl) ?_
      rintro l7 w7 H7
      refine wl_eff (e_append H7.f7 Try.underlying39 (show (Try.prog.info? 24).map (fun i => (i.zero, i.size, i.bytes)) = some (some (.agg #[.int .i64 0, .slice none 0 0, .slice none 0 0]), 3, 56) by kernel_rfl) rfl rfl rfl ((H7).row_rd) (ones_cons (by first | rfl | assumption) (ones_cons (by first | rfl | exact Rd.one ((H7.f2).row_rd)) (ones_cons (by first | rfl | exact Rd.one ((H7.f3).row_rd)) ones_nil))) (by omega) (by omega)) (ltn rfl) ?_
      rintro l8 w8 H8
      have Hd9 := H8.f2.right
      refine wl_val (r_assign rfl) (ltn rfl) ?_
      refine wl_nil ?_
      refine wq_block_normal ?_
      refine wq_seq ?_
      refine wc_region ?_
      refine wl_val (r_move rfl) (ltn rfl) ?_
      refine wl_val (r_sub rfl rfl (by omega)) (ltn rfl) ?_
      refine wl_val (r_assign rfl) (ltn rfl) ?_
      refine wl_nil ?_
      refine wq_round ((m, l8)) ?_ ?_ ?_ ?_
      · exact (Sub.cons rfl (Sub.cons rfl (Sub.nil _)))
      · exact (Sub.cons rfl (Sub.nil _))
      · (try dsimp only)
        exact ⟨by omega, _, by rw [List.map_append, hfs, inv_down (m := m) hml]; rfl, (Holds.edL_snoc (Hd9.f4.right.f4.right.f6.f5.f6.f4.f6.f6).freezeI.swap.freezeI.swap.f3).edL⟩
      · (try dsimp only); omega
    · (try simp only [beq_iff_eq, bne_iff_ne, ne_eq, decide_eq_true_eq, decide_eq_false_iff_not, beq_eq_false_iff_ne, bne_eq_false_iff_eq, Bool.not_eq_true', Bool.not_eq_false', Bool.not_eq_eq_eq_not, Bool.not_true, Bool.not_false, gt_iff_lt, ge_iff_le, Int.not_lt, Int.not_le] at h2)
      
      refine wc_exit ?_
      refine wq_then_exit ?_
      refine wq_then_exit ?_
      refine wq_block_hit ?_
      refine wq_seq ?_
      refine wc_seq ?_
      refine wc_region ?_
      refine wl_val (r_move rfl) (ltn rfl) ?_
      refine wl_val (r_assign rfl) (ltn rfl) ?_
      refine wl_val (r_assign rfl) (ltn rfl) ?_
      refine wl_nil ?_
      refine wq_seq ?_
      refine wc_ret ?_
      refine wq_end2 (.inl rfl) Try.results36 rfl rfl ?_
      simp only [if_neg hGN]
      obtain rfl : k = 0 := by omega
      have hdl : (closeG G N).dropLast = hs.map (fun g => g.2.map BEd.says) := by rw [hG]; simp
      have hlast : (closeG G N).getLastD [] = ges.map BEd.says := by rw [hG]; simp
      rw [hdl, hlast]
      rw [List.take_of_length_le (by simp)] at hfs
      exact ⟨_, _, rfl, hfs, HL.f3.right.f3.f3.f3⟩
end
end Go.Proofs.Ytaabgcfeghcmnaa
