/- Lists of edits that are taken back: Undo. -/
import Derived.Test.YtaabgcfeghcmnaaUList3
set_option linter.unusedSimpArgs false
set_option linter.unusedVariables false
namespace Go.Proofs.Ytaabgcfeghcmnaa
open Go.RowKit
def undoE (G : List (List EdA)) (N : List EdA) : Int := if G.length + N.length = 0 then 6 else 0
def undoG (G : List (List EdA)) (N : List EdA) : List (List EdA) := if G.length + N.length = 0 then G else (closeG G N).dropLast
def undoN (G : List (List EdA)) (N : List EdA) : List EdA := if G.length + N.length = 0 then N else []
def undoO (G : List (List EdA)) (N : List EdA) (op : Int) : Int := if G.length + N.length = 0 then op else 0
def undoR (G : List (List EdA)) (N : List EdA) : List EdA := if G.length + N.length = 0 then [] else ((closeG G N).getLastD []).reverse.map invA
theorem uTot_snoc {G : List (List EdA)} {g N : List EdA} : uTot (G ++ [g]) N = uTot G N + g.length := by simp [uTot]; omega
section
variable {w0 w : World} {F : HP} {p : Nat} {G : List (List EdA)} {N : List EdA} {op : Int} {gv nv v : Value} {gs : List (Value × List BEd)} {now es : List BEd} {a : Int} {d z : Value} {dl il : List Int}
theorem closeG_pos (h : ¬ G.length + N.length = 0) : closeG G N ≠ [] := by
  unfold closeG; split
  · rename_i hN; rintro rfl; subst hN; exact h rfl
  · simp
/-- The last group of a list in which nothing is open. -/
theorem Holds.ulist_last (H : Holds w0 w (UList p G [] op • F)) (hG : G ≠ []) : ∃ gv nv hs gl ges, G = hs.map (fun g => g.2.map BEd.says) ++ [ges.map BEd.says] ∧ UOk G [] op ∧ G.length = hs.length + 1 ∧ hs.length ≤ 16384 ∧ ges.length ≤ 16384 ∧ (∀ k, k < ges.length → EB (ges.getD k default).says) ∧
    Holds w0 w (blk p (.cells #[gv, nv, .int .i64 op, .int .i64 (uTot G [] : Nat), .bool true] 72 (0, 0)) • Row 39 1 gv (hs.length + 1) (hs.map (·.1) ++ [gl]) • elsK hs • elK gl ges • EdL nv [] • F) := by
  obtain ⟨gv, nv, gs, now, h1, h2, h3, h4, h5, h6, H⟩ := H.ulist
  obtain rfl : now = [] := List.eq_nil_of_length_eq_zero (by simpa using h5)
  rcases List.eq_nil_or_concat gs with rfl | ⟨hs, ⟨gl, ges⟩, rfl⟩
  · exact absurd h2.symm hG
  · have hG2 : G = hs.map (fun g => g.2.map BEd.says) ++ [ges.map BEd.says] := by rw [← h2]; simp
    have hle : ges.length ≤ 16384 := by
      have := h1.2.1
      rw [hG2, uTot_snoc] at this
      simp at this
      omega
    refine ⟨gv, nv, hs, gl, ges, hG2, h1, ?_, ?_, hle, fun k hk => ?_, ?_⟩
    · rw [hG2]; simp
    · rw [hG2] at h6; simp at h6; omega
    · refine h1.2.2.2.2.1 (ges.map BEd.says) (by rw [hG2]; simp) _ ?_
      rw [List.getD_eq_getElem?_getD, List.getElem?_eq_getElem hk]
      exact List.mem_map_of_mem (List.getElem_mem hk)
    · rw [List.concat_eq_append, List.length_append, List.map_append] at H
      have H1 := (H.f3.elsK_get (k := hs.length) (by simp)).swap
      rw [show (hs ++ [(gl, ges)]).getD hs.length default = (gl, ges) from by simp [List.getD_eq_getElem?_getD]] at H1
      have H2 := H1.elsK_cut hs.length
      rw [List.take_left' rfl] at H2
      exact H2.of_eq (by unfold EdL; ac_rfl)
theorem undo_undo_ret (H : Holds w0 w (UList p G N op • F)) : Ret Try.prog 33 #[.pointer (some ⟨p, 0, none⟩)] w fun v w' => ∃ u, ∃ fs : List BEd, v = .tuple #[u, .int .i64 (undoE G N)] ∧ fs.map BEd.says = undoR G N ∧
    Holds w0 w' (Row 24 3 u fs.length (fs.flatMap BEd.enc) • edsK fs • UList p (undoG G N) (undoN G N) (undoO G N op) • F) := by
  unfold undoE undoR undoG undoN undoO
  refine ret_enter Try.func33 rfl Try.ntmps33 (Nat.le_of_ble_eq_true rfl) ?_
  dsimp only [slots0, Nat.reduceAdd]
  refine wc_seq ?_
  refine wc_region ?_
  refine wl_val (r_assign rfl) (ltn rfl) ?_
  refine wl_val (r_assign rfl) (ltn rfl) ?_
  refine wl_nil ?_
  refine wq_seq ?_
  refine wc_seq ?_
  refine wc_seq ?_
  refine wc_region ?_
  refine wl_val (r_move rfl) (ltn rfl) ?_
  refine wl_eff (e_call (r_call rfl Try.func51 rfl rfl) (undo_none_ret H)) (ltn rfl) ?_
  rintro _ _ ⟨rfl, rfl⟩
  refine wl_nil ?_
  refine wq_seq ?_
  refine wc_cond_f rfl ?_
  refine wc_skip ?_
  refine wq_seq ?_
  refine wc_seq ?_
  refine wc_seq ?_
  obtain ⟨gv_p, nv_p, gs_p, now_p, k1_p, k2_p, k3_p, k4_p, k5_p, k6_p, HU_p⟩ := (H).ulist
  have H3d2 := HU_p.drew
  have hS3d2 := Holds.kp (H3d2.f5.f5.f5.f5.f5)
  refine wd_beginK [4, 10] hS3d2 (by kernel_rfl) (by kernel_rfl) rfl ?_
  refine wd_takeT 0 rfl (by kernel_rfl) (by kernel_rfl) hS3d2 (fun _ => r_move rfl) (ltn rfl) ?_
  refine wd_takeT 1 rfl (by kernel_rfl) (by kernel_rfl) hS3d2 (fun _ => r_nil rfl) (ltn rfl) ?_
  refine wd_takeT 2 rfl (by kernel_rfl) (by kernel_rfl) hS3d2 (fun _ => (by first | exact r_field0 0 Try.underlying72 rfl rfl Try.sizeOf70 (by decide) rfl | exact r_field 0 Try.underlying72 rfl rfl Try.sizeOf70 (by decide) rfl)) (ltn rfl) ?_
  refine wd_takeT 3 rfl (by kernel_rfl) (by kernel_rfl) hS3d2 (fun _ => (by first | exact r_field0 0 Try.underlying70 rfl rfl Try.sizeOf43 (by decide) rfl | exact r_field 0 Try.underlying70 rfl rfl Try.sizeOf43 (by decide) rfl)) (ltn rfl) ?_
  refine wd_take 4 rfl (by kernel_rfl) (by kernel_rfl) hS3d2 (by decide) (fun W hW => r_load (plain_of Try.underlying43 rfl) rfl (cell_of_blk ((Kp.h hW)).get.2 rfl)) (ltn rfl) ?_
  refine wd_takeT 5 rfl (by kernel_rfl) (by kernel_rfl) hS3d2 (fun _ => r_lenS ((H3d2.f2).row_rd) Try.underlying43 rfl) (ltn rfl) ?_
  refine wd_takeT 6 rfl (by kernel_rfl) (by kernel_rfl) hS3d2 (fun _ => r_move rfl) (ltn rfl) ?_
  refine wd_takeT 7 rfl (by kernel_rfl) (by kernel_rfl) hS3d2 (fun _ => r_nil rfl) (ltn rfl) ?_
  refine wd_takeT 8 rfl (by kernel_rfl) (by kernel_rfl) hS3d2 (fun _ => (by first | exact r_field0 0 Try.underlying72 rfl rfl Try.sizeOf70 (by decide) rfl | exact r_field 0 Try.underlying72 rfl rfl Try.sizeOf70 (by decide) rfl)) (ltn rfl) ?_
  refine wd_takeT 9 rfl (by kernel_rfl) (by kernel_rfl) hS3d2 (fun _ => (by first | exact r_field0 1 Try.underlying70 rfl rfl Try.sizeOf39 (by decide) rfl | exact r_field 1 Try.underlying70 rfl rfl Try.sizeOf39 (by decide) rfl)) (ltn rfl) ?_
  refine wd_take 10 rfl (by kernel_rfl) (by kernel_rfl) hS3d2 (by decide) (fun W hW => r_load (plain_of Try.underlying39 rfl) rfl (cell_of_blk ((Kp.h hW)).get.2 rfl)) (ltn rfl) ?_
  refine wd_takeT 11 rfl (by kernel_rfl) (by kernel_rfl) hS3d2 (fun _ => r_lenS ((H3d2.f4).row_rd) Try.underlying39 rfl) (ltn rfl) ?_
  refine wd_takeT 12 rfl (by kernel_rfl) (by kernel_rfl) hS3d2 (fun _ => r_add rfl rfl (by omega)) (ltn rfl) ?_
  refine wd_takeT 13 rfl (by kernel_rfl) (by kernel_rfl) hS3d2 (fun _ => r_eql rfl rfl) (ltn rfl) ?_
  refine wd_done (by kernel_rfl) ?_
  refine wq_seq ?_
  refine wc_cond rfl (fun h1 => ?_) (fun h1 => ?_)
  · (try simp only [beq_iff_eq, bne_iff_ne, ne_eq, decide_eq_true_eq, decide_eq_false_iff_not, beq_eq_false_iff_ne, bne_eq_false_iff_eq, Bool.not_eq_true', Bool.not_eq_false', Bool.not_eq_eq_eq_not, Bool.not_true, Bool.not_false, gt_iff_lt, ge_iff_le, Int.not_lt, Int.not_le] at h1)
    have hGN : G.length + N.length = 0 := by omega
    have Ho4 := H3d2.f5.f5.f5.f5.f5
    have Hc5 := Holds.mk_ulistF k1_p k2_p k3_p rfl Ho4
    refine wc_seq ?_
    refine wc_region ?_
    refine wl_val (r_assign rfl) (ltn rfl) ?_
    refine wl_val (r_assign rfl) (ltn rfl) ?_
    refine wl_nil ?_
    refine wq_seq ?_
    refine wc_ret ?_
    refine wq_then_ret ?_
    refine wq_end2 (.inl rfl) Try.results33 rfl rfl ?_
    simp only [if_pos hGN]
    exact ⟨_, [], rfl, rfl, ((Hc5).edL_nil none).edL⟩
  · (try simp only [beq_iff_eq, bne_iff_ne, ne_eq, decide_eq_true_eq, decide_eq_false_iff_not, beq_eq_false_iff_ne, bne_eq_false_iff_eq, Bool.not_eq_true', Bool.not_eq_false', Bool.not_eq_eq_eq_not, Bool.not_true, Bool.not_false, gt_iff_lt, ge_iff_le, Int.not_lt, Int.not_le] at h1)
    have hGN : ¬ G.length + N.length = 0 := by omega
    have Ho7 := H3d2.f5.f5.f5.f5.f5
    have Hc8 := Holds.mk_ulistF k1_p k2_p k3_p rfl Ho7
    refine wc_skip ?_
    refine wq_seq ?_
    refine wc_seq ?_
    refine wc_region ?_
    refine wl_val (r_move rfl) (ltn rfl) ?_
    refine wl_eff (e_call (r_call rfl Try.func55 rfl rfl) (undo_close_ret Hc8)) (ltn rfl) ?_
    rintro _ w9 H9
    refine wl_nil ?_
    refine wq_seq ?_
    refine wc_seq ?_
    obtain ⟨gv, nv, hs, gl, ges, hG, hok, hl1, hl2, hl3, hEB, HU⟩ := (H9).ulist_last (closeG_pos hGN)
    have htot := hok.2.1
    refine wc_region ?_
    refine wl_val (r_move rfl) (ltn rfl) ?_
    refine wl_val (r_nil rfl) (ltn rfl) ?_
    refine wl_val ((by first | exact r_field0 0 Try.underlying72 rfl rfl Try.sizeOf70 (by decide) rfl | exact r_field 0 Try.underlying72 rfl rfl Try.sizeOf70 (by decide) rfl)) (ltn rfl) ?_
    refine wl_val ((by first | exact r_field0 0 Try.underlying70 rfl rfl Try.sizeOf43 (by decide) rfl | exact r_field 0 Try.underlying70 rfl rfl Try.sizeOf43 (by decide) rfl)) (ltn rfl) ?_
    refine wl_val (r_load (plain_of Try.underlying43 rfl) rfl (cell_of_blk (HU).get.2 rfl)) (ltn rfl) ?_
    refine wl_val (r_lenS ((HU.f2).row_rd) Try.underlying43 rfl) (ltn rfl) ?_
    refine wl_val (r_sub rfl rfl (by omega)) (ltn rfl) ?_
    refine wl_val (r_assign rfl) (ltn rfl) ?_
    refine wl_nil ?_
    refine wq_seq ?_
    refine wc_seq ?_
    refine wc_region ?_
    refine wl_val (r_move rfl) (ltn rfl) ?_
    refine wl_val (r_nil rfl) (ltn rfl) ?_
    refine wl_val ((by first | exact r_field0 0 Try.underlying72 rfl rfl Try.sizeOf70 (by decide) rfl | exact r_field 0 Try.underlying72 rfl rfl Try.sizeOf70 (by decide) rfl)) (ltn rfl) ?_
    refine wl_val ((by first | exact r_field0 0 Try.underlying70 rfl rfl Try.sizeOf43 (by decide) rfl | exact r_field 0 Try.underlying70 rfl rfl Try.sizeOf43 (by decide) rfl)) (ltn rfl) ?_
    refine wl_val (r_load (plain_of Try.underlying43 rfl) rfl (cell_of_blk (HU).get.2 rfl)) (ltn rfl) ?_
    refine wl_val (r_move rfl) (ltn rfl) ?_
    obtain ⟨bgv, ogv, cgv, egv⟩ := Rd.posV ((HU.f2).row_rd) (by omega)
    cases egv
    refine wl_val (r_index Try.underlying43 Try.sizeOf39 rfl rfl (by omega)) (ltn rfl) ?_
    refine wl_val (r_load (plain_of Try.underlying39 rfl) rfl (by first | exact Rd.at1n ((HU.f2).row_rd) (by omega) | exact Rd.at0 ((HU.f2).row_rd) (by omega) | exact Rd.at1 ((HU.f2).row_rd) (by omega))) (ltn rfl) ?_
    rw [show (hs.map (·.1) ++ [gl]).getD ((((hs.length + 1 : Nat)) : Int) - 1).toNat undef = gl from by rw [show ((((hs.length + 1 : Nat)) : Int) - 1).toNat = hs.length from by omega]; simp [List.getD_eq_getElem?_getD]]
    refine wl_val (r_assign rfl) (ltn rfl) ?_
    refine wl_nil ?_
    refine wq_seq ?_
    refine wc_seq ?_
    refine wc_region ?_
    refine wl_val (r_move rfl) (ltn rfl) ?_
    refine wl_val (r_move rfl) (ltn rfl) ?_
    refine wl_val (r_nil rfl) (ltn rfl) ?_
    refine wl_val ((by first | exact r_field0 0 Try.underlying72 rfl rfl Try.sizeOf70 (by decide) rfl | exact r_field 0 Try.underlying72 rfl rfl Try.sizeOf70 (by decide) rfl)) (ltn rfl) ?_
    refine wl_val ((by first | exact r_field0 0 Try.underlying70 rfl rfl Try.sizeOf43 (by decide) rfl | exact r_field 0 Try.underlying70 rfl rfl Try.sizeOf43 (by decide) rfl)) (ltn rfl) ?_
    refine wl_val (r_load (plain_of Try.underlying43 rfl) rfl (cell_of_blk (HU).get.2 rfl)) (ltn rfl) ?_
    refine wl_val (r_move rfl) (ltn rfl) ?_
    refine wl_val (r_sliceS ((HU.f2).row_rd) Try.underlying43 Try.sizeOf39 rfl rfl rfl (by omega)) (ltn rfl) ?_
    refine wl_val (r_nil rfl) (ltn rfl) ?_
    refine wl_val ((by first | exact r_field0 0 Try.underlying72 rfl rfl Try.sizeOf70 (by decide) rfl | exact r_field 0 Try.underlying72 rfl rfl Try.sizeOf70 (by decide) rfl)) (ltn rfl) ?_
    refine wl_val ((by first | exact r_field0 0 Try.underlying70 rfl rfl Try.sizeOf43 (by decide) rfl | exact r_field 0 Try.underlying70 rfl rfl Try.sizeOf43 (by decide) rfl)) (ltn rfl) ?_
    refine wl_eff0 (e_storeL 0 (l' := [_, _, _, _, _]) HU Try.sizeOf43 rfl rfl (by first | rfl | exact Rd.one (Rd.upto1 ((HU.f2).row_rd) (by omega))) rfl rfl) ?_
    rintro _ w10 H10
    refine wl_nil ?_
    refine wq_seq ?_
    refine wc_seq ?_
    refine wc_region ?_
    refine wl_val (r_move rfl) (ltn rfl) ?_
    refine wl_val (r_nil rfl) (ltn rfl) ?_
    refine wl_val ((by first | exact r_field0 0 Try.underlying72 rfl rfl Try.sizeOf70 (by decide) rfl | exact r_field 0 Try.underlying72 rfl rfl Try.sizeOf70 (by decide) rfl)) (ltn rfl) ?_
    refine wl_val ((by first | exact r_field0 3 Try.underlying70 rfl rfl Try.sizeOf3 (by decide) rfl | exact r_field 3 Try.underlying70 rfl rfl Try.sizeOf3 (by decide) rfl)) (ltn rfl) ?_
    refine wl_val (r_load (plain_of Try.underlying3 rfl) rfl (cell_of_blk (H10).get.2 rfl)) (ltn rfl) ?_
    refine wl_val (r_move rfl) (ltn rfl) ?_
    refine wl_val (r_lenS ((H10.f4).elK_rd) Try.underlying39 rfl) (ltn rfl) ?_
    refine wl_val (r_sub rfl rfl (by omega)) (ltn rfl) ?_
    refine wl_val (r_nil rfl) (ltn rfl) ?_
    refine wl_val ((by first | exact r_field0 0 Try.underlying72 rfl rfl Try.sizeOf70 (by decide) rfl | exact r_field 0 Try.underlying72 rfl rfl Try.sizeOf70 (by decide) rfl)) (ltn rfl) ?_
    refine wl_val ((by first | exact r_field0 3 Try.underlying70 rfl rfl Try.sizeOf3 (by decide) rfl | exact r_field 3 Try.underlying70 rfl rfl Try.sizeOf3 (by decide) rfl)) (ltn rfl) ?_
    refine wl_eff0 (e_storeL 3 (l' := [_, _, _, _, _]) H10 Try.sizeOf3 rfl rfl (by first | rfl | assumption) rfl rfl) ?_
    rintro _ w11 H11
    refine wl_nil ?_
    refine wq_seq ?_
    refine wc_seq ?_
    refine wc_region ?_
    refine wl_val (r_move rfl) (ltn rfl) ?_
    refine wl_eff (e_call (r_call rfl Try.func56 rfl rfl) (undo_inverses_ret H11.f4 hEB hl3)) (ltn rfl) ?_
    rintro u12 w12 ⟨fs12, hfs12, H12⟩
    refine wl_val (r_assign rfl) (ltn rfl) ?_
    refine wl_val (r_assign rfl) (ltn rfl) ?_
    refine wl_nil ?_
    refine wq_seq ?_
    refine wc_ret ?_
    refine wq_end2 (.inl rfl) Try.results33 rfl rfl ?_
    simp only [if_neg hGN]
    have hdl : (closeG G N).dropLast = hs.map (fun g => g.2.map BEd.says) := by rw [hG]; simp
    have hlast : (closeG G N).getLastD [] = ges.map BEd.says := by rw [hG]; simp
    have hX := (H12.f3.right.f6.f6.f5.f5.f5.f6).row_cut0 (h := hs.length) (by omega)
    rw [hdl, hlast]
    rw [Nat.mul_one, List.take_left' (by simp), show (((hs.length + 1 : Nat) : Int) - 1).toNat = hs.length from by omega, show Int.toNat 0 = 0 from rfl] at hX
    have hT : uTot (closeG G N) [] = uTot (hs.map (fun g => g.2.map BEd.says)) [] + ges.length := by rw [hG, uTot_snoc, List.length_map]
    have hok2 : UOk (hs.map (fun g => g.2.map BEd.says)) [] 0 := ⟨fun g hg => hok.1 g (by rw [hG]; exact List.mem_append_left _ hg), by omega, by decide, by decide, fun g hg => hok.2.2.2.2.1 g (by rw [hG]; exact List.mem_append_left _ hg), by simp⟩
    refine ⟨_, _, rfl, (by assumption), ?_⟩
    have hU := Holds.mk_ulist (gv := cutV 1 0 hs.length (.slice (some ⟨bgv, ogv, none⟩) (hs.length + 1) cgv)) (nv := nv) (gs := hs) (now := []) (ed := (uTot (closeG G N) [] : Nat) - (ges.length : Int)) (F := Row 24 3 u12 fs12.length (fs12.flatMap BEd.enc) • edsK fs12 • F) hok2 rfl rfl (by omega) (hX.of_eq (by unfold EdLL; ac_rfl))
    exact hU.of_eq (by ac_rfl)
end
end Go.Proofs.Ytaabgcfeghcmnaa
