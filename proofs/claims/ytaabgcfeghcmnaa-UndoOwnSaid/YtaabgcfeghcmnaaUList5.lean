/- Lists of edits that are taken back: End; copies. -/
import Derived.Test.YtaabgcfeghcmnaaUList4
set_option linter.unusedSimpArgs false
set_option linter.unusedVariables false
namespace Go.Proofs.Ytaabgcfeghcmnaa
open Go.RowKit
def endE (op : Int) : Int := if op = 0 then 1 else 0
def endG (G : List (List EdA)) (N : List EdA) (op : Int) : List (List EdA) := if op = 1 then closeG G N else G
def endN (N : List EdA) (op : Int) : List EdA := if op = 1 then [] else N
def endO (op : Int) : Int := if op = 0 then 0 else op - 1
theorem take_says {es : List BEd} {k : Nat} (hk : k < es.length) : (es.take (k + 1)).map BEd.says = (es.take k).map BEd.says ++ [(es.getD k default).says] := by
  rw [List.take_succ_eq_append_getElem hk, List.map_append, List.getD_eq_getElem?_getD, List.getElem?_eq_getElem hk]
  rfl
section
variable {w0 w : World} {F : HP} {p : Nat} {G : List (List EdA)} {N : List EdA} {op : Int} {gv nv v : Value} {gs : List (Value × List BEd)} {now es : List BEd} {a : Int} {d z : Value} {dl il : List Int}
theorem undo_end_ret (H : Holds w0 w (UList p G N op • F)) : Ret Try.prog 29 #[.pointer (some ⟨p, 0, none⟩)] w fun v w' => v = .int .i64 (endE op) ∧ Holds w0 w' (UList p (endG G N op) (endN N op) (endO op) • F) := by
  unfold endE endG endN endO
  refine ret_enter Try.func29 rfl Try.ntmps29 (Nat.le_of_ble_eq_true rfl) ?_
  dsimp only [slots0, Nat.reduceAdd]
  refine wc_seq ?_
  refine wc_region ?_
  refine wl_val (r_assign rfl) (ltn rfl) ?_
  refine wl_nil ?_
  refine wq_seq ?_
  refine wc_seq ?_
  refine wc_seq ?_
  refine wc_region ?_
  refine wl_val (r_move rfl) (ltn rfl) ?_
  refine wl_eff (e_call (r_call rfl Try.func51 rfl rfl) (undo_none_ret H)) (ltn rfl) ?_
  rintro _ _ ⟨rfl, rfl⟩
  refine wl_nil ?_
  refine wq_seq ?_
  refine wc_cond_f rfl ?_
  refine wc_skip ?_
  refine wq_seq ?_
  refine wc_seq ?_
  refine wc_seq ?_
  obtain ⟨gv_p, nv_p, gs_p, now_p, k1_p, k2_p, k3_p, k4_p, k5_p, k6_p, HU_p⟩ := (H).ulist
  have hop := k1_p.2.2.1
  have hop2 := k1_p.2.2.2.1
  refine wc_region ?_
  refine wl_val (r_move rfl) (ltn rfl) ?_
  refine wl_val (r_nil rfl) (ltn rfl) ?_
  refine wl_val ((by first | exact r_field0 0 Try.underlying72 rfl rfl Try.sizeOf70 (by decide) rfl | exact r_field 0 Try.underlying72 rfl rfl Try.sizeOf70 (by decide) rfl)) (ltn rfl) ?_
  refine wl_val ((by first | exact r_field0 2 Try.underlying70 rfl rfl Try.sizeOf3 (by decide) rfl | exact r_field 2 Try.underlying70 rfl rfl Try.sizeOf3 (by decide) rfl)) (ltn rfl) ?_
  refine wl_val (r_load (plain_of Try.underlying3 rfl) rfl (cell_of_blk (HU_p).get.2 rfl)) (ltn rfl) ?_
  refine wl_val (r_eql rfl rfl) (ltn rfl) ?_
  refine wl_nil ?_
  refine wq_seq ?_
  refine wc_cond rfl (fun h1 => ?_) (fun h1 => ?_)
  · (try simp only [beq_iff_eq, bne_iff_ne, ne_eq, decide_eq_true_eq, decide_eq_false_iff_not, beq_eq_false_iff_ne, bne_eq_false_iff_eq, Bool.not_eq_true', Bool.not_eq_false', Bool.not_eq_eq_eq_not, Bool.not_true, Bool.not_false, gt_iff_lt, ge_iff_le, Int.not_lt, Int.not_le] at h1)
    have h0 : op = 0 := by omega
    refine wc_seq ?_
    refine wc_region ?_
    refine wl_val (r_assign rfl) (ltn rfl) ?_
    refine wl_nil ?_
    refine wq_seq ?_
    refine wc_ret ?_
    refine wq_then_ret ?_
    refine wq_end1 (.inl rfl) Try.results29 rfl ?_
    have Ho4 := HU_p.f5.f5.f5.f5.f5
    have Hc5 := Holds.mk_ulistF k1_p k2_p k3_p rfl Ho4
    subst h0
    exact ⟨rfl, Hc5⟩
  · (try simp only [beq_iff_eq, bne_iff_ne, ne_eq, decide_eq_true_eq, decide_eq_false_iff_not, beq_eq_false_iff_ne, bne_eq_false_iff_eq, Bool.not_eq_true', Bool.not_eq_false', Bool.not_eq_eq_eq_not, Bool.not_true, Bool.not_false, gt_iff_lt, ge_iff_le, Int.not_lt, Int.not_le] at h1)
    have h0 : ¬ op = 0 := by omega
    refine wc_skip ?_
    refine wq_seq ?_
    refine wc_seq ?_
    refine wc_seq ?_
    refine wc_region ?_
    refine wl_val (r_move rfl) (ltn rfl) ?_
    refine wl_val (r_nil rfl) (ltn rfl) ?_
    refine wl_val ((by first | exact r_field0 0 Try.underlying72 rfl rfl Try.sizeOf70 (by decide) rfl | exact r_field 0 Try.underlying72 rfl rfl Try.sizeOf70 (by decide) rfl)) (ltn rfl) ?_
    refine wl_val ((by first | exact r_field0 2 Try.underlying70 rfl rfl Try.sizeOf3 (by decide) rfl | exact r_field 2 Try.underlying70 rfl rfl Try.sizeOf3 (by decide) rfl)) (ltn rfl) ?_
    refine wl_val (r_load (plain_of Try.underlying3 rfl) rfl (cell_of_blk (HU_p).get.2 rfl)) (ltn rfl) ?_
    refine wl_val (r_sub rfl rfl (by omega)) (ltn rfl) ?_
    refine wl_val (r_nil rfl) (ltn rfl) ?_
    refine wl_val ((by first | exact r_field0 0 Try.underlying72 rfl rfl Try.sizeOf70 (by decide) rfl | exact r_field 0 Try.underlying72 rfl rfl Try.sizeOf70 (by decide) rfl)) (ltn rfl) ?_
    refine wl_val ((by first | exact r_field0 2 Try.underlying70 rfl rfl Try.sizeOf3 (by decide) rfl | exact r_field 2 Try.underlying70 rfl rfl Try.sizeOf3 (by decide) rfl)) (ltn rfl) ?_
    refine wl_eff0 (e_storeL 2 (l' := [_, _, _, _, _]) HU_p Try.sizeOf3 rfl rfl (by first | rfl | assumption) rfl rfl) ?_
    rintro _ w6 H6
    refine wl_nil ?_
    refine wq_seq ?_
    refine wc_seq ?_
    refine wc_region ?_
    refine wl_val (r_move rfl) (ltn rfl) ?_
    refine wl_val (r_nil rfl) (ltn rfl) ?_
    refine wl_val ((by first | exact r_field0 0 Try.underlying72 rfl rfl Try.sizeOf70 (by decide) rfl | exact r_field 0 Try.underlying72 rfl rfl Try.sizeOf70 (by decide) rfl)) (ltn rfl) ?_
    refine wl_val ((by first | exact r_field0 2 Try.underlying70 rfl rfl Try.sizeOf3 (by decide) rfl | exact r_field 2 Try.underlying70 rfl rfl Try.sizeOf3 (by decide) rfl)) (ltn rfl) ?_
    refine wl_val (r_load (plain_of Try.underlying3 rfl) rfl (cell_of_blk (H6).get.2 rfl)) (ltn rfl) ?_
    refine wl_val (r_eql rfl rfl) (ltn rfl) ?_
    refine wl_nil ?_
    refine wq_seq ?_
    refine wc_cond rfl (fun h2 => ?_) (fun h2 => ?_)
    · (try simp only [beq_iff_eq, bne_iff_ne, ne_eq, decide_eq_true_eq, decide_eq_false_iff_not, beq_eq_false_iff_ne, bne_eq_false_iff_eq, Bool.not_eq_true', Bool.not_eq_false', Bool.not_eq_eq_eq_not, Bool.not_true, Bool.not_false, gt_iff_lt, ge_iff_le, Int.not_lt, Int.not_le] at h2)
      have h1 : op = 1 := by omega
      have Ho7 := H6.f5.f5.f5.f5.f5
      have Hc8 := Holds.mk_ulistF (op := op - 1) ⟨k1_p.1, k1_p.2.1, by omega, by omega, k1_p.2.2.2.2⟩ k2_p k3_p rfl Ho7
      refine wc_region ?_
      refine wl_val (r_move rfl) (ltn rfl) ?_
      refine wl_eff (e_call (r_call rfl Try.func55 rfl rfl) (undo_close_ret Hc8)) (ltn rfl) ?_
      rintro _ w9 H9
      refine wl_nil ?_
      refine wq_seq ?_
      refine wc_seq ?_
      refine wc_region ?_
      refine wl_val (r_assign rfl) (ltn rfl) ?_
      refine wl_nil ?_
      refine wq_seq ?_
      refine wc_ret ?_
      refine wq_end1 (.inl rfl) Try.results29 rfl ?_
      subst h1
      exact ⟨rfl, H9⟩
    · (try simp only [beq_iff_eq, bne_iff_ne, ne_eq, decide_eq_true_eq, decide_eq_false_iff_not, beq_eq_false_iff_ne, bne_eq_false_iff_eq, Bool.not_eq_true', Bool.not_eq_false', Bool.not_eq_eq_eq_not, Bool.not_true, Bool.not_false, gt_iff_lt, ge_iff_le, Int.not_lt, Int.not_le] at h2)
      have h1 : ¬ op = 1 := by omega
      refine wc_skip ?_
      refine wq_seq ?_
      refine wc_seq ?_
      refine wc_region ?_
      refine wl_val (r_assign rfl) (ltn rfl) ?_
      refine wl_nil ?_
      refine wq_seq ?_
      refine wc_ret ?_
      refine wq_end1 (.inl rfl) Try.results29 rfl ?_
      rw [if_neg h0, if_neg h1, if_neg h1, if_neg h0]
      exact ⟨rfl, Holds.mk_ulistF ⟨k1_p.1, k1_p.2.1, by omega, by omega, k1_p.2.2.2.2⟩ k2_p k3_p rfl H6.f5.f5.f5.f5.f5⟩
theorem copied_any (H : Holds w0 w F) (hv : FRd w0 F 3 v es.length (es.flatMap BEd.enc)) (he : ∀ k, k < es.length → FRdI w0 F .i32 (es.getD k default).d (es.getD k default).dl ∧ FRdI w0 F .i32 (es.getD k default).i (es.getD k default).il)
    (hB : ∀ k, k < es.length → EB (es.getD k default).says) (hL : es.length ≤ 16384) :
    Ret Try.prog 52 #[v] w fun v' w' => ∃ fs : List BEd, fs.map BEd.says = es.map BEd.says ∧ Holds w0 w' (Row 24 3 v' fs.length (fs.flatMap BEd.enc) • edsK fs • F) := by
  refine ret_enter Try.func52 rfl Try.ntmps52 (Nat.le_of_ble_eq_true rfl) ?_
  dsimp only [slots0, Nat.reduceAdd]
  refine wc_seq ?_
  refine wc_region ?_
  refine wl_val (r_assign rfl) (ltn rfl) ?_
  refine wl_nil ?_
  refine wq_seq ?_
  refine wc_seq ?_
  refine wc_region ?_
  refine wl_val (r_assign rfl) (ltn rfl) ?_
  refine wl_nil ?_
  refine wq_seq ?_
  refine wc_seq ?_
  refine wc_seq ?_
  refine wc_region ?_
  refine wl_val (r_move rfl) (ltn rfl) ?_
  refine wl_val (r_lenS (hv _ (H)) Try.underlying39 rfl) (ltn rfl) ?_
  refine wl_val (r_move rfl) (ltn rfl) ?_
  refine wl_nil ?_
  refine wq_seq ?_
  refine wc_block ?_
  refine wc_loop [(6, _), (7, _)] (fun (⟨k, u⟩ : Nat × Value) => [(3, u), (8, .int .i64 (k : Int))]) (fun (⟨k, u⟩ : Nat × Value) W => k ≤ es.length ∧ ∃ fs : List BEd, fs.map BEd.says = (es.take k).map BEd.says ∧ Holds w0 W (Row 24 3 u fs.length (fs.flatMap BEd.enc) • edsK fs • F)) (fun (⟨k, u⟩ : Nat × Value) => es.length - k) ((0, .slice none 0 0)) (Sub.cons rfl (Sub.cons rfl (Sub.nil _))) (Sub.cons rfl (Sub.cons rfl (Sub.nil _))) ⟨by omega, [], rfl, (H.edL_nil none).edL⟩ ?_
  rintro ⟨k, u⟩ w1 ⟨hk, fs, hfs, HL⟩
  dsimp only [List.cons_append, List.nil_append]
  refine wc_seq ?_
  refine wc_region ?_
  refine wl_val (r_lss rfl rfl) (ltn rfl) ?_
  refine wl_nil ?_
  refine wq_seq ?_
  refine wc_seq ?_
  refine wc_cond rfl (fun h1 => ?_) (fun h1 => ?_)
  · (try simp only [beq_iff_eq, bne_iff_ne, ne_eq, decide_eq_true_eq, decide_eq_false_iff_not, beq_eq_false_iff_ne, bne_eq_false_iff_eq, Bool.not_eq_true', Bool.not_eq_false', Bool.not_eq_eq_eq_not, Bool.not_true, Bool.not_false, gt_iff_lt, ge_iff_le, Int.not_lt, Int.not_le] at h1)
    try (exfalso; first | contradiction | omega)
    all_goals
      
      refine wc_skip ?_
      refine wq_seq ?_
      refine wc_seq ?_
      refine wc_block ?_
      refine wc_seq ?_
      refine wc_region ?_
      obtain ⟨bv, ov, cv, ev⟩ := Rd.posV (hv _ (HL.right.right)) (by omega)
      cases ev
      refine wl_val (r_index Try.underlying39 Try.sizeOf24 rfl rfl (by omega)) (ltn rfl) ?_
      refine wl_val (r_load_elem (ys := [_, _, _]) (hv _ (HL.right.right)) (by omega) Try.underlying24 rfl Try.sizeOf24 rfl (flat_elem BEd.enc_len (by omega) default) rfl) (ltn rfl) ?_
      have hkl : k < es.length := by omega
      obtain ⟨f1, f2⟩ := he k hkl
      obtain ⟨hb1, hb2⟩ := hB k hkl
      have hb1 : (es.getD k default).dl.length ≤ 35184372087808 := hb1
      have hb2 : (es.getD k default).il.length ≤ 35184372087808 := hb2
      have hfl : fs.length = k := by have h9 := congrArg List.length hfs; simp at h9; omega
      refine wl_eff (e_allocL (l := [_, _, _]) HL Try.zeroValue24 rfl) (ltn rfl) ?_
      rintro _ w2 ⟨b2, rfl, H2⟩
      refine wl_eff0 (e_storePL 0 (l' := [_, _, _]) (us := [_, _, _]) H2 Try.sizeOf24 rfl rfl rfl (ones_cons (by first | rfl | assumption) (ones_cons (by first | rfl | exact Rd.one (f1 _ (H2.right.right.right))) (ones_cons (by first | rfl | exact Rd.one (f2 _ (H2.right.right.right))) ones_nil))) rfl rfl) ?_
      rintro _ w3 H3
      refine wl_nil ?_
      refine wq_seq ?_
      refine wc_region ?_
      refine wl_val (r_move rfl) (ltn rfl) ?_
      refine wl_val (r_load_whole Try.underlying24 rfl Try.sizeOf24 rfl rfl (H3).get.2) (ltn rfl) ?_
      refine wl_eff (e_call (r_call rfl Try.func50 rfl rfl) (undo_own_ret H3 (fun W HW => f1 _ (HW.right.right.right)) (fun W HW => f2 _ (HW.right.right.right)) (by omega) (by omega))) (ltn rfl) ?_
      rintro _ w4 ⟨d4, s4, rfl, H4⟩
      refine wl_eff (e_lit_one H4 Try.underlying39 Try.sizeOf24 Try.zeroValue24 rfl rfl rfl (by decide) (by decide)) (ltn rfl) ?_
      rintro l5 w5 H5
      refine wl_eff (e_append H5.f5 Try.underlying39 (show (Try.prog.info? 24).map (fun i => (i.zero, i.size, i.bytes)) = some (some (.agg #[.int .i64 0, .slice none 0 0, .slice none 0 0]), 3, 56) by kernel_rfl) rfl rfl rfl ((H5).row_rd) (ones_cons (by first | rfl | assumption) (ones_cons (by first | rfl | exact Rd.one ((H5.f2).row_rd)) (ones_cons (by first | rfl | exact Rd.one ((H5.f3).row_rd)) ones_nil))) (by omega) (by omega)) (ltn rfl) ?_
      rintro l6 w6 H6
      have Hd7 := H6.f2.right
      refine wl_val (r_assign rfl) (ltn rfl) ?_
      refine wl_nil ?_
      refine wq_block_normal ?_
      refine wq_seq ?_
      refine wc_region ?_
      refine wl_val (r_add rfl rfl (by omega)) (ltn rfl) ?_
      refine wl_val (r_move rfl) (ltn rfl) ?_
      refine wl_nil ?_
      refine wq_round ((k + 1, l6)) ?_ ?_ ?_ ?_
      · exact (Sub.cons rfl (Sub.cons rfl (Sub.nil _)))
      · exact (Sub.cons rfl (Sub.cons rfl (Sub.nil _)))
      · (try dsimp only)
        exact ⟨by omega, _, by rw [List.map_append, hfs, take_says (by omega)]; rfl, (Holds.edL_snoc (Hd7.f4.right.f4.f2.f4.f4).freezeI.swap.freezeI.swap.f3).edL⟩
      · (try dsimp only); omega
  · (try simp only [beq_iff_eq, bne_iff_ne, ne_eq, decide_eq_true_eq, decide_eq_false_iff_not, beq_eq_false_iff_ne, bne_eq_false_iff_eq, Bool.not_eq_true', Bool.not_eq_false', Bool.not_eq_eq_eq_not, Bool.not_true, Bool.not_false, gt_iff_lt, ge_iff_le, Int.not_lt, Int.not_le] at h1)
    try (exfalso; first | contradiction | omega)
    all_goals
      
      refine wc_exit ?_
      refine wq_then_exit ?_
      refine wq_then_exit ?_
      refine wq_block_hit ?_
      refine wq_seq ?_
      refine wc_seq ?_
      refine wc_region ?_
      refine wl_val (r_move rfl) (ltn rfl) ?_
      refine wl_val (r_assign rfl) (ltn rfl) ?_
      refine wl_nil ?_
      refine wq_seq ?_
      refine wc_ret ?_
      refine wq_end1 (.inl rfl) Try.results52 rfl ?_
      rw [List.take_of_length_le (by omega)] at hfs
      exact ⟨_, hfs, HL.f2.f2⟩
theorem Holds.edsK_ii {es : List BEd} (H : Holds w0 w (edsK es • F)) {k : Nat} (hk : k < es.length) : RdI w .i32 (es.getD k default).d (es.getD k default).dl ∧ RdI w .i32 (es.getD k default).i (es.getD k default).il := let ⟨I, h, hI⟩ := H.of_know; ⟨(h k hk).1.rd hI, (h k hk).2.rd hI⟩
theorem copied_row_ret (H : Holds w0 w (Row 24 3 v es.length (es.flatMap BEd.enc) • edsK es • F)) (hB : ∀ k, k < es.length → EB (es.getD k default).says) (hL : es.length ≤ 16384) :
    Ret Try.prog 52 #[v] w fun v' w' => ∃ fs : List BEd, fs.map BEd.says = es.map BEd.says ∧ Holds w0 w' (Row 24 3 v' fs.length (fs.flatMap BEd.enc) • edsK fs • Row 24 3 v es.length (es.flatMap BEd.enc) • edsK es • F) :=
  copied_any H (fun W HW => HW.row_rd) (fun k hk => ⟨fun W HW => (HW.right.edsK_ii hk).1, fun W HW => (HW.right.edsK_ii hk).2⟩) hB hL
theorem copied_el_ret (H : Holds w0 w (elK v es • F)) (hB : ∀ k, k < es.length → EB (es.getD k default).says) (hL : es.length ≤ 16384) :
    Ret Try.prog 52 #[v] w fun v' w' => ∃ fs : List BEd, fs.map BEd.says = es.map BEd.says ∧ Holds w0 w' (Row 24 3 v' fs.length (fs.flatMap BEd.enc) • edsK fs • elK v es • F) :=
  copied_any H (fun W HW => HW.elK_rd) (fun k hk => ⟨fun W HW => HW.elK_d hk, fun W HW => HW.elK_i hk⟩) hB hL
end
end Go.Proofs.Ytaabgcfeghcmnaa
