/- UcellStream, walked. -/
import Derived.Test.YtmkmffoadapmnaaDoorULive
set_option linter.unusedSimpArgs false
set_option linter.unusedVariables false
namespace Go.Proofs.YtmkmffoadapmnaaDoor
open Go.RowKit
theorem flat_snoc {ls : List (List Int)} {k : Nat} (h : k < ls.length) : (ls.take (k + 1)).flatten = (ls.take k).flatten ++ ls.getD k [] := by
  rw [List.take_succ_eq_append_getElem h, List.flatten_append, List.getD_eq_getElem?_getD, List.getElem?_eq_getElem h]
  simp
theorem flat_take_le (ls : List (List Int)) (k : Nat) : ((ls.take k).flatten).length ≤ (ls.map List.length).sum := by
  have h : ls.flatten = (ls.take k).flatten ++ (ls.drop k).flatten := by rw [← List.flatten_append, List.take_append_drop]
  have h2 := congrArg List.length h
  rw [List.length_append, List.length_flatten] at h2
  omega
theorem byts_flat {ls : List (List Int)} (h : ∀ k, k < ls.length → Byts (ls.getD k [])) : Byts ls.flatten := fun x hx => by
  obtain ⟨l, hl, hx⟩ := List.mem_flatten.1 hx
  obtain ⟨k, hk, rfl⟩ := List.getElem_of_mem hl
  have := h k hk
  rw [List.getD_eq_getElem?_getD, List.getElem?_eq_getElem hk] at this
  exact this x hx
theorem sbyts_two {h b : List Int} (hh : Byts h) (hb : Byts b) : Byts (h ++ b) := fun x hx => by rcases List.mem_append.1 hx with hx | hx; exact hh x hx; exact hb x hx
theorem ucell_stream {w : World} {v : Value} {vs : List Value} {ls : List (List Int)} (hT : Tabs w) (hU : UTabs w) (g2 : Rd w 1 v ls.length vs) (g3 : ∀ k, k < ls.length → RdI w .u8 (vs.getD k undef) (ls.getD k []) ∧ Byts (ls.getD k []))
    (hS : (ls.map List.length).sum ≤ 1048576) :
    Ret Tryd.prog 7 #[v] w fun v w' => v = .bool true ∧ Below w.heap.size w w' := by
  obtain ⟨F, H⟩ : ∃ F, Holds w w F := ⟨_, Holds.start w⟩
  have hv : FRd w F 1 v ls.length vs := FRd.of_start g2 F
  have hls : ∀ k, k < ls.length → FRdI w F .u8 (vs.getD k undef) (ls.getD k []) := fun k hk => FRdI.of_start (g3 k hk).1 F
  have hall := byts_flat fun k hk => (g3 k hk).2
  obtain ⟨-, _, cv, -, hcv1, hcv2, -⟩ := g2
  refine ret_enter Tryd.func7 rfl Tryd.ntmps7 (Nat.le_of_ble_eq_true rfl) ?_
  dsimp only [slots0, Nat.reduceAdd]
  refine wc_seq ?_
  refine wc_region ?_
  refine wl_val (r_assign rfl) (ltn rfl) ?_
  refine wl_nil ?_
  refine wq_seq ?_
  refine wc_seq ?_
  refine wc_region ?_
  refine wl_eff (e_call (r_call rfl Tryd.func20 rfl rfl) (dec_new_ret H)) (ltn rfl) ?_
  rintro _ w1 ⟨p1, rfl, H1⟩
  refine wl_val (r_assign rfl) (ltn rfl) ?_
  refine wl_nil ?_
  refine wq_seq ?_
  refine wc_seq ?_
  refine wc_seq ?_
  refine wc_region ?_
  refine wl_val (r_move rfl) (ltn rfl) ?_
  refine wl_val (r_ptr_nil Tryd.underlying36 rfl rfl) (ltn rfl) ?_
  refine wl_split rfl (ltn rfl) (fun h => by exfalso; (try simp only [beq_iff_eq, bne_iff_ne, ne_eq, decide_eq_true_eq, decide_eq_false_iff_not, beq_eq_false_iff_ne, bne_eq_false_iff_eq, Bool.not_eq_true', Bool.not_eq_false', Bool.not_eq_eq_eq_not, Bool.not_true, Bool.not_false, gt_iff_lt, ge_iff_le, Int.not_lt, Int.not_le] at h); simp at h) (fun h1 => ?_)
  (try simp only [beq_iff_eq, bne_iff_ne, ne_eq, decide_eq_true_eq, decide_eq_false_iff_not, beq_eq_false_iff_ne, bne_eq_false_iff_eq, Bool.not_eq_true', Bool.not_eq_false', Bool.not_eq_eq_eq_not, Bool.not_true, Bool.not_false, gt_iff_lt, ge_iff_le, Int.not_lt, Int.not_le] at h1)
  refine wl_yes rfl rfl ?_
  refine wl_eff (e_call (r_call rfl Tryd.func13 rfl rfl) (ulive_ret H1 hT hU)) (ltn rfl) ?_
  rintro _ w2 ⟨rfl, H2⟩
  refine wl_yes rfl rfl ?_
  refine wl_val (r_not rfl) (ltn rfl) ?_
  refine wl_val (r_pick_f rfl rfl) (ltn rfl) ?_
  refine wl_nil ?_
  refine wq_seq ?_
  refine wc_cond rfl (fun h => by exfalso; (try simp only [beq_iff_eq, bne_iff_ne, ne_eq, decide_eq_true_eq, decide_eq_false_iff_not, beq_eq_false_iff_ne, bne_eq_false_iff_eq, Bool.not_eq_true', Bool.not_eq_false', Bool.not_eq_eq_eq_not, Bool.not_true, Bool.not_false, gt_iff_lt, ge_iff_le, Int.not_lt, Int.not_le] at h); simp at h) (fun h2 => ?_)
  (try simp only [beq_iff_eq, bne_iff_ne, ne_eq, decide_eq_true_eq, decide_eq_false_iff_not, beq_eq_false_iff_ne, bne_eq_false_iff_eq, Bool.not_eq_true', Bool.not_eq_false', Bool.not_eq_eq_eq_not, Bool.not_true, Bool.not_false, gt_iff_lt, ge_iff_le, Int.not_lt, Int.not_le] at h2)
  refine wc_skip ?_
  refine wq_seq ?_
  refine wc_seq ?_
  refine wc_region ?_
  refine wl_val (r_assign rfl) (ltn rfl) ?_
  refine wl_nil ?_
  refine wq_seq ?_
  refine wc_seq ?_
  refine wc_region ?_
  refine wl_val (r_assign rfl) (ltn rfl) ?_
  refine wl_nil ?_
  refine wq_seq ?_
  refine wc_seq ?_
  refine wc_seq ?_
  refine wc_region ?_
  refine wl_val (r_move rfl) (ltn rfl) ?_
  refine wl_val (r_lenS (hv _ (H2.right)) Tryd.underlying34 rfl) (ltn rfl) ?_
  refine wl_val (r_move rfl) (ltn rfl) ?_
  refine wl_nil ?_
  refine wq_seq ?_
  refine wc_block ?_
  refine wc_loop [(3, _), (15, _), (16, _)] (fun (⟨k, av, gv⟩ : Nat × Value × Value) => [(17, .int .i64 (k : Int)), (4, av), (5, gv)]) (fun (⟨k, av, gv⟩ : Nat × Value × Value) W => ∃ h gl, (k ≤ ls.length ∧ Byts h ∧ h.length ≤ 3 ∧ gl.length ≤ 1048576 ∧ ∀ X, runesM ((ls.take k).flatten ++ X) = gl ++ runesM (h ++ X)) ∧ Holds w W (RowI 5 .u8 av (ls.take k).flatten • RowI 21 .i32 gv gl • DecRep p1 h • F)) (fun (⟨k, av, gv⟩ : Nat × Value × Value) => ls.length - k) ((0, .slice none 0 0, .slice none 0 0)) (Sub.cons rfl (Sub.cons rfl (Sub.cons rfl (Sub.nil _)))) (Sub.cons rfl (Sub.cons rfl (Sub.cons rfl (Sub.nil _)))) ⟨[], [], ⟨by omega, by unfold Byts; simp, by decide, by decide, fun X => rfl⟩, (((H2).row_nil none).row_nil none)⟩ ?_
  rintro ⟨k, av, gv⟩ w3 ⟨h, gl, ⟨hk, hh, hh3, hgl, hX⟩, HL⟩
  dsimp only [List.cons_append, List.nil_append]
  refine wc_seq ?_
  refine wc_region ?_
  refine wl_val (r_lss rfl rfl) (ltn rfl) ?_
  refine wl_nil ?_
  refine wq_seq ?_
  refine wc_seq ?_
  refine wc_cond rfl (fun h3 => ?_) (fun h3 => ?_)
  · (try simp only [beq_iff_eq, bne_iff_ne, ne_eq, decide_eq_true_eq, decide_eq_false_iff_not, beq_eq_false_iff_ne, bne_eq_false_iff_eq, Bool.not_eq_true', Bool.not_eq_false', Bool.not_eq_eq_eq_not, Bool.not_true, Bool.not_false, gt_iff_lt, ge_iff_le, Int.not_lt, Int.not_le] at h3)
    
    refine wc_skip ?_
    refine wq_seq ?_
    refine wc_seq ?_
    refine wc_block ?_
    refine wc_seq ?_
    have hkl : k < ls.length := by omega
    have hb := (g3 k hkl).2
    have hhb := sbyts_two hh hb
    have hph := putM_held (h ++ ls.getD k [])
    have hpl := putM_len (h ++ ls.getD k [])
    have hfl := flat_take_le ls (k + 1)
    have hfk := flat_take_le ls k
    have hfe := congrArg List.length (flat_snoc hkl)
    rw [List.length_append] at hfe hpl
    have hX2 : ∀ X, runesM ((ls.take (k + 1)).flatten ++ X) = (gl ++ (putM (h ++ ls.getD k [])).1) ++ runesM ((putM (h ++ ls.getD k [])).2 ++ X) := fun X => by
      rw [flat_snoc hkl, List.append_assoc, hX, ← List.append_assoc h, runes_put, List.append_assoc]
    have hgl2 : (gl ++ (putM (h ++ ls.getD k [])).1).length ≤ 1048576 := by
      have hq := congrArg List.length (hX2 [])
      rw [List.append_nil, List.length_append] at hq
      have := runesM_len (ls.take (k + 1)).flatten
      omega
    refine wc_region ?_
    obtain ⟨bv, ov, cv, ev⟩ := Rd.posV (hv _ (HL.right.right.right)) (by omega)
    cases ev
    refine wl_val (r_index Tryd.underlying34 Tryd.sizeOf39 rfl rfl (by omega)) (ltn rfl) ?_
    refine wl_val (r_load (plain_of Tryd.underlying39 rfl) rfl (by first | exact Rd.at1n (hv _ (HL.right.right.right)) (by omega) | exact Rd.at0 (hv _ (HL.right.right.right)) (by omega) | exact Rd.at1 (hv _ (HL.right.right.right)) (by omega))) (ltn rfl) ?_
    refine wl_gen (fun x20_4 hx20_4 => ?_)
    refine wl_val (r_assign rfl) (ltn rfl) ?_
    refine wl_nil ?_
    refine wq_seq ?_
    refine wc_seq ?_
    refine wc_region ?_
    refine wl_val (r_move rfl) (ltn rfl) ?_
    refine wl_val (r_move rfl) (ltn rfl) ?_
    refine wl_eff (e_append_ints HL ((by rw [hx20_4]; exact hls _ (by omega) _ (HL.right.right.right))) Tryd.underlying39 (show (Tryd.prog.info? 5).map (fun i => (i.zero, i.size, i.bytes)) = some (some (.int .u8 0), 1, 1) by kernel_rfl) rfl rfl (by first | omega | (simp only [List.length_append, List.length_nil, List.length_cons]; omega) | (simp; omega)) (by first | omega | (simp only [List.length_append, List.length_nil, List.length_cons]; omega) | (simp; omega))) (ltn rfl) ?_
    rintro l5 w5 H5
    try simp only [List.nil_append] at H5
    refine wl_val (r_assign rfl) (ltn rfl) ?_
    refine wl_nil ?_
    refine wq_seq ?_
    refine wc_seq ?_
    refine wc_region ?_
    refine wl_val (r_move rfl) (ltn rfl) ?_
    refine wl_val (r_move rfl) (ltn rfl) ?_
    refine wl_val (r_move rfl) (ltn rfl) ?_
    refine wl_eff (e_call (r_call rfl Tryd.func22 rfl rfl) (dec_put_ret H5.f3 (by assumption) (fun W HW => (by rw [hx20_4]; exact hls _ (by omega) _ (HW.right.right))) (by assumption) (by assumption) (by omega))) (ltn rfl) ?_
    rintro u6 w6 H6
    refine wl_eff (e_append_ints H6.f4 ((H6).row_rd) Tryd.underlying22 (show (Tryd.prog.info? 21).map (fun i => (i.zero, i.size, i.bytes)) = some (some (.int .i32 0), 1, 4) by kernel_rfl) rfl rfl (by first | omega | (simp only [List.length_append, List.length_nil, List.length_cons]; omega) | (simp; omega)) (by first | omega | (simp only [List.length_append, List.length_nil, List.length_cons]; omega) | (simp; omega))) (ltn rfl) ?_
    rintro l7 w7 H7
    try simp only [List.nil_append] at H7
    refine wl_val (r_assign rfl) (ltn rfl) ?_
    refine wl_nil ?_
    refine wq_seq ?_
    refine wc_seq ?_
    refine wc_region ?_
    refine wl_val (r_move rfl) (ltn rfl) ?_
    refine wl_eff (e_call (r_call rfl Tryd.func24 rfl rfl) (dec_pending_ret H7.f3)) (ltn rfl) ?_
    rintro _ w8 ⟨rfl, H8⟩
    refine wl_val (r_gtr rfl rfl) (ltn rfl) ?_
    refine wl_nil ?_
    refine wq_seq ?_
    refine wc_cond rfl (fun h => by exfalso; (try simp only [beq_iff_eq, bne_iff_ne, ne_eq, decide_eq_true_eq, decide_eq_false_iff_not, beq_eq_false_iff_ne, bne_eq_false_iff_eq, Bool.not_eq_true', Bool.not_eq_false', Bool.not_eq_eq_eq_not, Bool.not_true, Bool.not_false, gt_iff_lt, ge_iff_le, Int.not_lt, Int.not_le] at h); omega) (fun h4 => ?_)
    (try simp only [beq_iff_eq, bne_iff_ne, ne_eq, decide_eq_true_eq, decide_eq_false_iff_not, beq_eq_false_iff_ne, bne_eq_false_iff_eq, Bool.not_eq_true', Bool.not_eq_false', Bool.not_eq_eq_eq_not, Bool.not_true, Bool.not_false, gt_iff_lt, ge_iff_le, Int.not_lt, Int.not_le] at h4)
    refine wc_skip ?_
    refine wq_block_normal ?_
    refine wq_seq ?_
    refine wc_region ?_
    refine wl_val (r_add rfl rfl (by omega)) (ltn rfl) ?_
    refine wl_val (r_move rfl) (ltn rfl) ?_
    refine wl_nil ?_
    refine wq_round ((k + 1, l5, l7)) ?_ ?_ ?_ ?_
    · exact (Sub.cons rfl (Sub.cons rfl (Sub.cons rfl (Sub.nil _))))
    · exact (Sub.cons rfl (Sub.cons rfl (Sub.cons rfl (Sub.nil _))))
    · (try dsimp only)
      exact ⟨_, gl ++ (putM (h ++ ls.getD k [])).1, ⟨by omega, putM_byts hhb, putM_held _, hgl2, hX2⟩, by rw [flat_snoc hkl]; exact H8.f3.right.f2.f3⟩
    · (try dsimp only); omega
  · (try simp only [beq_iff_eq, bne_iff_ne, ne_eq, decide_eq_true_eq, decide_eq_false_iff_not, beq_eq_false_iff_ne, bne_eq_false_iff_eq, Bool.not_eq_true', Bool.not_eq_false', Bool.not_eq_eq_eq_not, Bool.not_true, Bool.not_false, gt_iff_lt, ge_iff_le, Int.not_lt, Int.not_le] at h3)
    
    refine wc_exit ?_
    refine wq_then_exit ?_
    refine wq_then_exit ?_
    refine wq_block_hit ?_
    refine wq_seq ?_
    refine wc_seq ?_
    obtain rfl : k = ls.length := by omega
    rw [List.take_length] at HL
    have hfin := hX []
    rw [List.take_length, List.append_nil, List.append_nil] at hfin
    have hfl := flat_take_le ls ls.length
    rw [List.take_length] at hfl
    have hrl := runesM_len h
    refine wc_region ?_
    refine wl_val (r_move rfl) (ltn rfl) ?_
    refine wl_val (r_move rfl) (ltn rfl) ?_
    refine wl_eff (e_call (r_call rfl Tryd.func25 rfl rfl) (dec_flush_ret HL.f3 (by assumption) (by assumption) (by omega))) (ltn rfl) ?_
    rintro u9 w9 H9
    refine wl_eff (e_append_ints H9.f4 ((H9).row_rd) Tryd.underlying22 (show (Tryd.prog.info? 21).map (fun i => (i.zero, i.size, i.bytes)) = some (some (.int .i32 0), 1, 4) by kernel_rfl) rfl rfl (by first | omega | (simp only [List.length_append, List.length_nil, List.length_cons]; omega) | (simp; omega)) (by first | omega | (simp only [List.length_append, List.length_nil, List.length_cons]; omega) | (simp; omega))) (ltn rfl) ?_
    rintro l10 w10 H10
    try simp only [List.nil_append] at H10
    refine wl_val (r_assign rfl) (ltn rfl) ?_
    refine wl_nil ?_
    refine wq_seq ?_
    refine wc_seq ?_
    refine wc_region ?_
    refine wl_val (r_move rfl) (ltn rfl) ?_
    refine wl_val (r_move rfl) (ltn rfl) ?_
    refine wl_eff (e_call (r_call rfl Tryd.func27 rfl rfl) (runes_ret H10 (by assumption) (fun W HW => (HW.f4).row_rd) (by assumption) (by omega))) (ltn rfl) ?_
    rintro u11 w11 H11
    refine wl_eff (e_call (r_call rfl Tryd.func21 rfl rfl) (equal_ret _ _ _ _ _ ((H11.f2).row_rd) ((H11).row_rd))) (ltn rfl) ?_
    rintro _ w12 ⟨rfl, hD12⟩
    have HD12 := H11.drewn hD12
    refine wl_split rfl (ltn rfl) (fun h5 => ?_) (fun h => by exfalso; (try simp only [beq_iff_eq, bne_iff_ne, ne_eq, decide_eq_true_eq, decide_eq_false_iff_not, beq_eq_false_iff_ne, bne_eq_false_iff_eq, Bool.not_eq_true', Bool.not_eq_false', Bool.not_eq_eq_eq_not, Bool.not_true, Bool.not_false, gt_iff_lt, ge_iff_le, Int.not_lt, Int.not_le] at h); simp [hfin] at h)
    (try simp only [beq_iff_eq, bne_iff_ne, ne_eq, decide_eq_true_eq, decide_eq_false_iff_not, beq_eq_false_iff_ne, bne_eq_false_iff_eq, Bool.not_eq_true', Bool.not_eq_false', Bool.not_eq_eq_eq_not, Bool.not_true, Bool.not_false, gt_iff_lt, ge_iff_le, Int.not_lt, Int.not_le] at h5)
    refine wl_yes rfl rfl ?_
    refine wl_val (r_move rfl) (ltn rfl) ?_
    refine wl_yes rfl rfl ?_
    refine wl_eff (e_call (r_call rfl Tryd.func24 rfl rfl) (dec_pending_ret HD12.f4)) (ltn rfl) ?_
    rintro _ w13 ⟨rfl, H13⟩
    refine wl_yes rfl rfl ?_
    refine wl_val (r_eql rfl rfl) (ltn rfl) ?_
    refine wl_val (r_known_t (r_pick_t rfl rfl) (by rfl)) (ltn rfl) ?_
    refine wl_val (r_assign rfl) (ltn rfl) ?_
    refine wl_nil ?_
    refine wq_seq ?_
    refine wc_ret ?_
    refine wq_end1 (.inl rfl) Tryd.results7 rfl ?_
    exact ⟨rfl, H13.base⟩
end Go.Proofs.YtmkmffoadapmnaaDoor
