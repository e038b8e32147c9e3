/- UcellPieces, walked. -/
import Derived.Test.YtmkmffoadapmnaaDoorULive
set_option linter.unusedSimpArgs false
set_option linter.unusedVariables false
namespace Go.Proofs.YtmkmffoadapmnaaDoor
open Go.RowKit
section
variable {w0 w : World} {F : HP} {v rv : Value} {h b : List Int} {p : Nat}
theorem rdec_put_o (H : Holds w0 w (blk p (.cells #[rv] 41 (0, 0)) • RowI 5 .u8 rv h • F)) (hv : FRdI w0 F .u8 v b) (hb : Byts b) (hh : Byts h) (hL : h.length + b.length ≤ 17179869184) :
    Ret Tryd.prog 23 #[.pointer (some ⟨p, 0, none⟩), v] w fun v' w' => ∃ rv', Holds w0 w' (RowI 21 .i32 v' (putM (h ++ b)).1 • blk p (.cells #[rv'] 41 (0, 0)) • RowI 5 .u8 rv' (putM (h ++ b)).2 • F) :=
  (rdec_put_ret (Holds.mk_rdec H) hv hb hh hL).mono fun v w' q => by
    obtain ⟨rv', q2⟩ := q.swap.rdec
    exact ⟨rv', q2.of_eq (by ac_rfl)⟩
theorem rdec_flush_o (H : Holds w0 w (blk p (.cells #[rv] 41 (0, 0)) • RowI 5 .u8 rv b • F)) (hb : Byts b) (hL : b.length ≤ 17179869184) :
    Ret Tryd.prog 26 #[.pointer (some ⟨p, 0, none⟩)] w fun v w' => ∃ rv', Holds w0 w' (RowI 21 .i32 v (runesM b) • blk p (.cells #[rv'] 41 (0, 0)) • RowI 5 .u8 rv' [] • F) :=
  (rdec_flush_ret (Holds.mk_rdec H) hb hL).mono fun v w' q => by
    obtain ⟨rv', q2⟩ := q.swap.rdec
    exact ⟨rv', q2.of_eq (by ac_rfl)⟩
end
theorem bools_at {bs : List Bool} {k : Nat} (h : k < bs.length) : (bs.map Value.bool).getD k undef = .bool (bs.getD k false) := by
  rw [List.getD_eq_getElem?_getD, List.getD_eq_getElem?_getD, List.getElem?_map, List.getElem?_eq_getElem h]; rfl
theorem byts_two {h b : List Int} (hh : Byts h) (hb : Byts b) : Byts (h ++ b) := fun x hx => by rcases List.mem_append.1 hx with hx | hx; exact hh x hx; exact hb x hx
theorem ucell_pieces {w : World} {v t : Value} {vs : List Value} {ls : List (List Int)} {bs : List Bool} (hT : Tabs w) (hU : UTabs w) (g2 : Rd w 1 v ls.length vs) (g3 : ∀ k, k < ls.length → RdI w .u8 (vs.getD k undef) (ls.getD k []) ∧ Byts (ls.getD k []) ∧ (ls.getD k []).length ≤ 4294967296)
    (gb : Rd w 1 t bs.length (bs.map Value.bool)) :
    Ret Tryd.prog 6 #[v, t] w fun v w' => v = .bool true ∧ Below w.heap.size w w' := by
  obtain ⟨F, H⟩ : ∃ F, Holds w w F := ⟨_, Holds.start w⟩
  have hv : FRd w F 1 v ls.length vs := FRd.of_start g2 F
  have ht : FRd w F 1 t bs.length (bs.map Value.bool) := FRd.of_start gb F
  have hls : ∀ k, k < ls.length → FRdI w F .u8 (vs.getD k undef) (ls.getD k []) := fun k hk => FRdI.of_start (g3 k hk).1 F
  obtain ⟨-, _, cv, -, hcv1, hcv2, -⟩ := g2
  refine ret_enter Tryd.func6 rfl Tryd.ntmps6 (Nat.le_of_ble_eq_true rfl) ?_
  dsimp only [slots0, Nat.reduceAdd]
  refine wc_seq ?_
  refine wc_region ?_
  refine wl_val (r_assign rfl) (ltn rfl) ?_
  refine wl_nil ?_
  refine wq_seq ?_
  refine wc_seq ?_
  refine wc_region ?_
  refine wl_eff (e_call (r_call rfl Tryd.func20 rfl rfl) (dec_new_ret H)) (ltn rfl) ?_
  rintro _ w1 ⟨p1, rfl, H1⟩
  refine wl_val (r_assign rfl) (ltn rfl) ?_
  refine wl_nil ?_
  refine wq_seq ?_
  refine wc_seq ?_
  refine wc_region ?_
  refine wl_val (r_build (pl := #[(0, 1)]) (_) Tryd.underlying41 Tryd.zeroValue41 (fun w => by kernel_rfl) rfl (rfl)) (ltn rfl) ?_
  refine wl_eff (e_boxL (l := [_]) H1 rfl rfl) (ltn rfl) ?_
  rintro _ w2 ⟨b2, rfl, H2⟩
  refine wl_val (r_assign rfl) (ltn rfl) ?_
  refine wl_nil ?_
  refine wq_seq ?_
  refine wc_seq ?_
  refine wc_seq ?_
  refine wc_region ?_
  refine wl_val (r_move rfl) (ltn rfl) ?_
  refine wl_val (r_ptr_nil Tryd.underlying36 rfl rfl) (ltn rfl) ?_
  refine wl_split rfl (ltn rfl) (fun h => by exfalso; (try simp only [beq_iff_eq, bne_iff_ne, ne_eq, decide_eq_true_eq, decide_eq_false_iff_not, beq_eq_false_iff_ne, bne_eq_false_iff_eq, Bool.not_eq_true', Bool.not_eq_false', Bool.not_eq_eq_eq_not, Bool.not_true, Bool.not_false, gt_iff_lt, ge_iff_le, Int.not_lt, Int.not_le] at h); simp at h) (fun h1 => ?_)
  (try simp only [beq_iff_eq, bne_iff_ne, ne_eq, decide_eq_true_eq, decide_eq_false_iff_not, beq_eq_false_iff_ne, bne_eq_false_iff_eq, Bool.not_eq_true', Bool.not_eq_false', Bool.not_eq_eq_eq_not, Bool.not_true, Bool.not_false, gt_iff_lt, ge_iff_le, Int.not_lt, Int.not_le] at h1)
  refine wl_yes rfl rfl ?_
  refine wl_eff (e_call (r_call rfl Tryd.func13 rfl rfl) (ulive_ret H2 hT hU)) (ltn rfl) ?_
  rintro _ w3 ⟨rfl, H3⟩
  refine wl_yes rfl rfl ?_
  refine wl_val (r_not rfl) (ltn rfl) ?_
  refine wl_val (r_pick_f rfl rfl) (ltn rfl) ?_
  refine wl_nil ?_
  refine wq_seq ?_
  refine wc_cond rfl (fun h => by exfalso; (try simp only [beq_iff_eq, bne_iff_ne, ne_eq, decide_eq_true_eq, decide_eq_false_iff_not, beq_eq_false_iff_ne, bne_eq_false_iff_eq, Bool.not_eq_true', Bool.not_eq_false', Bool.not_eq_eq_eq_not, Bool.not_true, Bool.not_false, gt_iff_lt, ge_iff_le, Int.not_lt, Int.not_le] at h); simp at h) (fun h2 => ?_)
  (try simp only [beq_iff_eq, bne_iff_ne, ne_eq, decide_eq_true_eq, decide_eq_false_iff_not, beq_eq_false_iff_ne, bne_eq_false_iff_eq, Bool.not_eq_true', Bool.not_eq_false', Bool.not_eq_eq_eq_not, Bool.not_true, Bool.not_false, gt_iff_lt, ge_iff_le, Int.not_lt, Int.not_le] at h2)
  refine wc_skip ?_
  refine wq_seq ?_
  refine wc_seq ?_
  refine wc_seq ?_
  refine wc_region ?_
  refine wl_val (r_move rfl) (ltn rfl) ?_
  refine wl_val (r_lenS (hv _ (H3.right.right)) Tryd.underlying34 rfl) (ltn rfl) ?_
  refine wl_val (r_move rfl) (ltn rfl) ?_
  refine wl_nil ?_
  refine wq_seq ?_
  refine wc_block ?_
  refine wc_loop [(1, _), (5, _), (6, _), (18, _), (19, _)] (fun (k : Nat) => [(20, .int .i64 (k : Int))]) (fun (k : Nat) W => ∃ h rvq, (k ≤ ls.length ∧ Byts h ∧ h.length ≤ 3) ∧ Holds w W (blk b2 (.cells #[rvq] 41 (0, 0)) • RowI 5 .u8 rvq h • DecRep p1 h • F)) (fun (k : Nat) => ls.length - k) (0) (Sub.cons rfl (Sub.cons rfl (Sub.cons rfl (Sub.cons rfl (Sub.cons rfl (Sub.nil _)))))) (Sub.cons rfl (Sub.nil _)) ⟨[], .slice none 0 0, ⟨by omega, by unfold Byts; simp, by decide⟩, ((H3.f2.f2).row_nil none).f2⟩ ?_
  rintro k w4 ⟨h, rvq, ⟨hk, hh, hh3⟩, HL⟩
  dsimp only [List.cons_append, List.nil_append]
  refine wc_seq ?_
  refine wc_region ?_
  refine wl_val (r_lss rfl rfl) (ltn rfl) ?_
  refine wl_nil ?_
  refine wq_seq ?_
  refine wc_seq ?_
  refine wc_cond rfl (fun h3 => ?_) (fun h3 => ?_)
  · (try simp only [beq_iff_eq, bne_iff_ne, ne_eq, decide_eq_true_eq, decide_eq_false_iff_not, beq_eq_false_iff_ne, bne_eq_false_iff_eq, Bool.not_eq_true', Bool.not_eq_false', Bool.not_eq_eq_eq_not, Bool.not_true, Bool.not_false, gt_iff_lt, ge_iff_le, Int.not_lt, Int.not_le] at h3)
    
    refine wc_skip ?_
    refine wq_seq ?_
    refine wc_seq ?_
    refine wc_block ?_
    refine wc_seq ?_
    have hkl : k < ls.length := by omega
    have hb := (g3 k hkl).2.1
    have hb3 := (g3 k hkl).2.2
    have hhb := byts_two hh hb
    refine wc_region ?_
    refine wl_val (r_move rfl) (ltn rfl) ?_
    obtain ⟨bv, ov, cv, ev⟩ := Rd.posV (hv _ (HL.right.right.right)) (by omega)
    cases ev
    refine wl_val (r_index Tryd.underlying34 Tryd.sizeOf39 rfl rfl (by omega)) (ltn rfl) ?_
    refine wl_val (r_load (plain_of Tryd.underlying39 rfl) rfl (by first | exact Rd.at1n (hv _ (HL.right.right.right)) (by omega) | exact Rd.at0 (hv _ (HL.right.right.right)) (by omega) | exact Rd.at1 (hv _ (HL.right.right.right)) (by omega))) (ltn rfl) ?_
    refine wl_gen (fun x24_5 hx24_5 => ?_)
    refine wl_val (r_assign rfl) (ltn rfl) ?_
    refine wl_val (r_assign rfl) (ltn rfl) ?_
    refine wl_nil ?_
    refine wq_seq ?_
    refine wc_seq ?_
    refine wc_seq ?_
    have H8d5 := HL.drew
    have hS8d5 := Holds.kp (H8d5.f3.f3.f3)
    refine wd_beginK [14] hS8d5 (by kernel_rfl) (by kernel_rfl) rfl ?_
    refine wd_takeT 0 rfl (by kernel_rfl) (by kernel_rfl) hS8d5 (fun _ => r_move rfl) (ltn rfl) ?_
    refine wd_takeT 1 rfl (by kernel_rfl) (by kernel_rfl) hS8d5 (fun _ => r_move rfl) (ltn rfl) ?_
    refine wd_takeT 3 rfl (by kernel_rfl) (by kernel_rfl) hS8d5 (fun _ => r_move rfl) (ltn rfl) ?_
    refine wd_takeT 4 rfl (by kernel_rfl) (by kernel_rfl) hS8d5 (fun _ => r_move rfl) (ltn rfl) ?_
    refine wd_eff 2 rfl (by kernel_rfl) (e_call (r_call rfl Tryd.func22 rfl rfl) (dec_put_ret H8d5.f3 (by assumption) (fun W HW => (by rw [hx24_5]; exact hls _ (by omega) _ (HW.right.right))) (by assumption) (by assumption) (by omega))) (ltn rfl) ?_
    rintro u6 w6 H6
    have hS6n := Holds.kp (H6.f2.right.f3.f3.f3)
    refine keepX hS6n (by kernel_rfl) ?_
    refine wd_eff 5 rfl (by kernel_rfl) (e_call (r_call rfl Tryd.func23 rfl rfl) (rdec_put_o H6.f4.f4 (fun W HW => (by rw [hx24_5]; exact hls _ (by omega) _ (HW.right.right))) (by assumption) (by assumption) (by omega))) (ltn rfl) ?_
    rintro u7 w7 ⟨rvp, H7⟩
    have hS7n := Holds.kp (H7.f5.right.f4.f4.f4.f4)
    refine keepX hS7n (by kernel_rfl) ?_
    refine wd_eff 6 rfl (by kernel_rfl) (e_call (r_call rfl Tryd.func21 rfl rfl) (equal_ret _ _ _ _ _ ((H7.f4).row_rd) ((H7).row_rd))) (ltn rfl) ?_
    rintro _ w8 ⟨rfl, hD8⟩
    have HD8 := H7.drewn hD8
    have hS8n := Holds.kp (HD8.f5.right.f4.f4.f4.f4)
    refine keepX hS8n (by kernel_rfl) ?_
    refine wd_takeT 7 rfl (by kernel_rfl) (by kernel_rfl) hS8n (fun _ => r_not rfl) (ltn rfl) ?_
    refine wd_split 8 rfl rfl (by kernel_rfl) (by kernel_rfl) hS8n (ltn rfl) (fun h => by exfalso; (try simp only [beq_iff_eq, bne_iff_ne, ne_eq, decide_eq_true_eq, decide_eq_false_iff_not, beq_eq_false_iff_ne, bne_eq_false_iff_eq, Bool.not_eq_true', Bool.not_eq_false', Bool.not_eq_eq_eq_not, Bool.not_true, Bool.not_false, gt_iff_lt, ge_iff_le, Int.not_lt, Int.not_le] at h); simp at h) (fun h4 => ?_)
    (try simp only [beq_iff_eq, bne_iff_ne, ne_eq, decide_eq_true_eq, decide_eq_false_iff_not, beq_eq_false_iff_ne, bne_eq_false_iff_eq, Bool.not_eq_true', Bool.not_eq_false', Bool.not_eq_eq_eq_not, Bool.not_true, Bool.not_false, gt_iff_lt, ge_iff_le, Int.not_lt, Int.not_le] at h4)
    refine wd_takeT_yes 9 rfl rfl rfl (by kernel_rfl) (by kernel_rfl) hS8n (fun _ => r_move rfl) (ltn rfl) ?_
    refine wd_takeT_yes 11 rfl rfl rfl (by kernel_rfl) (by kernel_rfl) hS8n (fun _ => r_move rfl) (ltn rfl) ?_
    refine wd_takeT_yes 12 rfl rfl rfl (by kernel_rfl) (by kernel_rfl) hS8n (fun _ => r_nil rfl) (ltn rfl) ?_
    refine wd_takeT_yes 13 rfl rfl rfl (by kernel_rfl) (by kernel_rfl) hS8n (fun _ => (by first | exact r_field0 0 Tryd.underlying41 rfl rfl Tryd.sizeOf39 (by decide) rfl | exact r_field 0 Tryd.underlying41 rfl rfl Tryd.sizeOf39 (by decide) rfl)) (ltn rfl) ?_
    refine wd_take_yes 14 rfl rfl rfl (by kernel_rfl) (by kernel_rfl) hS8n (by decide) (fun W hW => r_load (plain_of Tryd.underlying39 rfl) rfl (cell_of_blk ((Kp.h hW).f2).get.2 rfl)) (ltn rfl) ?_
    refine wd_takeT_yes 15 rfl rfl rfl (by kernel_rfl) (by kernel_rfl) hS8n (fun _ => r_lenR ((HD8.f3).row_rd) Tryd.underlying39 rfl) (ltn rfl) ?_
    refine wd_eff_yes 10 rfl rfl rfl (by kernel_rfl) (e_call (r_call rfl Tryd.func24 rfl rfl) (dec_pending_ret HD8.f5)) (ltn rfl) ?_
    rintro _ w9 ⟨rfl, H9⟩
    have hS9n := Holds.kp (H9.f5.f5.f5.f5.f5)
    refine keepK hS9n (fun W hW => (Kp.h hW).right.f4.f4.f4.f4) ?_
    refine wd_takeT_yes 16 rfl rfl rfl (by kernel_rfl) (by kernel_rfl) hS9n (fun _ => r_neq rfl rfl) (ltn rfl) ?_
    refine wd_takeT 17 rfl (by kernel_rfl) (by kernel_rfl) hS9n (fun _ => r_pick_f rfl rfl) (ltn rfl) ?_
    refine wd_done (by kernel_rfl) ?_
    refine wq_seq ?_
    refine wc_cond rfl (fun h => by exfalso; (try simp only [beq_iff_eq, bne_iff_ne, ne_eq, decide_eq_true_eq, decide_eq_false_iff_not, beq_eq_false_iff_ne, bne_eq_false_iff_eq, Bool.not_eq_true', Bool.not_eq_false', Bool.not_eq_eq_eq_not, Bool.not_true, Bool.not_false, gt_iff_lt, ge_iff_le, Int.not_lt, Int.not_le] at h); simp at h) (fun h5 => ?_)
    (try simp only [beq_iff_eq, bne_iff_ne, ne_eq, decide_eq_true_eq, decide_eq_false_iff_not, beq_eq_false_iff_ne, bne_eq_false_iff_eq, Bool.not_eq_true', Bool.not_eq_false', Bool.not_eq_eq_eq_not, Bool.not_true, Bool.not_false, gt_iff_lt, ge_iff_le, Int.not_lt, Int.not_le] at h5)
    refine wc_skip ?_
    refine wq_seq ?_
    refine wc_seq ?_
    have hpb := putM_byts hhb
    have hph := putM_held (h ++ ls.getD k [])
    refine wc_region ?_
    refine wl_val (r_move rfl) (ltn rfl) ?_
    refine wl_val (r_move rfl) (ltn rfl) ?_
    refine wl_val (r_lenS (ht _ (H9.right.right.right.right.right)) Tryd.underlying35 rfl) (ltn rfl) ?_
    refine wl_val (r_lss rfl rfl) (ltn rfl) ?_
    refine wl_split rfl (ltn rfl) (fun h6 => ?_) (fun h6 => ?_)
    · (try simp only [beq_iff_eq, bne_iff_ne, ne_eq, decide_eq_true_eq, decide_eq_false_iff_not, beq_eq_false_iff_ne, bne_eq_false_iff_eq, Bool.not_eq_true', Bool.not_eq_false', Bool.not_eq_eq_eq_not, Bool.not_true, Bool.not_false, gt_iff_lt, ge_iff_le, Int.not_lt, Int.not_le] at h6)
      refine wl_yes rfl rfl ?_
      refine wl_val (r_move rfl) (ltn rfl) ?_
      refine wl_yes rfl rfl ?_
      refine wl_val (r_move rfl) (ltn rfl) ?_
      refine wl_yes rfl rfl ?_
      obtain ⟨bt, ot, ct, et⟩ := Rd.posV (ht _ (H9.right.right.right.right.right)) (by omega)
      cases et
      refine wl_val (r_index Tryd.underlying35 Tryd.sizeOf4 rfl rfl (by omega)) (ltn rfl) ?_
      refine wl_yes rfl rfl ?_
      refine wl_val (r_as (r_load (plain_of Tryd.underlying4 rfl) rfl (by first | exact Rd.at1n (ht _ (H9.right.right.right.right.right)) (by omega) | exact Rd.at0 (ht _ (H9.right.right.right.right.right)) (by omega) | exact Rd.at1 (ht _ (H9.right.right.right.right.right)) (by omega))) (bools_at (by omega))) (ltn rfl) ?_
      refine wl_val (r_pick_t rfl rfl) (ltn rfl) ?_
      refine wl_split rfl (ltn rfl) (fun h7 => ?_) (fun h7 => ?_)
      · (try simp only [beq_iff_eq, bne_iff_ne, ne_eq, decide_eq_true_eq, decide_eq_false_iff_not, beq_eq_false_iff_ne, bne_eq_false_iff_eq, Bool.not_eq_true', Bool.not_eq_false', Bool.not_eq_eq_eq_not, Bool.not_true, Bool.not_false, gt_iff_lt, ge_iff_le, Int.not_lt, Int.not_le] at h7)
        refine wl_yes rfl rfl ?_
        refine wl_val (r_move rfl) (ltn rfl) ?_
        refine wl_yes rfl rfl ?_
        refine wl_eff (e_call (r_call rfl Tryd.func25 rfl rfl) (dec_flush_ret H9 (by assumption) (by assumption) (by omega))) (ltn rfl) ?_
        rintro u10 w10 H10
        refine wl_yes rfl rfl ?_
        refine wl_val (r_move rfl) (ltn rfl) ?_
        refine wl_yes rfl rfl ?_
        refine wl_eff (e_call (r_call rfl Tryd.func26 rfl rfl) (rdec_flush_o H10.f5.f5 (by assumption) (by omega))) (ltn rfl) ?_
        rintro u11 w11 ⟨rvo, H11⟩
        refine wl_yes rfl rfl ?_
        refine wl_eff (e_call (r_call rfl Tryd.func21 rfl rfl) (equal_ret _ _ _ _ _ ((H11.f4).row_rd) ((H11).row_rd))) (ltn rfl) ?_
        rintro _ w12 ⟨rfl, hD12⟩
        have HD12 := H11.drewn hD12
        refine wl_yes rfl rfl ?_
        refine wl_val (r_not rfl) (ltn rfl) ?_
        refine wl_yes rfl rfl ?_
        refine wl_split rfl (ltn rfl) (fun h => by exfalso; (try simp only [beq_iff_eq, bne_iff_ne, ne_eq, decide_eq_true_eq, decide_eq_false_iff_not, beq_eq_false_iff_ne, bne_eq_false_iff_eq, Bool.not_eq_true', Bool.not_eq_false', Bool.not_eq_eq_eq_not, Bool.not_true, Bool.not_false, gt_iff_lt, ge_iff_le, Int.not_lt, Int.not_le] at h); simp at h) (fun h8 => ?_)
        (try simp only [beq_iff_eq, bne_iff_ne, ne_eq, decide_eq_true_eq, decide_eq_false_iff_not, beq_eq_false_iff_ne, bne_eq_false_iff_eq, Bool.not_eq_true', Bool.not_eq_false', Bool.not_eq_eq_eq_not, Bool.not_true, Bool.not_false, gt_iff_lt, ge_iff_le, Int.not_lt, Int.not_le] at h8)
        refine wl_yes rfl rfl ?_
        refine wl_val (r_move rfl) (ltn rfl) ?_
        refine wl_yes rfl rfl ?_
        refine wl_eff (e_call (r_call rfl Tryd.func24 rfl rfl) (dec_pending_ret HD12.f5)) (ltn rfl) ?_
        rintro _ w13 ⟨rfl, H13⟩
        refine wl_yes rfl rfl ?_
        refine wl_val (r_neq rfl rfl) (ltn rfl) ?_
        refine wl_yes rfl rfl ?_
        refine wl_val (r_pick_f rfl rfl) (ltn rfl) ?_
        refine wl_val (r_pick_t rfl rfl) (ltn rfl) ?_
        refine wl_nil ?_
        refine wq_seq ?_
        refine wc_cond rfl (fun h => by exfalso; (try simp only [beq_iff_eq, bne_iff_ne, ne_eq, decide_eq_true_eq, decide_eq_false_iff_not, beq_eq_false_iff_ne, bne_eq_false_iff_eq, Bool.not_eq_true', Bool.not_eq_false', Bool.not_eq_eq_eq_not, Bool.not_true, Bool.not_false, gt_iff_lt, ge_iff_le, Int.not_lt, Int.not_le] at h); simp at h) (fun h9 => ?_)
        (try simp only [beq_iff_eq, bne_iff_ne, ne_eq, decide_eq_true_eq, decide_eq_false_iff_not, beq_eq_false_iff_ne, bne_eq_false_iff_eq, Bool.not_eq_true', Bool.not_eq_false', Bool.not_eq_eq_eq_not, Bool.not_true, Bool.not_false, gt_iff_lt, ge_iff_le, Int.not_lt, Int.not_le] at h9)
        refine wc_skip ?_
        refine wq_block_normal ?_
        refine wq_seq ?_
        refine wc_region ?_
        refine wl_val (r_add rfl rfl (by omega)) (ltn rfl) ?_
        refine wl_val (r_move rfl) (ltn rfl) ?_
        refine wl_nil ?_
        refine wq_round (k + 1) ?_ ?_ ?_ ?_
        · exact (Sub.cons rfl (Sub.nil _))
        · exact (Sub.cons rfl (Sub.cons rfl (Sub.cons rfl (Sub.cons rfl (Sub.cons rfl (Sub.nil _))))))
        · (try dsimp only)
          exact ⟨_, _, ⟨by omega, by first | exact putM_byts hhb | (unfold Byts; simp), by first | exact putM_held _ | decide⟩, H13.f2.right.f4.right.f4.right.f4.right.f3.f3⟩
        · (try dsimp only); omega
      · (try simp only [beq_iff_eq, bne_iff_ne, ne_eq, decide_eq_true_eq, decide_eq_false_iff_not, beq_eq_false_iff_ne, bne_eq_false_iff_eq, Bool.not_eq_true', Bool.not_eq_false', Bool.not_eq_eq_eq_not, Bool.not_true, Bool.not_false, gt_iff_lt, ge_iff_le, Int.not_lt, Int.not_le] at h7)
        refine wl_no rfl rfl rfl (ltn rfl) ?_
        refine wl_no rfl rfl rfl (ltn rfl) ?_
        refine wl_no rfl rfl rfl (ltn rfl) ?_
        refine wl_no rfl rfl rfl (ltn rfl) ?_
        refine wl_no rfl rfl rfl (ltn rfl) ?_
        refine wl_no rfl rfl rfl (ltn rfl) ?_
        refine wl_no rfl rfl rfl (ltn rfl) ?_
        refine wl_nou rfl rfl (ltn rfl) ?_
        refine wl_nou rfl rfl (ltn rfl) ?_
        refine wl_nou rfl rfl (ltn rfl) ?_
        refine wl_no rfl rfl rfl (ltn rfl) ?_
        refine wl_val (r_pick_f rfl rfl) (ltn rfl) ?_
        refine wl_nil ?_
        refine wq_seq ?_
        refine wc_cond_f rfl ?_
        refine wc_skip ?_
        refine wq_block_normal ?_
        refine wq_seq ?_
        refine wc_region ?_
        refine wl_val (r_add rfl rfl (by omega)) (ltn rfl) ?_
        refine wl_val (r_move rfl) (ltn rfl) ?_
        refine wl_nil ?_
        refine wq_round (k + 1) ?_ ?_ ?_ ?_
        · exact (Sub.cons rfl (Sub.nil _))
        · exact (Sub.cons rfl (Sub.cons rfl (Sub.cons rfl (Sub.cons rfl (Sub.cons rfl (Sub.nil _))))))
        · (try dsimp only)
          exact ⟨_, _, ⟨by omega, by first | exact putM_byts hhb | (unfold Byts; simp), by first | exact putM_held _ | decide⟩, H9.f2.right.f4.right.f3.f3⟩
        · (try dsimp only); omega
    · (try simp only [beq_iff_eq, bne_iff_ne, ne_eq, decide_eq_true_eq, decide_eq_false_iff_not, beq_eq_false_iff_ne, bne_eq_false_iff_eq, Bool.not_eq_true', Bool.not_eq_false', Bool.not_eq_eq_eq_not, Bool.not_true, Bool.not_false, gt_iff_lt, ge_iff_le, Int.not_lt, Int.not_le] at h6)
      refine wl_no rfl rfl rfl (ltn rfl) ?_
      refine wl_no rfl rfl rfl (ltn rfl) ?_
      refine wl_no rfl rfl rfl (ltn rfl) ?_
      refine wl_no rfl rfl rfl (ltn rfl) ?_
      refine wl_val (r_pick_f rfl rfl) (ltn rfl) ?_
      refine wl_val (r_move rfl) (ltn rfl) ?_
      refine wl_no rfl rfl rfl (ltn rfl) ?_
      refine wl_no rfl rfl rfl (ltn rfl) ?_
      refine wl_no rfl rfl rfl (ltn rfl) ?_
      refine wl_no rfl rfl rfl (ltn rfl) ?_
      refine wl_no rfl rfl rfl (ltn rfl) ?_
      refine wl_no rfl rfl rfl (ltn rfl) ?_
      refine wl_no rfl rfl rfl (ltn rfl) ?_
      refine wl_nou rfl rfl (ltn rfl) ?_
      refine wl_nou rfl rfl (ltn rfl) ?_
      refine wl_nou rfl rfl (ltn rfl) ?_
      refine wl_no rfl rfl rfl (ltn rfl) ?_
      refine wl_val (r_pick_f rfl rfl) (ltn rfl) ?_
      refine wl_nil ?_
      refine wq_seq ?_
      refine wc_cond_f rfl ?_
      refine wc_skip ?_
      refine wq_block_normal ?_
      refine wq_seq ?_
      refine wc_region ?_
      refine wl_val (r_add rfl rfl (by omega)) (ltn rfl) ?_
      refine wl_val (r_move rfl) (ltn rfl) ?_
      refine wl_nil ?_
      refine wq_round (k + 1) ?_ ?_ ?_ ?_
      · exact (Sub.cons rfl (Sub.nil _))
      · exact (Sub.cons rfl (Sub.cons rfl (Sub.cons rfl (Sub.cons rfl (Sub.cons rfl (Sub.nil _))))))
      · (try dsimp only)
        exact ⟨_, _, ⟨by omega, by first | exact putM_byts hhb | (unfold Byts; simp), by first | exact putM_held _ | decide⟩, H9.f2.right.f4.right.f3.f3⟩
      · (try dsimp only); omega
  · (try simp only [beq_iff_eq, bne_iff_ne, ne_eq, decide_eq_true_eq, decide_eq_false_iff_not, beq_eq_false_iff_ne, bne_eq_false_iff_eq, Bool.not_eq_true', Bool.not_eq_false', Bool.not_eq_eq_eq_not, Bool.not_true, Bool.not_false, gt_iff_lt, ge_iff_le, Int.not_lt, Int.not_le] at h3)
    
    refine wc_exit ?_
    refine wq_then_exit ?_
    refine wq_then_exit ?_
    refine wq_block_hit ?_
    refine wq_seq ?_
    refine wc_seq ?_
    refine wc_region ?_
    refine wl_val (r_assign rfl) (ltn rfl) ?_
    refine wl_nil ?_
    refine wq_seq ?_
    refine wc_ret ?_
    refine wq_end1 (.inl rfl) Tryd.results6 rfl ?_
    exact ⟨rfl, HL.base⟩
end Go.Proofs.YtmkmffoadapmnaaDoor
