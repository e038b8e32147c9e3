/- ucell: what the law begins with; are places the same; a decoder that is none. -/
import Derived.Test.YtmkmffoadapmnaaDoorCell3
import Derived.Test.YtmkmffoadapmnaaDoorEqual
set_option linter.unusedSimpArgs false
set_option linter.unusedVariables false
namespace Go.Proofs.YtmkmffoadapmnaaDoor
open Go.RowKit
theorem r_as {P : Program} {L : List (Nat × Value)} {w : World} {op : Op} {ty : TypeId} {v v' : Value} (h : Val P L op ty w v w) (e : v = v') : Val P L op ty w v' w := e ▸ h
section
variable {w0 w : World} {F : HP} {v u : Value} {cs ds : List Cel} {p : Nat} {l b : List Int}
theorem cells_eq_any (H : Holds w0 w F) (hv : FRd w0 F 3 v cs.length (cs.flatMap celE)) (hu : FRd w0 F 3 u ds.length (ds.flatMap celE)) :
    Ret Tryd.prog 15 #[v, u] w fun r w' => r = .bool (decide (cs = ds)) ∧ Holds w0 w' F := by
  obtain ⟨-, _, cv, -, hcv1, hcv2, -⟩ := hv _ H
  refine ret_enter Tryd.func15 rfl Tryd.ntmps15 (Nat.le_of_ble_eq_true rfl) ?_
  dsimp only [slots0, Nat.reduceAdd]
  refine wc_seq ?_
  refine wc_region ?_
  refine wl_val (r_assign rfl) (ltn rfl) ?_
  refine wl_nil ?_
  refine wq_seq ?_
  refine wc_seq ?_
  refine wc_seq ?_
  refine wc_region ?_
  refine wl_val (r_move rfl) (ltn rfl) ?_
  refine wl_val (r_lenS (hv _ (H)) Tryd.underlying23 rfl) (ltn rfl) ?_
  refine wl_val (r_move rfl) (ltn rfl) ?_
  refine wl_val (r_lenS (hu _ (H)) Tryd.underlying23 rfl) (ltn rfl) ?_
  refine wl_val (r_neq rfl rfl) (ltn rfl) ?_
  refine wl_nil ?_
  refine wq_seq ?_
  refine wc_cond rfl (fun h1 => ?_) (fun h1 => ?_)
  · (try simp only [beq_iff_eq, bne_iff_ne, ne_eq, decide_eq_true_eq, decide_eq_false_iff_not, beq_eq_false_iff_ne, bne_eq_false_iff_eq, Bool.not_eq_true', Bool.not_eq_false', Bool.not_eq_eq_eq_not, Bool.not_true, Bool.not_false, gt_iff_lt, ge_iff_le, Int.not_lt, Int.not_le] at h1)
    have hlen : ¬ cs.length = ds.length := by omega
    refine wc_seq ?_
    refine wc_region ?_
    refine wl_val (r_assign rfl) (ltn rfl) ?_
    refine wl_nil ?_
    refine wq_seq ?_
    refine wc_ret ?_
    refine wq_then_ret ?_
    refine wq_end1 (.inl rfl) Tryd.results15 rfl ?_
    exact ⟨by rw [decide_eq_false (fun q => hlen (by rw [q]))], H⟩
  · (try simp only [beq_iff_eq, bne_iff_ne, ne_eq, decide_eq_true_eq, decide_eq_false_iff_not, beq_eq_false_iff_ne, bne_eq_false_iff_eq, Bool.not_eq_true', Bool.not_eq_false', Bool.not_eq_eq_eq_not, Bool.not_true, Bool.not_false, gt_iff_lt, ge_iff_le, Int.not_lt, Int.not_le] at h1)
    have hlen : cs.length = ds.length := by omega
    refine wc_skip ?_
    refine wq_seq ?_
    refine wc_seq ?_
    refine wc_seq ?_
    refine wc_region ?_
    refine wl_val (r_move rfl) (ltn rfl) ?_
    refine wl_val (r_lenS (hv _ (H)) Tryd.underlying23 rfl) (ltn rfl) ?_
    refine wl_val (r_move rfl) (ltn rfl) ?_
    refine wl_nil ?_
    refine wq_seq ?_
    refine wc_block ?_
    refine wc_loop [(0, _), (1, _), (12, _)] (fun (k : Nat) => [(13, .int .i64 (k : Int))]) (fun (k : Nat) W => (k ≤ cs.length ∧ ∀ j, j < k → cs.getD j (emptyS, 0) = ds.getD j (emptyS, 0)) ∧ Holds w0 W F) (fun (k : Nat) => cs.length - k) (0) (Sub.cons rfl (Sub.cons rfl (Sub.cons rfl (Sub.nil _)))) (Sub.cons rfl (Sub.nil _)) ⟨⟨by omega, fun j hj => absurd hj (Nat.not_lt_zero _)⟩, H⟩ ?_
    rintro k w1 ⟨⟨hk, hj⟩, HL⟩
    dsimp only [List.cons_append, List.nil_append]
    refine wc_seq ?_
    refine wc_region ?_
    refine wl_val (r_lss rfl rfl) (ltn rfl) ?_
    refine wl_nil ?_
    refine wq_seq ?_
    refine wc_seq ?_
    refine wc_cond rfl (fun h2 => ?_) (fun h2 => ?_)
    · (try simp only [beq_iff_eq, bne_iff_ne, ne_eq, decide_eq_true_eq, decide_eq_false_iff_not, beq_eq_false_iff_ne, bne_eq_false_iff_eq, Bool.not_eq_true', Bool.not_eq_false', Bool.not_eq_eq_eq_not, Bool.not_true, Bool.not_false, gt_iff_lt, ge_iff_le, Int.not_lt, Int.not_le] at h2)
      
      refine wc_skip ?_
      refine wq_seq ?_
      refine wc_seq ?_
      refine wc_block ?_
      refine wc_seq ?_
      refine wc_region ?_
      refine wl_val (r_move rfl) (ltn rfl) ?_
      refine wl_val (r_assign rfl) (ltn rfl) ?_
      refine wl_nil ?_
      refine wq_seq ?_
      refine wc_seq ?_
      have hkl : k < cs.length := by omega
      have H6d1 := HL.drew
      have hS6d1 := Holds.kp (H6d1)
      refine wd_beginK [3, 7] hS6d1 (by kernel_rfl) (by kernel_rfl) rfl ?_
      refine wd_takeT 0 rfl (by kernel_rfl) (by kernel_rfl) hS6d1 (fun _ => r_move rfl) (ltn rfl) ?_
      refine wd_takeT 1 rfl (by kernel_rfl) (by kernel_rfl) hS6d1 (fun _ => r_move rfl) (ltn rfl) ?_
      obtain ⟨bv, ov, cv, ev⟩ := Rd.posV (hv _ (H6d1)) (by omega)
      cases ev
      refine wd_takeT 2 rfl (by kernel_rfl) (by kernel_rfl) hS6d1 (fun _ => r_index Tryd.underlying23 Tryd.sizeOf26 rfl rfl (by omega)) (ltn rfl) ?_
      refine wd_take 3 rfl (by kernel_rfl) (by kernel_rfl) hS6d1 (by decide) (fun W hW => r_load_elem (ys := [_, _, _]) (hv _ ((Kp.h hW))) (by omega) Tryd.underlying26 rfl Tryd.sizeOf26 rfl (flat_elem celE_len (by omega) (emptyS, 0)) rfl) (ltn rfl) ?_
      refine wd_takeT 4 rfl (by kernel_rfl) (by kernel_rfl) hS6d1 (fun _ => r_move rfl) (ltn rfl) ?_
      refine wd_takeT 5 rfl (by kernel_rfl) (by kernel_rfl) hS6d1 (fun _ => r_move rfl) (ltn rfl) ?_
      obtain ⟨bu, ou, cu, eu⟩ := Rd.posV (hu _ (H6d1)) (by omega)
      cases eu
      refine wd_takeT 6 rfl (by kernel_rfl) (by kernel_rfl) hS6d1 (fun _ => r_index Tryd.underlying23 Tryd.sizeOf26 rfl rfl (by omega)) (ltn rfl) ?_
      refine wd_take 7 rfl (by kernel_rfl) (by kernel_rfl) hS6d1 (by decide) (fun W hW => r_load_elem (ys := [_, _, _]) (hu _ ((Kp.h hW))) (by omega) Tryd.underlying26 rfl Tryd.sizeOf26 rfl (flat_elem celE_len (by omega) (emptyS, 0)) rfl) (ltn rfl) ?_
      refine wd_takeT 8 rfl (by kernel_rfl) (by kernel_rfl) hS6d1 (fun _ => r_cell_neq rfl rfl) (ltn rfl) ?_
      refine wd_done (by kernel_rfl) ?_
      refine wq_seq ?_
      refine wc_cond rfl (fun h3 => ?_) (fun h3 => ?_)
      · (try simp only [beq_iff_eq, bne_iff_ne, ne_eq, decide_eq_true_eq, decide_eq_false_iff_not, beq_eq_false_iff_ne, bne_eq_false_iff_eq, Bool.not_eq_true', Bool.not_eq_false', Bool.not_eq_eq_eq_not, Bool.not_true, Bool.not_false, gt_iff_lt, ge_iff_le, Int.not_lt, Int.not_le] at h3)
        have hsm : ¬ cs.getD k (emptyS, 0) = ds.getD k (emptyS, 0) := by simpa using h3
        refine wc_seq ?_
        refine wc_region ?_
        refine wl_val (r_assign rfl) (ltn rfl) ?_
        refine wl_nil ?_
        refine wq_seq ?_
        refine wc_ret ?_
        refine wq_block_ret ?_
        refine wq_then_ret ?_
        refine wq_then_ret ?_
        refine wq_block_ret ?_
        refine wq_then_ret ?_
        refine wq_end1 (.inl rfl) Tryd.results15 rfl ?_
        exact ⟨by rw [decide_eq_false (fun q => hsm (by rw [q]))], H6d1⟩
      · (try simp only [beq_iff_eq, bne_iff_ne, ne_eq, decide_eq_true_eq, decide_eq_false_iff_not, beq_eq_false_iff_ne, bne_eq_false_iff_eq, Bool.not_eq_true', Bool.not_eq_false', Bool.not_eq_eq_eq_not, Bool.not_true, Bool.not_false, gt_iff_lt, ge_iff_le, Int.not_lt, Int.not_le] at h3)
        have hsm : cs.getD k (emptyS, 0) = ds.getD k (emptyS, 0) := by simpa using h3
        refine wc_skip ?_
        refine wq_block_normal ?_
        refine wq_seq ?_
        refine wc_region ?_
        refine wl_val (r_add rfl rfl (by omega)) (ltn rfl) ?_
        refine wl_val (r_move rfl) (ltn rfl) ?_
        refine wl_nil ?_
        refine wq_round (k + 1) ?_ ?_ ?_ ?_
        · exact (Sub.cons rfl (Sub.nil _))
        · exact (Sub.cons rfl (Sub.cons rfl (Sub.cons rfl (Sub.nil _))))
        · (try dsimp only)
          exact ⟨⟨by omega, fun j h9 => by rcases Nat.lt_succ_iff_lt_or_eq.1 h9 with h9 | rfl; exact hj j h9; exact hsm⟩, H6d1⟩
        · (try dsimp only); omega
    · (try simp only [beq_iff_eq, bne_iff_ne, ne_eq, decide_eq_true_eq, decide_eq_false_iff_not, beq_eq_false_iff_ne, bne_eq_false_iff_eq, Bool.not_eq_true', Bool.not_eq_false', Bool.not_eq_eq_eq_not, Bool.not_true, Bool.not_false, gt_iff_lt, ge_iff_le, Int.not_lt, Int.not_le] at h2)
      
      refine wc_exit ?_
      refine wq_then_exit ?_
      refine wq_then_exit ?_
      refine wq_block_hit ?_
      refine wq_seq ?_
      refine wc_seq ?_
      refine wc_region ?_
      refine wl_val (r_assign rfl) (ltn rfl) ?_
      refine wl_nil ?_
      refine wq_seq ?_
      refine wc_ret ?_
      refine wq_end1 (.inl rfl) Tryd.results15 rfl ?_
      refine ⟨?_, HL⟩
      obtain rfl : k = cs.length := by omega
      rw [decide_eq_true]
      refine List.ext_getElem hlen fun j h1 h2 => ?_
      have h9 := hj j h1
      rw [List.getD_eq_getElem?_getD, List.getD_eq_getElem?_getD, List.getElem?_eq_getElem h1, List.getElem?_eq_getElem h2] at h9
      simpa using h9
theorem cells_eq_rr (H : Holds w0 w (Row 26 3 v cs.length (cs.flatMap celE) • Row 26 3 u ds.length (ds.flatMap celE) • F)) :
    Ret Tryd.prog 15 #[v, u] w fun r w' => r = .bool (decide (cs = ds)) ∧ Holds w0 w' (Row 26 3 v cs.length (cs.flatMap celE) • Row 26 3 u ds.length (ds.flatMap celE) • F) :=
  cells_eq_any H (fun W HW => HW.row_rd) (fun W HW => HW.f2.row_rd)
theorem dec_nil_none : Ret Tryd.prog 47 #[.pointer none] w fun v w' => v = .bool true ∧ w = w' := by
  refine ret_enter Tryd.func47 rfl Tryd.ntmps47 (Nat.le_of_ble_eq_true rfl) ?_
  dsimp only [slots0, Nat.reduceAdd]
  refine wc_seq ?_
  refine wc_region ?_
  refine wl_val (r_assign rfl) (ltn rfl) ?_
  refine wl_nil ?_
  refine wq_seq ?_
  refine wc_seq ?_
  refine wc_region ?_
  refine wl_val (r_move rfl) (ltn rfl) ?_
  refine wl_val (r_ptr_nil Tryd.underlying36 rfl rfl) (ltn rfl) ?_
  refine wl_split rfl (ltn rfl) (fun h1 => ?_) (fun h => by exfalso; (try simp only [beq_iff_eq, bne_iff_ne, ne_eq, decide_eq_true_eq, decide_eq_false_iff_not, beq_eq_false_iff_ne, bne_eq_false_iff_eq, Bool.not_eq_true', Bool.not_eq_false', Bool.not_eq_eq_eq_not, Bool.not_true, Bool.not_false, gt_iff_lt, ge_iff_le, Int.not_lt, Int.not_le] at h); simp at h)
  (try simp only [beq_iff_eq, bne_iff_ne, ne_eq, decide_eq_true_eq, decide_eq_false_iff_not, beq_eq_false_iff_ne, bne_eq_false_iff_eq, Bool.not_eq_true', Bool.not_eq_false', Bool.not_eq_eq_eq_not, Bool.not_true, Bool.not_false, gt_iff_lt, ge_iff_le, Int.not_lt, Int.not_le] at h1)
  refine wl_no rfl rfl rfl (ltn rfl) ?_
  refine wl_no rfl rfl rfl (ltn rfl) ?_
  refine wl_no rfl rfl rfl (ltn rfl) ?_
  refine wl_no rfl rfl rfl (ltn rfl) ?_
  refine wl_no rfl rfl rfl (ltn rfl) ?_
  refine wl_val (r_pick_t rfl rfl) (ltn rfl) ?_
  refine wl_val (r_assign rfl) (ltn rfl) ?_
  refine wl_nil ?_
  refine wq_seq ?_
  refine wc_ret ?_
  refine wq_end1 (.inl rfl) Tryd.results47 rfl ?_
  exact ⟨rfl, rfl⟩
theorem dec_nil_put : Ret Tryd.prog 22 #[.pointer none, v] w fun v' w' => v' = .slice none 0 0 ∧ w = w' := by
  refine ret_enter Tryd.func22 rfl Tryd.ntmps22 (Nat.le_of_ble_eq_true rfl) ?_
  dsimp only [slots0, Nat.reduceAdd]
  refine wc_seq ?_
  refine wc_region ?_
  refine wl_val (r_assign rfl) (ltn rfl) ?_
  refine wl_nil ?_
  refine wq_seq ?_
  refine wc_seq ?_
  refine wc_seq ?_
  refine wc_region ?_
  refine wl_val (r_move rfl) (ltn rfl) ?_
  refine wl_eff (e_call (r_call rfl Tryd.func47 rfl rfl) (dec_nil_none)) (ltn rfl) ?_
  rintro _ _ ⟨rfl, rfl⟩
  refine wl_nil ?_
  refine wq_seq ?_
  refine wc_cond_t rfl ?_
  refine wc_seq ?_
  refine wc_region ?_
  refine wl_val (r_assign rfl) (ltn rfl) ?_
  refine wl_nil ?_
  refine wq_seq ?_
  refine wc_ret ?_
  refine wq_then_ret ?_
  refine wq_end1 (.inl rfl) Tryd.results22 rfl ?_
  exact ⟨rfl, rfl⟩
theorem dec_nil_flush : Ret Tryd.prog 25 #[.pointer none] w fun v' w' => v' = .slice none 0 0 ∧ w = w' := by
  refine ret_enter Tryd.func25 rfl Tryd.ntmps25 (Nat.le_of_ble_eq_true rfl) ?_
  dsimp only [slots0, Nat.reduceAdd]
  refine wc_seq ?_
  refine wc_region ?_
  refine wl_val (r_assign rfl) (ltn rfl) ?_
  refine wl_nil ?_
  refine wq_seq ?_
  refine wc_seq ?_
  refine wc_seq ?_
  refine wc_region ?_
  refine wl_val (r_move rfl) (ltn rfl) ?_
  refine wl_eff (e_call (r_call rfl Tryd.func47 rfl rfl) (dec_nil_none)) (ltn rfl) ?_
  rintro _ _ ⟨rfl, rfl⟩
  refine wl_nil ?_
  refine wq_seq ?_
  refine wc_cond_t rfl ?_
  refine wc_seq ?_
  refine wc_region ?_
  refine wl_val (r_assign rfl) (ltn rfl) ?_
  refine wl_nil ?_
  refine wq_seq ?_
  refine wc_ret ?_
  refine wq_then_ret ?_
  refine wq_end1 (.inl rfl) Tryd.results25 rfl ?_
  exact ⟨rfl, rfl⟩
theorem dec_nil_pending : Ret Tryd.prog 24 #[.pointer none] w fun v' w' => v' = .int .i64 0 ∧ w = w' := by
  refine ret_enter Tryd.func24 rfl Tryd.ntmps24 (Nat.le_of_ble_eq_true rfl) ?_
  dsimp only [slots0, Nat.reduceAdd]
  refine wc_seq ?_
  refine wc_region ?_
  refine wl_val (r_assign rfl) (ltn rfl) ?_
  refine wl_nil ?_
  refine wq_seq ?_
  refine wc_seq ?_
  refine wc_seq ?_
  refine wc_region ?_
  refine wl_val (r_move rfl) (ltn rfl) ?_
  refine wl_eff (e_call (r_call rfl Tryd.func47 rfl rfl) (dec_nil_none)) (ltn rfl) ?_
  rintro _ _ ⟨rfl, rfl⟩
  refine wl_nil ?_
  refine wq_seq ?_
  refine wc_cond_t rfl ?_
  refine wc_seq ?_
  refine wc_region ?_
  refine wl_val (r_assign rfl) (ltn rfl) ?_
  refine wl_nil ?_
  refine wq_seq ?_
  refine wc_ret ?_
  refine wq_then_ret ?_
  refine wq_end1 (.inl rfl) Tryd.results24 rfl ?_
  exact ⟨rfl, rfl⟩
theorem ulive_ret (H : Holds w0 w F) (hT : Tabs w0) (hU : UTabs w0) : Ret Tryd.prog 13 #[] w fun v w' => v = .bool true ∧ Holds w0 w' F := by
  refine ret_enter Tryd.func13 rfl Tryd.ntmps13 (Nat.le_of_ble_eq_true rfl) ?_
  dsimp only [slots0, Nat.reduceAdd]
  refine wc_seq ?_
  refine wc_region ?_
  refine wl_val (r_assign rfl) (ltn rfl) ?_
  refine wl_nil ?_
  refine wq_seq ?_
  refine wc_seq ?_
  refine wc_region ?_
  refine wl_eff (e_lit_ints (k := .u8) (l := [97, 195, 169, 255]) H Tryd.underlying39 Tryd.sizeOf5 Tryd.zeroValue5 rfl rfl rfl (by decide)) (ltn rfl) ?_
  rintro l1 w1 H1
  refine wl_eff (e_call (r_call rfl Tryd.func27 rfl rfl) (runes_ret H1 hU (fun W HW => (HW).row_rd) (by unfold Byts; decide) (by decide))) (ltn rfl) ?_
  rintro u2 w2 H2
  rw [show runesM [97, 195, 169, 255] = [97, 233, 65533] from by decide] at H2
  refine wl_val (r_assign rfl) (ltn rfl) ?_
  refine wl_nil ?_
  refine wq_seq ?_
  refine wc_seq ?_
  refine wc_region ?_
  refine wl_eff (e_call (r_call rfl Tryd.func20 rfl rfl) (dec_new_ret H2)) (ltn rfl) ?_
  rintro _ w3 ⟨p3, rfl, H3⟩
  refine wl_val (r_assign rfl) (ltn rfl) ?_
  refine wl_nil ?_
  refine wq_seq ?_
  refine wc_seq ?_
  refine wc_region ?_
  refine wl_val (r_move rfl) (ltn rfl) ?_
  refine wl_val (r_ptr_nnil Tryd.underlying36 rfl rfl) (ltn rfl) ?_
  refine wl_split rfl (ltn rfl) (fun h1 => ?_) (fun h => by exfalso; (try simp only [beq_iff_eq, bne_iff_ne, ne_eq, decide_eq_true_eq, decide_eq_false_iff_not, beq_eq_false_iff_ne, bne_eq_false_iff_eq, Bool.not_eq_true', Bool.not_eq_false', Bool.not_eq_eq_eq_not, Bool.not_true, Bool.not_false, gt_iff_lt, ge_iff_le, Int.not_lt, Int.not_le] at h); simp at h)
  (try simp only [beq_iff_eq, bne_iff_ne, ne_eq, decide_eq_true_eq, decide_eq_false_iff_not, beq_eq_false_iff_ne, bne_eq_false_iff_eq, Bool.not_eq_true', Bool.not_eq_false', Bool.not_eq_eq_eq_not, Bool.not_true, Bool.not_false, gt_iff_lt, ge_iff_le, Int.not_lt, Int.not_le] at h1)
  refine wl_yes rfl rfl ?_
  refine wl_val (r_move rfl) (ltn rfl) ?_
  refine wl_yes rfl rfl ?_
  refine wl_eff (e_lit_ints (k := .i32) (l := [97, 233, 65533]) H3 Tryd.underlying22 Tryd.sizeOf21 Tryd.zeroValue21 rfl rfl rfl (by decide)) (ltn rfl) ?_
  rintro l4 w4 H4
  refine wl_yes rfl rfl ?_
  refine wl_eff (e_call (r_call rfl Tryd.func21 rfl rfl) (equal_ret _ _ _ _ _ ((H4.f3).row_rd) ((H4).row_rd))) (ltn rfl) ?_
  rintro _ w5 ⟨rfl, hD5⟩
  have HD5 := H4.drewn hD5
  refine wl_val (r_pick_t rfl rfl) (ltn rfl) ?_
  refine wl_split rfl (ltn rfl) (fun h2 => ?_) (fun h => by exfalso; (try simp only [beq_iff_eq, bne_iff_ne, ne_eq, decide_eq_true_eq, decide_eq_false_iff_not, beq_eq_false_iff_ne, bne_eq_false_iff_eq, Bool.not_eq_true', Bool.not_eq_false', Bool.not_eq_eq_eq_not, Bool.not_true, Bool.not_false, gt_iff_lt, ge_iff_le, Int.not_lt, Int.not_le] at h); simp at h)
  (try simp only [beq_iff_eq, bne_iff_ne, ne_eq, decide_eq_true_eq, decide_eq_false_iff_not, beq_eq_false_iff_ne, bne_eq_false_iff_eq, Bool.not_eq_true', Bool.not_eq_false', Bool.not_eq_eq_eq_not, Bool.not_true, Bool.not_false, gt_iff_lt, ge_iff_le, Int.not_lt, Int.not_le] at h2)
  refine wl_yes rfl rfl ?_
  refine wl_eff (e_call (r_call rfl Tryd.func19 rfl rfl) (width_ret HD5 hT)) (ltn rfl) ?_
  rintro _ w6 ⟨rfl, H6⟩
  rw [show widthM 19968 = 2 from by decide]
  refine wl_yes rfl rfl ?_
  refine wl_val (r_eql rfl rfl) (ltn rfl) ?_
  refine wl_val (r_pick_t rfl rfl) (ltn rfl) ?_
  refine wl_split rfl (ltn rfl) (fun h3 => ?_) (fun h => by exfalso; (try simp only [beq_iff_eq, bne_iff_ne, ne_eq, decide_eq_true_eq, decide_eq_false_iff_not, beq_eq_false_iff_ne, bne_eq_false_iff_eq, Bool.not_eq_true', Bool.not_eq_false', Bool.not_eq_eq_eq_not, Bool.not_true, Bool.not_false, gt_iff_lt, ge_iff_le, Int.not_lt, Int.not_le] at h); simp at h)
  (try simp only [beq_iff_eq, bne_iff_ne, ne_eq, decide_eq_true_eq, decide_eq_false_iff_not, beq_eq_false_iff_ne, bne_eq_false_iff_eq, Bool.not_eq_true', Bool.not_eq_false', Bool.not_eq_eq_eq_not, Bool.not_true, Bool.not_false, gt_iff_lt, ge_iff_le, Int.not_lt, Int.not_le] at h3)
  refine wl_yes rfl rfl ?_
  refine wl_eff (e_lit_ints (k := .i32) (l := [1]) H6 Tryd.underlying22 Tryd.sizeOf21 Tryd.zeroValue21 rfl rfl rfl (by decide)) (ltn rfl) ?_
  rintro l7 w7 H7
  refine wl_yes rfl rfl ?_
  refine wl_eff (e_call (r_call rfl Tryd.func12 rfl rfl) (cells_ret H7 hT (fun W HW => (HW).row_rd) (by unfold Runs32; decide) (by decide) (by decide))) (ltn rfl) ?_
  rintro u8 w8 H8
  rw [show cellsM [1] 0 = [(hatS, 1), (Utf8.encode (bits .xor .i32 1 64), 1)] from by decide +kernel] at H8
  refine wl_yes rfl rfl ?_
  refine wl_val (r_lenS ((H8).row_rd) Tryd.underlying23 rfl) (ltn rfl) ?_
  refine wl_yes rfl rfl ?_
  refine wl_val (r_eql rfl rfl) (ltn rfl) ?_
  refine wl_val (r_pick_t rfl rfl) (ltn rfl) ?_
  refine wl_split rfl (ltn rfl) (fun h4 => ?_) (fun h => by exfalso; (try simp only [beq_iff_eq, bne_iff_ne, ne_eq, decide_eq_true_eq, decide_eq_false_iff_not, beq_eq_false_iff_ne, bne_eq_false_iff_eq, Bool.not_eq_true', Bool.not_eq_false', Bool.not_eq_eq_eq_not, Bool.not_true, Bool.not_false, gt_iff_lt, ge_iff_le, Int.not_lt, Int.not_le] at h); simp at h)
  (try simp only [beq_iff_eq, bne_iff_ne, ne_eq, decide_eq_true_eq, decide_eq_false_iff_not, beq_eq_false_iff_ne, bne_eq_false_iff_eq, Bool.not_eq_true', Bool.not_eq_false', Bool.not_eq_eq_eq_not, Bool.not_true, Bool.not_false, gt_iff_lt, ge_iff_le, Int.not_lt, Int.not_le] at h4)
  refine wl_yes rfl rfl ?_
  refine wl_val (r_move rfl) (ltn rfl) ?_
  refine wl_yes rfl rfl ?_
  refine wl_eff (e_lit_ints (k := .u8) (l := [195]) H8 Tryd.underlying39 Tryd.sizeOf5 Tryd.zeroValue5 rfl rfl rfl (by decide)) (ltn rfl) ?_
  rintro l9 w9 H9
  refine wl_yes rfl rfl ?_
  refine wl_eff (e_call (r_call rfl Tryd.func22 rfl rfl) (dec_put_ret H9.f5 hU (fun W HW => (HW).row_rd) (by unfold Byts; decide) (by unfold Byts; decide) (by decide))) (ltn rfl) ?_
  rintro u10 w10 H10
  rw [show putM ([] ++ [195]) = ([], [195]) from by decide] at H10
  refine wl_yes rfl rfl ?_
  refine wl_val (r_lenR ((H10).row_rd) Tryd.underlying22 rfl) (ltn rfl) ?_
  refine wl_yes rfl rfl ?_
  refine wl_val (r_eql rfl rfl) (ltn rfl) ?_
  refine wl_val (r_pick_t rfl rfl) (ltn rfl) ?_
  refine wl_split rfl (ltn rfl) (fun h5 => ?_) (fun h => by exfalso; (try simp only [beq_iff_eq, bne_iff_ne, ne_eq, decide_eq_true_eq, decide_eq_false_iff_not, beq_eq_false_iff_ne, bne_eq_false_iff_eq, Bool.not_eq_true', Bool.not_eq_false', Bool.not_eq_eq_eq_not, Bool.not_true, Bool.not_false, gt_iff_lt, ge_iff_le, Int.not_lt, Int.not_le] at h); simp at h)
  (try simp only [beq_iff_eq, bne_iff_ne, ne_eq, decide_eq_true_eq, decide_eq_false_iff_not, beq_eq_false_iff_ne, bne_eq_false_iff_eq, Bool.not_eq_true', Bool.not_eq_false', Bool.not_eq_eq_eq_not, Bool.not_true, Bool.not_false, gt_iff_lt, ge_iff_le, Int.not_lt, Int.not_le] at h5)
  refine wl_yes rfl rfl ?_
  refine wl_val (r_move rfl) (ltn rfl) ?_
  refine wl_yes rfl rfl ?_
  refine wl_eff (e_call (r_call rfl Tryd.func24 rfl rfl) (dec_pending_ret H10.f2)) (ltn rfl) ?_
  rintro _ w11 ⟨rfl, H11⟩
  refine wl_yes rfl rfl ?_
  refine wl_val (r_known_t (r_eql rfl rfl) (by simp)) (ltn rfl) ?_
  refine wl_val (r_pick_t rfl rfl) (ltn rfl) ?_
  refine wl_val (r_assign rfl) (ltn rfl) ?_
  refine wl_nil ?_
  refine wq_seq ?_
  refine wc_ret ?_
  refine wq_end1 (.inl rfl) Tryd.results13 rfl ?_
  exact ⟨rfl, H11.right.right.right.right.right.right.right.right⟩
end
end Go.Proofs.YtmkmffoadapmnaaDoor
