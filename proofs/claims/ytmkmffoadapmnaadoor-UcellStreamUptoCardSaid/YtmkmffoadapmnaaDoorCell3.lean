/- Places that runes take, walked: the document's. -/
import Derived.Test.YtmkmffoadapmnaaDoorCell2
set_option linter.unusedSimpArgs false
set_option linter.unusedVariables false
namespace Go.Proofs.YtmkmffoadapmnaaDoor
open Go.RowKit
section
variable {w0 w : World} {F : HP} {v u : Value} {cs ds : List Cel} {c : Nat} {r col : Int} {s : ByteArray} {ts : List ByteArray} {l : List Int}
theorem ref_one_ret (H : Holds w0 w F) : Ret Tryd.prog 43 #[.string s] w fun v w' => v = .agg (celE (s, 1)).toArray ∧ Holds w0 w' F := by
  refine ret_enter Tryd.func43 rfl Tryd.ntmps43 (Nat.le_of_ble_eq_true rfl) ?_
  dsimp only [slots0, Nat.reduceAdd]
  refine wc_seq ?_
  refine wc_region ?_
  refine wl_eff (e_allocL (l := [_, _, _]) H Tryd.zeroValue26 rfl) (ltn rfl) ?_
  rintro _ w1 ⟨b1, rfl, H1⟩
  refine wl_nil ?_
  refine wq_seq ?_
  refine wc_seq ?_
  refine wc_region ?_
  refine wl_val (r_move rfl) (ltn rfl) ?_
  refine wl_val (r_build (pl := #[(0, 1), (1, 1), (2, 1)]) (_) Tryd.underlying26 Tryd.zeroValue26 (fun w => by kernel_rfl) rfl (rfl)) (ltn rfl) ?_
  refine wl_eff0 (e_storePL 0 (l' := [_, _, _]) (us := [_, _, _]) H1 Tryd.sizeOf26 rfl rfl rfl (ones_cons (by first | rfl | assumption) (ones_cons (by first | rfl | assumption) (ones_cons (by first | rfl | assumption) ones_nil))) rfl rfl) ?_
  rintro _ w2 H2
  refine wl_nil ?_
  refine wq_seq ?_
  refine wc_ret ?_
  refine wq_end (.inl rfl) (resC Tryd.results43 rfl Tryd.underlying26 rfl (by rw [show (Tryd.prog.info? 26).map (·.size) = some 3 from by kernel_rfl]; rfl) (H2).get.2) ?_
  exact ⟨rfl, H2.right⟩
theorem joins_ret (H : Holds w0 w (Row 26 3 v cs.length (cs.flatMap celE) • F)) (hb : cs.length ≤ 34359738368) (hw : -2147483648 ≤ r ∧ r < 2147483648) :
    Ret Tryd.prog 45 #[v, .int .i32 r] w fun v' w' => Holds w0 w' (Row 26 3 v' (joinM cs (Utf8.encode r)).length ((joinM cs (Utf8.encode r)).flatMap celE) • F) := by
  have hes := enc_size r
  unfold joinM
  refine ret_enter Tryd.func45 rfl Tryd.ntmps45 (Nat.le_of_ble_eq_true rfl) ?_
  dsimp only [slots0, Nat.reduceAdd]
  refine wc_seq ?_
  refine wc_region ?_
  refine wl_val (r_assign rfl) (ltn rfl) ?_
  refine wl_nil ?_
  refine wq_seq ?_
  refine wc_seq ?_
  refine wc_region ?_
  refine wl_val (r_move rfl) (ltn rfl) ?_
  refine wl_eff (e_call (r_call rfl Tryd.func44 rfl rfl) (form_ret H hw)) (ltn rfl) ?_
  rintro u1 w1 H1
  refine wl_val (r_bytes_str Tryd.underlying39 Tryd.underlying9 Tryd.underlying5 rfl ((H1).row_rd)) (ltn rfl) ?_
  refine wl_val (r_assign rfl) (ltn rfl) ?_
  rw [enc_bytes]
  have Ho2 := H1.right
  refine wl_nil ?_
  refine wq_seq ?_
  refine wc_seq ?_
  refine wc_seq ?_
  refine wc_region ?_
  refine wl_val (r_move rfl) (ltn rfl) ?_
  refine wl_val (r_lenS ((Ho2).row_rd) Tryd.underlying23 rfl) (ltn rfl) ?_
  refine wl_val (r_sub rfl rfl (by omega)) (ltn rfl) ?_
  refine wl_val (r_assign rfl) (ltn rfl) ?_
  refine wl_nil ?_
  refine wq_seq ?_
  refine wc_block ?_
  obtain ⟨av, cv, ev, -⟩ := ((Ho2).row_rd).form
  subst ev
  refine wc_loop [(0, _), (5, _)] (fun (k : Nat) => [(6, .int .i64 ((k : Int) - 1))]) (fun (k : Nat) W => (k ≤ cs.length ∧ joinF k cs (Utf8.encode r) = joinF cs.length cs (Utf8.encode r)) ∧ Holds w0 W (Row 26 3 (.slice av cs.length cv) cs.length (cs.flatMap celE) • F)) (fun (k : Nat) => k) (cs.length) (Sub.cons rfl (Sub.cons rfl (Sub.nil _))) (Sub.cons rfl (Sub.nil _)) ⟨⟨by omega, rfl⟩, Ho2⟩ ?_
  rintro k w4 ⟨⟨hk, hj⟩, HL⟩
  dsimp only [List.cons_append, List.nil_append]
  refine wc_seq ?_
  refine wc_seq ?_
  refine wc_region ?_
  refine wl_val (r_move rfl) (ltn rfl) ?_
  refine wl_val (r_geq rfl rfl) (ltn rfl) ?_
  refine wl_nil ?_
  refine wq_seq ?_
  refine wc_cond rfl (fun h1 => ?_) (fun h1 => ?_)
  · (try simp only [beq_iff_eq, bne_iff_ne, ne_eq, decide_eq_true_eq, decide_eq_false_iff_not, beq_eq_false_iff_ne, bne_eq_false_iff_eq, Bool.not_eq_true', Bool.not_eq_false', Bool.not_eq_eq_eq_not, Bool.not_true, Bool.not_false, gt_iff_lt, ge_iff_le, Int.not_lt, Int.not_le] at h1)
    
    refine wc_skip ?_
    refine wq_seq ?_
    refine wc_seq ?_
    refine wc_block ?_
    refine wc_seq ?_
    refine wc_seq ?_
    obtain ⟨m, rfl⟩ : ∃ m, k = m + 1 := ⟨k - 1, by omega⟩
    rw [show (((m + 1 : Nat) : Int) - 1) = (m : Int) from by omega]
    have hml : m < cs.length := by omega
    have hat := (cel_at hml).1
    rw [joinF] at hj
    refine wc_region ?_
    refine wl_val (r_move rfl) (ltn rfl) ?_
    refine wl_val (r_move rfl) (ltn rfl) ?_
    obtain ⟨bv, ov, rfl⟩ := Rd.pos ((HL).row_rd) (by omega)
    refine wl_val (r_index Tryd.underlying23 Tryd.sizeOf26 rfl rfl (by omega)) (ltn rfl) ?_
    refine wl_val ((by first | exact r_field0 0 Tryd.underlying26 rfl rfl Tryd.sizeOf9 (by decide) rfl | exact r_field 0 Tryd.underlying26 rfl rfl Tryd.sizeOf9 (by decide) rfl)) (ltn rfl) ?_
    refine wl_val (r_load (plain_of Tryd.underlying9 rfl) rfl (Rd.atS ((HL).row_rd) (by omega) (by decide))) (ltn rfl) ?_
    rw [hat]
    refine wl_val (r_str_eql rfl rfl) (ltn rfl) ?_
    refine wl_nil ?_
    refine wq_seq ?_
    refine wc_cond rfl (fun h2 => ?_) (fun h2 => ?_)
    · (try simp only [beq_iff_eq, bne_iff_ne, ne_eq, decide_eq_true_eq, decide_eq_false_iff_not, beq_eq_false_iff_ne, bne_eq_false_iff_eq, Bool.not_eq_true', Bool.not_eq_false', Bool.not_eq_eq_eq_not, Bool.not_true, Bool.not_false, gt_iff_lt, ge_iff_le, Int.not_lt, Int.not_le] at h2)
      rw [if_pos (show (cs.getD m (emptyS, 0)).1.toList = [] from by have h9 := h2; rwa [nilS] at h9)] at hj
      refine wc_exit ?_
      refine wq_then_exit ?_
      refine wq_block_hit ?_
      refine wq_seq ?_
      refine wc_region ?_
      refine wl_val (r_move rfl) (ltn rfl) ?_
      refine wl_val (r_sub rfl rfl (by omega)) (ltn rfl) ?_
      refine wl_val (r_assign rfl) (ltn rfl) ?_
      refine wl_nil ?_
      refine wq_round (m) ?_ ?_ ?_ ?_
      · exact (Sub.cons rfl (Sub.nil _))
      · exact (Sub.cons rfl (Sub.cons rfl (Sub.nil _)))
      · (try dsimp only)
        exact ⟨⟨by omega, hj⟩, HL⟩
      · (try dsimp only); omega
    · (try simp only [beq_iff_eq, bne_iff_ne, ne_eq, decide_eq_true_eq, decide_eq_false_iff_not, beq_eq_false_iff_ne, bne_eq_false_iff_eq, Bool.not_eq_true', Bool.not_eq_false', Bool.not_eq_eq_eq_not, Bool.not_true, Bool.not_false, gt_iff_lt, ge_iff_le, Int.not_lt, Int.not_le] at h2)
      rw [if_neg (show ¬ (cs.getD m (emptyS, 0)).1.toList = [] from by have h9 := h2; rwa [nilS] at h9)] at hj
      refine wc_skip ?_
      refine wq_seq ?_
      refine wc_seq ?_
      refine wc_seq ?_
      refine wc_region ?_
      refine wl_val (r_move rfl) (ltn rfl) ?_
      refine wl_val (r_move rfl) (ltn rfl) ?_
      refine wl_val (r_index Tryd.underlying23 Tryd.sizeOf26 rfl rfl (by omega)) (ltn rfl) ?_
      refine wl_val ((by first | exact r_field0 0 Tryd.underlying26 rfl rfl Tryd.sizeOf9 (by decide) rfl | exact r_field 0 Tryd.underlying26 rfl rfl Tryd.sizeOf9 (by decide) rfl)) (ltn rfl) ?_
      refine wl_val (r_load (plain_of Tryd.underlying9 rfl) rfl (Rd.atS ((HL).row_rd) (by omega) (by decide))) (ltn rfl) ?_
      rw [hat]
      refine wl_val (r_len_str Tryd.underlying9 rfl) (ltn rfl) ?_
      refine wl_val (r_leq rfl rfl) (ltn rfl) ?_
      refine wl_nil ?_
      refine wq_seq ?_
      refine wc_cond rfl (fun h3 => ?_) (fun h3 => ?_)
      · (try simp only [beq_iff_eq, bne_iff_ne, ne_eq, decide_eq_true_eq, decide_eq_false_iff_not, beq_eq_false_iff_ne, bne_eq_false_iff_eq, Bool.not_eq_true', Bool.not_eq_false', Bool.not_eq_eq_eq_not, Bool.not_true, Bool.not_false, gt_iff_lt, ge_iff_le, Int.not_lt, Int.not_le] at h3)
        rw [if_pos (show (cs.getD m (emptyS, 0)).1.size ≤ 32 by omega)] at hj
        have hsz : (cs.getD m (emptyS, 0)).1.size ≤ 32 := by omega
        refine wc_region ?_
        refine wl_val (r_move rfl) (ltn rfl) ?_
        refine wl_val (r_move rfl) (ltn rfl) ?_
        refine wl_val (r_index Tryd.underlying23 Tryd.sizeOf26 rfl rfl (by omega)) (ltn rfl) ?_
        refine wl_val ((by first | exact r_field0 0 Tryd.underlying26 rfl rfl Tryd.sizeOf9 (by decide) rfl | exact r_field 0 Tryd.underlying26 rfl rfl Tryd.sizeOf9 (by decide) rfl)) (ltn rfl) ?_
        refine wl_val (r_load (plain_of Tryd.underlying9 rfl) rfl (Rd.atS ((HL).row_rd) (by omega) (by decide))) (ltn rfl) ?_
        rw [hat]
        refine wl_val (r_move rfl) (ltn rfl) ?_
        refine wl_val (r_str_add rfl rfl (by omega)) (ltn rfl) ?_
        refine wl_val (r_index Tryd.underlying23 Tryd.sizeOf26 rfl rfl (by omega)) (ltn rfl) ?_
        refine wl_val ((by first | exact r_field0 0 Tryd.underlying26 rfl rfl Tryd.sizeOf9 (by decide) rfl | exact r_field 0 Tryd.underlying26 rfl rfl Tryd.sizeOf9 (by decide) rfl)) (ltn rfl) ?_
        refine wl_eff0 (e_store_rowS 0 HL Tryd.sizeOf9 rfl rfl (by first | rfl | assumption) (by omega) (by decide)) ?_
        rintro _ w5 H5
        rw [show ((m : Int).toNat * 3 + 0) = m * 3 + 0 from by omega, cel_set hml] at H5
        have HZ : Holds w0 w5 (Row 26 3 (.slice (some ⟨bv, ov, none⟩) (cs.length) cv) (cs.set m ((cs.getD m (emptyS, 0)).1 ++ Utf8.encode r, (cs.getD m (emptyS, 0)).2)).length ((cs.set m ((cs.getD m (emptyS, 0)).1 ++ Utf8.encode r, (cs.getD m (emptyS, 0)).2)).flatMap celE) • F) := by rw [List.length_set]; exact H5
        refine wl_nil ?_
        refine wq_seq ?_
        refine wc_seq ?_
        refine wc_region ?_
        refine wl_val (r_move rfl) (ltn rfl) ?_
        refine wl_val (r_assign rfl) (ltn rfl) ?_
        refine wl_nil ?_
        refine wq_seq ?_
        refine wc_ret ?_
        refine wq_block_ret ?_
        refine wq_then_ret ?_
        refine wq_then_ret ?_
        refine wq_block_ret ?_
        refine wq_then_ret ?_
        refine wq_end1 (.inl rfl) Tryd.results45 rfl ?_
        rw [← hj]
        exact HZ
      · (try simp only [beq_iff_eq, bne_iff_ne, ne_eq, decide_eq_true_eq, decide_eq_false_iff_not, beq_eq_false_iff_ne, bne_eq_false_iff_eq, Bool.not_eq_true', Bool.not_eq_false', Bool.not_eq_eq_eq_not, Bool.not_true, Bool.not_false, gt_iff_lt, ge_iff_le, Int.not_lt, Int.not_le] at h3)
        rw [if_neg (show ¬ (cs.getD m (emptyS, 0)).1.size ≤ 32 by omega)] at hj
        have HZ := HL
        refine wc_skip ?_
        refine wq_seq ?_
        refine wc_seq ?_
        refine wc_region ?_
        refine wl_val (r_move rfl) (ltn rfl) ?_
        refine wl_val (r_assign rfl) (ltn rfl) ?_
        refine wl_nil ?_
        refine wq_seq ?_
        refine wc_ret ?_
        refine wq_block_ret ?_
        refine wq_then_ret ?_
        refine wq_then_ret ?_
        refine wq_block_ret ?_
        refine wq_then_ret ?_
        refine wq_end1 (.inl rfl) Tryd.results45 rfl ?_
        rw [← hj]
        exact HZ
  · (try simp only [beq_iff_eq, bne_iff_ne, ne_eq, decide_eq_true_eq, decide_eq_false_iff_not, beq_eq_false_iff_ne, bne_eq_false_iff_eq, Bool.not_eq_true', Bool.not_eq_false', Bool.not_eq_eq_eq_not, Bool.not_true, Bool.not_false, gt_iff_lt, ge_iff_le, Int.not_lt, Int.not_le] at h1)
    
    refine wc_exit ?_
    refine wq_then_exit ?_
    refine wq_then_exit ?_
    refine wq_block_hit ?_
    refine wq_seq ?_
    refine wc_seq ?_
    refine wc_region ?_
    refine wl_val (r_move rfl) (ltn rfl) ?_
    refine wl_val (r_move rfl) (ltn rfl) ?_
    refine wl_val (r_str_add rfl rfl (by have := oneS 32; omega)) (ltn rfl) ?_
    refine wl_eff (e_call (r_call rfl Tryd.func43 rfl rfl) (ref_one_ret HL)) (ltn rfl) ?_
    rintro _ w6 ⟨rfl, H6⟩
    refine wl_eff (e_lit_one H6 Tryd.underlying23 Tryd.sizeOf26 Tryd.zeroValue26 rfl rfl rfl (by decide) (by decide)) (ltn rfl) ?_
    rintro l7 w7 H7
    refine wl_eff (e_append H7.f2 Tryd.underlying23 (show (Tryd.prog.info? 26).map (fun i => (i.zero, i.size, i.bytes)) = some (some (.agg #[.string .empty, .int .i64 0, .int .i64 0]), 3, 32) by kernel_rfl) rfl rfl rfl ((H7).row_rd) (ones_cons (by first | rfl | assumption) (ones_cons (by first | rfl | assumption) (ones_cons (by first | rfl | assumption) ones_nil))) (by omega) (by omega)) (ltn rfl) ?_
    rintro l8 w8 H8
    have Hd9 := H8.f2.right
    refine wl_val (r_assign rfl) (ltn rfl) ?_
    refine wl_nil ?_
    refine wq_seq ?_
    refine wc_ret ?_
    refine wq_end1 (.inl rfl) Tryd.results45 rfl ?_
    obtain rfl : k = 0 := by omega
    rw [← hj]
    exact crow_one (c := (blankS ++ Utf8.encode r, 1)) Hd9
theorem ref_cells_ret (H : Holds w0 w F) (hv : FRdI w0 F .i32 v l) (hl : Runs32 l) (hL : l.length ≤ 4294967295) (hcol : col ≤ 9223372036854775807) :
    Ret Tryd.prog 14 #[v, .int .i64 col] w fun v' w' => Holds w0 w' (Row 26 3 v' (cellsM l col).length ((cellsM l col).flatMap celE) • F) := by
  obtain ⟨hC, hC0⟩ := col_int col
  unfold cellsM
  generalize colM col = C at *
  refine ret_enter Tryd.func14 rfl Tryd.ntmps14 (Nat.le_of_ble_eq_true rfl) ?_
  dsimp only [slots0, Nat.reduceAdd]
  refine wc_seq ?_
  refine wc_region ?_
  refine wl_val (r_assign rfl) (ltn rfl) ?_
  refine wl_nil ?_
  refine wq_seq ?_
  refine wc_seq ?_
  refine wc_region ?_
  refine wl_val (r_assign rfl) (ltn rfl) ?_
  refine wl_nil ?_
  refine wq_seq ?_
  refine wc_seq ?_
  refine wc_region ?_
  refine wl_val (r_move rfl) (ltn rfl) ?_
  refine wl_val (r_max rfl rfl) (ltn rfl) ?_
  refine wl_val (r_rem rfl rfl (by omega) (by  omega)) (ltn rfl) ?_
  refine wl_val (r_assign rfl) (ltn rfl) ?_
  refine wl_nil ?_
  refine wq_seq ?_
  refine wc_seq ?_
  refine wc_seq ?_
  refine wc_region ?_
  refine wl_val (r_assign rfl) (ltn rfl) ?_
  refine wl_nil ?_
  refine wq_seq ?_
  refine wc_block ?_
  rw [← hC]
  refine wc_loop [(0, _), (1, _)] (fun (⟨k, u⟩ : Nat × Value) => [(6, .int .i64 (k : Int)), (5, u)]) (fun (⟨k, u⟩ : Nat × Value) W => k ≤ l.length ∧ Holds w0 W (Row 26 3 u (cellsF C (l.take k)).length ((cellsF C (l.take k)).flatMap celE) • F)) (fun (⟨k, u⟩ : Nat × Value) => l.length - k) ((0, .slice none 0 0)) (Sub.cons rfl (Sub.cons rfl (Sub.nil _))) (Sub.cons rfl (Sub.cons rfl (Sub.nil _))) ⟨by omega, H.row_nil none⟩ ?_
  rintro ⟨k, u⟩ w1 ⟨hk, HL⟩
  dsimp only [List.cons_append, List.nil_append]
  refine wc_seq ?_
  refine wc_seq ?_
  refine wc_region ?_
  refine wl_val (r_move rfl) (ltn rfl) ?_
  refine wl_val (r_move rfl) (ltn rfl) ?_
  refine wl_val (r_lenR (hv _ (HL.right)) Tryd.underlying22 rfl) (ltn rfl) ?_
  refine wl_val (r_lss rfl rfl) (ltn rfl) ?_
  refine wl_nil ?_
  refine wq_seq ?_
  refine wc_cond rfl (fun h1 => ?_) (fun h1 => ?_)
  · (try simp only [beq_iff_eq, bne_iff_ne, ne_eq, decide_eq_true_eq, decide_eq_false_iff_not, beq_eq_false_iff_ne, bne_eq_false_iff_eq, Bool.not_eq_true', Bool.not_eq_false', Bool.not_eq_eq_eq_not, Bool.not_true, Bool.not_false, gt_iff_lt, ge_iff_le, Int.not_lt, Int.not_le] at h1)
    
    refine wc_skip ?_
    refine wq_seq ?_
    refine wc_seq ?_
    refine wc_block ?_
    refine wc_seq ?_
    refine wc_region ?_
    refine wl_val (r_move rfl) (ltn rfl) ?_
    refine wl_val (r_move rfl) (ltn rfl) ?_
    obtain ⟨bv, ov, cv, ev⟩ := RdI.posV (hv _ (HL.right)) (by omega)
    cases ev
    refine wl_val (r_index Tryd.underlying22 Tryd.sizeOf21 rfl rfl (by omega)) (ltn rfl) ?_
    refine wl_val (r_load (plain_of Tryd.underlying21 rfl) rfl (by first | exact RdI.at1n (hv _ (HL.right)) (by omega) | exact RdI.at0 (hv _ (HL.right)) (by omega) | exact RdI.at1 (hv _ (HL.right)) (by omega))) (ltn rfl) ?_
    have hkl : k < l.length := by omega
    have hbn := cellsF_len C l k
    obtain ⟨hw1, hw2⟩ := run_at hl hkl
    obtain ⟨r, hr⟩ : ∃ r, l.getD k 0 = r := ⟨_, rfl⟩
    rw [hr] at hw1 hw2 ⊢
    generalize hbase : cellsF C (l.take k) = base at *
    refine wl_val (r_assign rfl) (ltn rfl) ?_
    refine wl_nil ?_
    refine wq_seq ?_
    refine wc_block ?_
    refine wc_seq ?_
    refine wc_region ?_
    refine wl_val (r_move rfl) (ltn rfl) ?_
    refine wl_val (r_eql rfl rfl) (ltn rfl) ?_
    refine wl_val (r_assign rfl) (ltn rfl) ?_
    refine wl_nil ?_
    refine wq_seq ?_
    refine wc_cond rfl (fun h2 => ?_) (fun h2 => ?_)
    · (try simp only [beq_iff_eq, bne_iff_ne, ne_eq, decide_eq_true_eq, decide_eq_false_iff_not, beq_eq_false_iff_ne, bne_eq_false_iff_eq, Bool.not_eq_true', Bool.not_eq_false', Bool.not_eq_eq_eq_not, Bool.not_true, Bool.not_false, gt_iff_lt, ge_iff_le, Int.not_lt, Int.not_le] at h2)
      have q1 := h2
      refine wc_seq ?_
      refine wc_region ?_
      refine wl_val (r_move rfl) (ltn rfl) ?_
      refine wl_val (r_move rfl) (ltn rfl) ?_
      refine wl_val (r_lenS ((HL).row_rd) Tryd.underlying23 rfl) (ltn rfl) ?_
      refine wl_val (r_add rfl rfl (by omega)) (ltn rfl) ?_
      refine wl_val (r_rem rfl rfl (by omega) (by  omega)) (ltn rfl) ?_
      refine wl_val (r_sub rfl rfl (by omega)) (ltn rfl) ?_
      refine wl_val (r_assign rfl) (ltn rfl) ?_
      refine wl_nil ?_
      refine wq_seq ?_
      refine wc_block ?_
      refine wc_loop [(0, _), (1, _), (6, _)] (fun (⟨j, u⟩ : Nat × Value) => [(8, .int .i64 ((8 - (C + base.length) % 8 - j : Nat) : Int)), (5, u)]) (fun (⟨j, u⟩ : Nat × Value) W => j ≤ 8 - (C + base.length) % 8 ∧ Holds w0 W (Row 26 3 u (base ++ List.replicate j (blankS, (1 : Int))).length ((base ++ List.replicate j (blankS, (1 : Int))).flatMap celE) • F)) (fun (⟨j, u⟩ : Nat × Value) => 8 - j) ((0, u)) (Sub.cons rfl (Sub.cons rfl (Sub.cons rfl (Sub.nil _)))) (Sub.cons' rfl (by congr 1; omega) (Sub.cons rfl (Sub.nil _))) ⟨by omega, by simpa using HL⟩ ?_
      rintro ⟨j, u⟩ w2 ⟨hj, HM⟩
      dsimp only [List.cons_append, List.nil_append]
      refine wc_seq ?_
      refine wc_seq ?_
      refine wc_region ?_
      refine wl_val (r_move rfl) (ltn rfl) ?_
      refine wl_val (r_gtr rfl rfl) (ltn rfl) ?_
      refine wl_nil ?_
      refine wq_seq ?_
      refine wc_cond rfl (fun h3 => ?_) (fun h3 => ?_)
      · (try simp only [beq_iff_eq, bne_iff_ne, ne_eq, decide_eq_true_eq, decide_eq_false_iff_not, beq_eq_false_iff_ne, bne_eq_false_iff_eq, Bool.not_eq_true', Bool.not_eq_false', Bool.not_eq_eq_eq_not, Bool.not_true, Bool.not_false, gt_iff_lt, ge_iff_le, Int.not_lt, Int.not_le] at h3)
        
        refine wc_skip ?_
        refine wq_seq ?_
        refine wc_seq ?_
        refine wc_block ?_
        have hrl : (base ++ List.replicate j (blankS, (1 : Int))).length = base.length + j := by simp
        have hjm : j < 8 - (C + base.length) % 8 := by omega
        refine wc_region ?_
        refine wl_val (r_move rfl) (ltn rfl) ?_
        refine wl_eff (e_call (r_call rfl Tryd.func43 rfl rfl) (ref_one_ret HM)) (ltn rfl) ?_
        rintro _ w3 ⟨rfl, H3⟩
        refine wl_eff (e_lit_one H3 Tryd.underlying23 Tryd.sizeOf26 Tryd.zeroValue26 rfl rfl rfl (by decide) (by decide)) (ltn rfl) ?_
        rintro l4 w4 H4
        refine wl_eff (e_append H4.f2 Tryd.underlying23 (show (Tryd.prog.info? 26).map (fun i => (i.zero, i.size, i.bytes)) = some (some (.agg #[.string .empty, .int .i64 0, .int .i64 0]), 3, 32) by kernel_rfl) rfl rfl rfl ((H4).row_rd) (ones_cons (by first | rfl | assumption) (ones_cons (by first | rfl | assumption) (ones_cons (by first | rfl | assumption) ones_nil))) (by omega) (by omega)) (ltn rfl) ?_
        rintro l5 w5 H5
        have Hd6 := H5.f2.right
        refine wl_val (r_assign rfl) (ltn rfl) ?_
        refine wl_nil ?_
        refine wq_block_normal ?_
        refine wq_seq ?_
        refine wc_region ?_
        refine wl_val (r_move rfl) (ltn rfl) ?_
        refine wl_val (r_sub rfl rfl (by omega)) (ltn rfl) ?_
        refine wl_val (r_assign rfl) (ltn rfl) ?_
        refine wl_nil ?_
        refine wq_round ((j + 1, l5)) ?_ ?_ ?_ ?_
        · exact (Sub.cons' rfl (by congr 1; omega) (Sub.cons rfl (Sub.nil _)))
        · exact (Sub.cons rfl (Sub.cons rfl (Sub.cons rfl (Sub.nil _))))
        · (try dsimp only)
          exact ⟨by omega, by have HQ := crow_one (c := (blankS, 1)) Hd6; rw [List.append_assoc] at HQ; rw [List.replicate_succ']; exact HQ⟩
        · (try dsimp only); omega
      · (try simp only [beq_iff_eq, bne_iff_ne, ne_eq, decide_eq_true_eq, decide_eq_false_iff_not, beq_eq_false_iff_ne, bne_eq_false_iff_eq, Bool.not_eq_true', Bool.not_eq_false', Bool.not_eq_eq_eq_not, Bool.not_true, Bool.not_false, gt_iff_lt, ge_iff_le, Int.not_lt, Int.not_le] at h3)
        have HN : Holds w0 w2 (Row 26 3 u (stepC C base r).length ((stepC C base r).flatMap celE) • F) := by
          unfold stepC
          rw [if_pos q1, show 8 - (C + base.length) % 8 = j from by omega]
          exact HM
        refine wc_exit ?_
        refine wq_then_exit ?_
        refine wq_then_exit ?_
        refine wq_block_hit ?_
        refine wq_block_normal ?_
        refine wq_block_normal ?_
        refine wq_seq ?_
        refine wc_region ?_
        refine wl_val (r_move rfl) (ltn rfl) ?_
        refine wl_val (r_add rfl rfl (by omega)) (ltn rfl) ?_
        refine wl_val (r_assign rfl) (ltn rfl) ?_
        refine wl_nil ?_
        refine wq_round ((k + 1, u)) ?_ ?_ ?_ ?_
        · exact (Sub.cons rfl (Sub.cons rfl (Sub.nil _)))
        · exact (Sub.cons rfl (Sub.cons rfl (Sub.nil _)))
        · (try dsimp only)
          exact ⟨by omega, by rw [cells_snoc C l k hkl, hr, hbase]; exact HN⟩
        · (try dsimp only); omega
    · (try simp only [beq_iff_eq, bne_iff_ne, ne_eq, decide_eq_true_eq, decide_eq_false_iff_not, beq_eq_false_iff_ne, bne_eq_false_iff_eq, Bool.not_eq_true', Bool.not_eq_false', Bool.not_eq_eq_eq_not, Bool.not_true, Bool.not_false, gt_iff_lt, ge_iff_le, Int.not_lt, Int.not_le] at h2)
      have q1 := h2
      refine wc_seq ?_
      refine wc_region ?_
      refine wl_val (r_move rfl) (ltn rfl) ?_
      refine wl_val (r_geq rfl rfl) (ltn rfl) ?_
      refine wl_split rfl (ltn rfl) (fun h4 => ?_) (fun h4 => ?_)
      · (try simp only [beq_iff_eq, bne_iff_ne, ne_eq, decide_eq_true_eq, decide_eq_false_iff_not, beq_eq_false_iff_ne, bne_eq_false_iff_eq, Bool.not_eq_true', Bool.not_eq_false', Bool.not_eq_eq_eq_not, Bool.not_true, Bool.not_false, gt_iff_lt, ge_iff_le, Int.not_lt, Int.not_le] at h4)
        refine wl_yes rfl rfl ?_
        refine wl_val (r_move rfl) (ltn rfl) ?_
        refine wl_yes rfl rfl ?_
        refine wl_val (r_lss rfl rfl) (ltn rfl) ?_
        refine wl_val (r_pick_t rfl rfl) (ltn rfl) ?_
        refine wl_split rfl (ltn rfl) (fun h5 => ?_) (fun h5 => ?_)
        · (try simp only [beq_iff_eq, bne_iff_ne, ne_eq, decide_eq_true_eq, decide_eq_false_iff_not, beq_eq_false_iff_ne, bne_eq_false_iff_eq, Bool.not_eq_true', Bool.not_eq_false', Bool.not_eq_eq_eq_not, Bool.not_true, Bool.not_false, gt_iff_lt, ge_iff_le, Int.not_lt, Int.not_le] at h5)
          refine wl_no rfl rfl rfl (ltn rfl) ?_
          refine wl_no rfl rfl rfl (ltn rfl) ?_
          refine wl_val (r_pick_t rfl rfl) (ltn rfl) ?_
          refine wl_val (r_assign rfl) (ltn rfl) ?_
          refine wl_nil ?_
          refine wq_seq ?_
          refine wc_cond_t rfl ?_
          have q2 : 0 ≤ r ∧ r < 32 ∨ r = 127 := by omega
          refine wc_region ?_
          refine wl_val (r_move rfl) (ltn rfl) ?_
          refine wl_eff (e_call (r_call rfl Tryd.func43 rfl rfl) (ref_one_ret HL)) (ltn rfl) ?_
          rintro _ w7 ⟨rfl, H7⟩
          refine wl_val (r_move rfl) (ltn rfl) ?_
          refine wl_val (r_bitsK .xor rfl rfl (by simp)) (ltn rfl) ?_
          refine wl_eff (e_call (r_call rfl Tryd.func44 rfl rfl) (form_ret H7 (by have e1 := bits_lo_i32 .xor r 64; have e2 := bits_hi_i32 .xor r 64; omega))) (ltn rfl) ?_
          rintro u8 w8 H8
          refine wl_val (r_bytes_str Tryd.underlying39 Tryd.underlying9 Tryd.underlying5 rfl ((H8).row_rd)) (ltn rfl) ?_
          rw [enc_bytes]
          refine wl_eff (e_call (r_call rfl Tryd.func43 rfl rfl) (ref_one_ret H8)) (ltn rfl) ?_
          rintro _ w9 ⟨rfl, H9⟩
          refine wl_eff (e_lit_two H9 Tryd.underlying23 Tryd.sizeOf26 Tryd.zeroValue26 rfl rfl rfl rfl rfl (by decide) (by decide)) (ltn rfl) ?_
          rintro l10 w10 H10
          refine wl_eff (e_append H10.f3 Tryd.underlying23 (show (Tryd.prog.info? 26).map (fun i => (i.zero, i.size, i.bytes)) = some (some (.agg #[.string .empty, .int .i64 0, .int .i64 0]), 3, 32) by kernel_rfl) rfl rfl rfl ((H10).row_rd) (ones_cons (by first | rfl | assumption) (ones_cons (by first | rfl | assumption) (ones_cons (by first | rfl | assumption) (ones_cons (by first | rfl | assumption) (ones_cons (by first | rfl | assumption) (ones_cons (by first | rfl | assumption) ones_nil)))))) (by omega) (by omega)) (ltn rfl) ?_
          rintro l11 w11 H11
          have Hd12 := H11.f2.right
          refine wl_val (r_assign rfl) (ltn rfl) ?_
          have HN : Holds w0 w11 (Row 26 3 l11 (stepC C base r).length ((stepC C base r).flatMap celE) • F) := by
            unfold stepC
            rw [if_neg q1, if_pos q2]
            exact crow_two (c := (hatS, 1)) (d := (Utf8.encode (bits .xor .i32 r 64), 1)) Hd12.f2.right
          refine wl_nil ?_
          refine wq_block_normal ?_
          refine wq_block_normal ?_
          refine wq_seq ?_
          refine wc_region ?_
          refine wl_val (r_move rfl) (ltn rfl) ?_
          refine wl_val (r_add rfl rfl (by omega)) (ltn rfl) ?_
          refine wl_val (r_assign rfl) (ltn rfl) ?_
          refine wl_nil ?_
          refine wq_round ((k + 1, l11)) ?_ ?_ ?_ ?_
          · exact (Sub.cons rfl (Sub.cons rfl (Sub.nil _)))
          · exact (Sub.cons rfl (Sub.cons rfl (Sub.nil _)))
          · (try dsimp only)
            exact ⟨by omega, by rw [cells_snoc C l k hkl, hr, hbase]; exact HN⟩
          · (try dsimp only); omega
        · (try simp only [beq_iff_eq, bne_iff_ne, ne_eq, decide_eq_true_eq, decide_eq_false_iff_not, beq_eq_false_iff_ne, bne_eq_false_iff_eq, Bool.not_eq_true', Bool.not_eq_false', Bool.not_eq_eq_eq_not, Bool.not_true, Bool.not_false, gt_iff_lt, ge_iff_le, Int.not_lt, Int.not_le] at h5)
          refine wl_yes rfl rfl ?_
          refine wl_val (r_move rfl) (ltn rfl) ?_
          refine wl_yes rfl rfl ?_
          refine wl_val (r_eql rfl rfl) (ltn rfl) ?_
          refine wl_val (r_pick_f rfl rfl) (ltn rfl) ?_
          refine wl_val (r_assign rfl) (ltn rfl) ?_
          refine wl_nil ?_
          refine wq_seq ?_
          refine wc_cond rfl (fun h6 => ?_) (fun h6 => ?_)
          · (try simp only [beq_iff_eq, bne_iff_ne, ne_eq, decide_eq_true_eq, decide_eq_false_iff_not, beq_eq_false_iff_ne, bne_eq_false_iff_eq, Bool.not_eq_true', Bool.not_eq_false', Bool.not_eq_eq_eq_not, Bool.not_true, Bool.not_false, gt_iff_lt, ge_iff_le, Int.not_lt, Int.not_le] at h6)
            
            have q2 : 0 ≤ r ∧ r < 32 ∨ r = 127 := by omega
            refine wc_region ?_
            refine wl_val (r_move rfl) (ltn rfl) ?_
            refine wl_eff (e_call (r_call rfl Tryd.func43 rfl rfl) (ref_one_ret HL)) (ltn rfl) ?_
            rintro _ w13 ⟨rfl, H13⟩
            refine wl_val (r_move rfl) (ltn rfl) ?_
            refine wl_val (r_bitsK .xor rfl rfl (by simp)) (ltn rfl) ?_
            refine wl_eff (e_call (r_call rfl Tryd.func44 rfl rfl) (form_ret H13 (by have e1 := bits_lo_i32 .xor r 64; have e2 := bits_hi_i32 .xor r 64; omega))) (ltn rfl) ?_
            rintro u14 w14 H14
            refine wl_val (r_bytes_str Tryd.underlying39 Tryd.underlying9 Tryd.underlying5 rfl ((H14).row_rd)) (ltn rfl) ?_
            rw [enc_bytes]
            refine wl_eff (e_call (r_call rfl Tryd.func43 rfl rfl) (ref_one_ret H14)) (ltn rfl) ?_
            rintro _ w15 ⟨rfl, H15⟩
            refine wl_eff (e_lit_two H15 Tryd.underlying23 Tryd.sizeOf26 Tryd.zeroValue26 rfl rfl rfl rfl rfl (by decide) (by decide)) (ltn rfl) ?_
            rintro l16 w16 H16
            refine wl_eff (e_append H16.f3 Tryd.underlying23 (show (Tryd.prog.info? 26).map (fun i => (i.zero, i.size, i.bytes)) = some (some (.agg #[.string .empty, .int .i64 0, .int .i64 0]), 3, 32) by kernel_rfl) rfl rfl rfl ((H16).row_rd) (ones_cons (by first | rfl | assumption) (ones_cons (by first | rfl | assumption) (ones_cons (by first | rfl | assumption) (ones_cons (by first | rfl | assumption) (ones_cons (by first | rfl | assumption) (ones_cons (by first | rfl | assumption) ones_nil)))))) (by omega) (by omega)) (ltn rfl) ?_
            rintro l17 w17 H17
            have Hd18 := H17.f2.right
            refine wl_val (r_assign rfl) (ltn rfl) ?_
            have HN : Holds w0 w17 (Row 26 3 l17 (stepC C base r).length ((stepC C base r).flatMap celE) • F) := by
              unfold stepC
              rw [if_neg q1, if_pos q2]
              exact crow_two (c := (hatS, 1)) (d := (Utf8.encode (bits .xor .i32 r 64), 1)) Hd18.f2.right
            refine wl_nil ?_
            refine wq_block_normal ?_
            refine wq_block_normal ?_
            refine wq_seq ?_
            refine wc_region ?_
            refine wl_val (r_move rfl) (ltn rfl) ?_
            refine wl_val (r_add rfl rfl (by omega)) (ltn rfl) ?_
            refine wl_val (r_assign rfl) (ltn rfl) ?_
            refine wl_nil ?_
            refine wq_round ((k + 1, l17)) ?_ ?_ ?_ ?_
            · exact (Sub.cons rfl (Sub.cons rfl (Sub.nil _)))
            · exact (Sub.cons rfl (Sub.cons rfl (Sub.nil _)))
            · (try dsimp only)
              exact ⟨by omega, by rw [cells_snoc C l k hkl, hr, hbase]; exact HN⟩
            · (try dsimp only); omega
          · (try simp only [beq_iff_eq, bne_iff_ne, ne_eq, decide_eq_true_eq, decide_eq_false_iff_not, beq_eq_false_iff_ne, bne_eq_false_iff_eq, Bool.not_eq_true', Bool.not_eq_false', Bool.not_eq_eq_eq_not, Bool.not_true, Bool.not_false, gt_iff_lt, ge_iff_le, Int.not_lt, Int.not_le] at h6)
            
            refine wc_seq ?_
            have q2 : ¬ (0 ≤ r ∧ r < 32 ∨ r = 127) := by omega
            refine wc_region ?_
            refine wl_val (r_move rfl) (ltn rfl) ?_
            refine wl_eff (e_call (r_call rfl Tryd.func29 rfl rfl) (ref_control_ret)) (ltn rfl) ?_
            rintro _ _ ⟨rfl, rfl⟩
            refine wl_split rfl (ltn rfl) (fun h7 => ?_) (fun h7 => ?_)
            · (try simp only [beq_iff_eq, bne_iff_ne, ne_eq, decide_eq_true_eq, decide_eq_false_iff_not, beq_eq_false_iff_ne, bne_eq_false_iff_eq, Bool.not_eq_true', Bool.not_eq_false', Bool.not_eq_eq_eq_not, Bool.not_true, Bool.not_false, gt_iff_lt, ge_iff_le, Int.not_lt, Int.not_le] at h7)
              refine wl_no rfl rfl rfl (ltn rfl) ?_
              refine wl_no rfl rfl rfl (ltn rfl) ?_
              refine wl_no rfl rfl rfl (ltn rfl) ?_
              refine wl_val (r_pick_t rfl rfl) (ltn rfl) ?_
              refine wl_val (r_assign rfl) (ltn rfl) ?_
              refine wl_nil ?_
              refine wq_seq ?_
              refine wc_cond_t rfl ?_
              have q3 : validM r = false ∨ controlM r = true := by first | exact .inl (by assumption) | exact .inr (by assumption)
              refine wc_region ?_
              refine wl_val (r_move rfl) (ltn rfl) ?_
              refine wl_eff (e_call (r_call rfl Tryd.func44 rfl rfl) (form_ret HL (by decide))) (ltn rfl) ?_
              rintro u20 w20 H20
              refine wl_val (r_bytes_str Tryd.underlying39 Tryd.underlying9 Tryd.underlying5 rfl ((H20).row_rd)) (ltn rfl) ?_
              rw [enc_bytes, bad_eq]
              refine wl_eff (e_call (r_call rfl Tryd.func43 rfl rfl) (ref_one_ret H20)) (ltn rfl) ?_
              rintro _ w21 ⟨rfl, H21⟩
              refine wl_eff (e_lit_one H21 Tryd.underlying23 Tryd.sizeOf26 Tryd.zeroValue26 rfl rfl rfl (by decide) (by decide)) (ltn rfl) ?_
              rintro l22 w22 H22
              refine wl_eff (e_append H22.f3 Tryd.underlying23 (show (Tryd.prog.info? 26).map (fun i => (i.zero, i.size, i.bytes)) = some (some (.agg #[.string .empty, .int .i64 0, .int .i64 0]), 3, 32) by kernel_rfl) rfl rfl rfl ((H22).row_rd) (ones_cons (by first | rfl | assumption) (ones_cons (by first | rfl | assumption) (ones_cons (by first | rfl | assumption) ones_nil))) (by omega) (by omega)) (ltn rfl) ?_
              rintro l23 w23 H23
              have Hd24 := H23.f2.right
              refine wl_val (r_assign rfl) (ltn rfl) ?_
              have HN : Holds w0 w23 (Row 26 3 l23 (stepC C base r).length ((stepC C base r).flatMap celE) • F) := by
                unfold stepC
                rw [if_neg q1, if_neg q2, if_pos q3]
                exact crow_one (c := (badS, 1)) Hd24.f2.right
              refine wl_nil ?_
              refine wq_block_normal ?_
              refine wq_block_normal ?_
              refine wq_seq ?_
              refine wc_region ?_
              refine wl_val (r_move rfl) (ltn rfl) ?_
              refine wl_val (r_add rfl rfl (by omega)) (ltn rfl) ?_
              refine wl_val (r_assign rfl) (ltn rfl) ?_
              refine wl_nil ?_
              refine wq_round ((k + 1, l23)) ?_ ?_ ?_ ?_
              · exact (Sub.cons rfl (Sub.cons rfl (Sub.nil _)))
              · exact (Sub.cons rfl (Sub.cons rfl (Sub.nil _)))
              · (try dsimp only)
                exact ⟨by omega, by rw [cells_snoc C l k hkl, hr, hbase]; exact HN⟩
              · (try dsimp only); omega
            · (try simp only [beq_iff_eq, bne_iff_ne, ne_eq, decide_eq_true_eq, decide_eq_false_iff_not, beq_eq_false_iff_ne, bne_eq_false_iff_eq, Bool.not_eq_true', Bool.not_eq_false', Bool.not_eq_eq_eq_not, Bool.not_true, Bool.not_false, gt_iff_lt, ge_iff_le, Int.not_lt, Int.not_le] at h7)
              refine wl_yes rfl rfl ?_
              refine wl_val (r_move rfl) (ltn rfl) ?_
              refine wl_yes rfl rfl ?_
              refine wl_eff (e_call (r_call rfl Tryd.func18 rfl rfl) (ref_rune_ret)) (ltn rfl) ?_
              rintro _ _ ⟨rfl, rfl⟩
              refine wl_yes rfl rfl ?_
              refine wl_val (r_not rfl) (ltn rfl) ?_
              refine wl_val (r_pick_f rfl rfl) (ltn rfl) ?_
              refine wl_val (r_assign rfl) (ltn rfl) ?_
              refine wl_nil ?_
              refine wq_seq ?_
              refine wc_cond rfl (fun h8 => ?_) (fun h8 => ?_)
              · (try simp only [beq_iff_eq, bne_iff_ne, ne_eq, decide_eq_true_eq, decide_eq_false_iff_not, beq_eq_false_iff_ne, bne_eq_false_iff_eq, Bool.not_eq_true', Bool.not_eq_false', Bool.not_eq_eq_eq_not, Bool.not_true, Bool.not_false, gt_iff_lt, ge_iff_le, Int.not_lt, Int.not_le] at h8)
                
                have q3 : validM r = false ∨ controlM r = true := by first | exact .inl (by assumption) | exact .inr (by assumption)
                refine wc_region ?_
                refine wl_val (r_move rfl) (ltn rfl) ?_
                refine wl_eff (e_call (r_call rfl Tryd.func44 rfl rfl) (form_ret HL (by decide))) (ltn rfl) ?_
                rintro u26 w26 H26
                refine wl_val (r_bytes_str Tryd.underlying39 Tryd.underlying9 Tryd.underlying5 rfl ((H26).row_rd)) (ltn rfl) ?_
                rw [enc_bytes, bad_eq]
                refine wl_eff (e_call (r_call rfl Tryd.func43 rfl rfl) (ref_one_ret H26)) (ltn rfl) ?_
                rintro _ w27 ⟨rfl, H27⟩
                refine wl_eff (e_lit_one H27 Tryd.underlying23 Tryd.sizeOf26 Tryd.zeroValue26 rfl rfl rfl (by decide) (by decide)) (ltn rfl) ?_
                rintro l28 w28 H28
                refine wl_eff (e_append H28.f3 Tryd.underlying23 (show (Tryd.prog.info? 26).map (fun i => (i.zero, i.size, i.bytes)) = some (some (.agg #[.string .empty, .int .i64 0, .int .i64 0]), 3, 32) by kernel_rfl) rfl rfl rfl ((H28).row_rd) (ones_cons (by first | rfl | assumption) (ones_cons (by first | rfl | assumption) (ones_cons (by first | rfl | assumption) ones_nil))) (by omega) (by omega)) (ltn rfl) ?_
                rintro l29 w29 H29
                have Hd30 := H29.f2.right
                refine wl_val (r_assign rfl) (ltn rfl) ?_
                have HN : Holds w0 w29 (Row 26 3 l29 (stepC C base r).length ((stepC C base r).flatMap celE) • F) := by
                  unfold stepC
                  rw [if_neg q1, if_neg q2, if_pos q3]
                  exact crow_one (c := (badS, 1)) Hd30.f2.right
                refine wl_nil ?_
                refine wq_block_normal ?_
                refine wq_block_normal ?_
                refine wq_seq ?_
                refine wc_region ?_
                refine wl_val (r_move rfl) (ltn rfl) ?_
                refine wl_val (r_add rfl rfl (by omega)) (ltn rfl) ?_
                refine wl_val (r_assign rfl) (ltn rfl) ?_
                refine wl_nil ?_
                refine wq_round ((k + 1, l29)) ?_ ?_ ?_ ?_
                · exact (Sub.cons rfl (Sub.cons rfl (Sub.nil _)))
                · exact (Sub.cons rfl (Sub.cons rfl (Sub.nil _)))
                · (try dsimp only)
                  exact ⟨by omega, by rw [cells_snoc C l k hkl, hr, hbase]; exact HN⟩
                · (try dsimp only); omega
              · (try simp only [beq_iff_eq, bne_iff_ne, ne_eq, decide_eq_true_eq, decide_eq_false_iff_not, beq_eq_false_iff_ne, bne_eq_false_iff_eq, Bool.not_eq_true', Bool.not_eq_false', Bool.not_eq_eq_eq_not, Bool.not_true, Bool.not_false, gt_iff_lt, ge_iff_le, Int.not_lt, Int.not_le] at h8)
                
                refine wc_seq ?_
                have q3 : ¬ (validM r = false ∨ controlM r = true) := by rintro (q | q) <;> simp_all
                refine wc_region ?_
                refine wl_val (r_move rfl) (ltn rfl) ?_
                refine wl_eff (e_call (r_call rfl Tryd.func28 rfl rfl) (ref_width_ret HL)) (ltn rfl) ?_
                rintro _ w31 ⟨rfl, H31⟩
                refine wl_val (r_eql rfl rfl) (ltn rfl) ?_
                refine wl_val (r_assign rfl) (ltn rfl) ?_
                refine wl_nil ?_
                refine wq_seq ?_
                refine wc_cond rfl (fun h9 => ?_) (fun h9 => ?_)
                · (try simp only [beq_iff_eq, bne_iff_ne, ne_eq, decide_eq_true_eq, decide_eq_false_iff_not, beq_eq_false_iff_ne, bne_eq_false_iff_eq, Bool.not_eq_true', Bool.not_eq_false', Bool.not_eq_eq_eq_not, Bool.not_true, Bool.not_false, gt_iff_lt, ge_iff_le, Int.not_lt, Int.not_le] at h9)
                  have q4 := h9
                  refine wc_region ?_
                  refine wl_val (r_move rfl) (ltn rfl) ?_
                  refine wl_val (r_move rfl) (ltn rfl) ?_
                  refine wl_eff (e_call (r_call rfl Tryd.func45 rfl rfl) (joins_ret H31 (by omega) (by omega))) (ltn rfl) ?_
                  rintro u32 w32 H32
                  refine wl_val (r_assign rfl) (ltn rfl) ?_
                  have HN : Holds w0 w32 (Row 26 3 u32 (stepC C base r).length ((stepC C base r).flatMap celE) • F) := by
                    unfold stepC
                    rw [if_neg q1, if_neg q2, if_neg q3, if_pos q4]
                    exact H32
                  refine wl_nil ?_
                  refine wq_block_normal ?_
                  refine wq_block_normal ?_
                  refine wq_seq ?_
                  refine wc_region ?_
                  refine wl_val (r_move rfl) (ltn rfl) ?_
                  refine wl_val (r_add rfl rfl (by omega)) (ltn rfl) ?_
                  refine wl_val (r_assign rfl) (ltn rfl) ?_
                  refine wl_nil ?_
                  refine wq_round ((k + 1, u32)) ?_ ?_ ?_ ?_
                  · exact (Sub.cons rfl (Sub.cons rfl (Sub.nil _)))
                  · exact (Sub.cons rfl (Sub.cons rfl (Sub.nil _)))
                  · (try dsimp only)
                    exact ⟨by omega, by rw [cells_snoc C l k hkl, hr, hbase]; exact HN⟩
                  · (try dsimp only); omega
                · (try simp only [beq_iff_eq, bne_iff_ne, ne_eq, decide_eq_true_eq, decide_eq_false_iff_not, beq_eq_false_iff_ne, bne_eq_false_iff_eq, Bool.not_eq_true', Bool.not_eq_false', Bool.not_eq_eq_eq_not, Bool.not_true, Bool.not_false, gt_iff_lt, ge_iff_le, Int.not_lt, Int.not_le] at h9)
                  have q4 := h9
                  refine wc_seq ?_
                  refine wc_region ?_
                  refine wl_val (r_move rfl) (ltn rfl) ?_
                  refine wl_eff (e_call (r_call rfl Tryd.func28 rfl rfl) (ref_width_ret H31)) (ltn rfl) ?_
                  rintro _ w33 ⟨rfl, H33⟩
                  refine wl_val (r_eql rfl rfl) (ltn rfl) ?_
                  refine wl_val (r_assign rfl) (ltn rfl) ?_
                  refine wl_nil ?_
                  refine wq_seq ?_
                  refine wc_cond rfl (fun h10 => ?_) (fun h10 => ?_)
                  · (try simp only [beq_iff_eq, bne_iff_ne, ne_eq, decide_eq_true_eq, decide_eq_false_iff_not, beq_eq_false_iff_ne, bne_eq_false_iff_eq, Bool.not_eq_true', Bool.not_eq_false', Bool.not_eq_eq_eq_not, Bool.not_true, Bool.not_false, gt_iff_lt, ge_iff_le, Int.not_lt, Int.not_le] at h10)
                    have q5 := h10
                    refine wc_region ?_
                    refine wl_val (r_move rfl) (ltn rfl) ?_
                    refine wl_val (r_move rfl) (ltn rfl) ?_
                    refine wl_eff (e_call (r_call rfl Tryd.func44 rfl rfl) (form_ret H33 (by omega))) (ltn rfl) ?_
                    rintro u34 w34 H34
                    refine wl_val (r_bytes_str Tryd.underlying39 Tryd.underlying9 Tryd.underlying5 rfl ((H34).row_rd)) (ltn rfl) ?_
                    rw [enc_bytes]
                    refine wl_val (r_build (pl := #[(0, 1), (1, 1), (2, 1)]) (_) Tryd.underlying26 Tryd.zeroValue26 (fun w => by kernel_rfl) rfl (rfl)) (ltn rfl) ?_
                    refine wl_val (r_build (pl := #[(0, 1), (1, 1), (2, 1)]) (_) Tryd.underlying26 Tryd.zeroValue26 (fun w => by kernel_rfl) rfl (rfl)) (ltn rfl) ?_
                    refine wl_eff (e_lit_two H34 Tryd.underlying23 Tryd.sizeOf26 Tryd.zeroValue26 rfl rfl rfl rfl rfl (by decide) (by decide)) (ltn rfl) ?_
                    rintro l35 w35 H35
                    refine wl_eff (e_append H35.f3 Tryd.underlying23 (show (Tryd.prog.info? 26).map (fun i => (i.zero, i.size, i.bytes)) = some (some (.agg #[.string .empty, .int .i64 0, .int .i64 0]), 3, 32) by kernel_rfl) rfl rfl rfl ((H35).row_rd) (ones_cons (by first | rfl | assumption) (ones_cons (by first | rfl | assumption) (ones_cons (by first | rfl | assumption) (ones_cons (by first | rfl | assumption) (ones_cons (by first | rfl | assumption) (ones_cons (by first | rfl | assumption) ones_nil)))))) (by omega) (by omega)) (ltn rfl) ?_
                    rintro l36 w36 H36
                    have Hd37 := H36.f2.right
                    refine wl_val (r_assign rfl) (ltn rfl) ?_
                    have HN : Holds w0 w36 (Row 26 3 l36 (stepC C base r).length ((stepC C base r).flatMap celE) • F) := by
                      unfold stepC
                      rw [if_neg q1, if_neg q2, if_neg q3, if_neg q4, if_pos q5]
                      exact crow_two (c := (Utf8.encode r, 2)) (d := (emptyS, 0)) Hd37.f2.right
                    refine wl_nil ?_
                    refine wq_block_normal ?_
                    refine wq_block_normal ?_
                    refine wq_seq ?_
                    refine wc_region ?_
                    refine wl_val (r_move rfl) (ltn rfl) ?_
                    refine wl_val (r_add rfl rfl (by omega)) (ltn rfl) ?_
                    refine wl_val (r_assign rfl) (ltn rfl) ?_
                    refine wl_nil ?_
                    refine wq_round ((k + 1, l36)) ?_ ?_ ?_ ?_
                    · exact (Sub.cons rfl (Sub.cons rfl (Sub.nil _)))
                    · exact (Sub.cons rfl (Sub.cons rfl (Sub.nil _)))
                    · (try dsimp only)
                      exact ⟨by omega, by rw [cells_snoc C l k hkl, hr, hbase]; exact HN⟩
                    · (try dsimp only); omega
                  · (try simp only [beq_iff_eq, bne_iff_ne, ne_eq, decide_eq_true_eq, decide_eq_false_iff_not, beq_eq_false_iff_ne, bne_eq_false_iff_eq, Bool.not_eq_true', Bool.not_eq_false', Bool.not_eq_eq_eq_not, Bool.not_true, Bool.not_false, gt_iff_lt, ge_iff_le, Int.not_lt, Int.not_le] at h10)
                    have q5 := h10
                    refine wc_region ?_
                    refine wl_val (r_move rfl) (ltn rfl) ?_
                    refine wl_val (r_move rfl) (ltn rfl) ?_
                    refine wl_eff (e_call (r_call rfl Tryd.func44 rfl rfl) (form_ret H33 (by omega))) (ltn rfl) ?_
                    rintro u38 w38 H38
                    refine wl_val (r_bytes_str Tryd.underlying39 Tryd.underlying9 Tryd.underlying5 rfl ((H38).row_rd)) (ltn rfl) ?_
                    rw [enc_bytes]
                    refine wl_eff (e_call (r_call rfl Tryd.func43 rfl rfl) (ref_one_ret H38)) (ltn rfl) ?_
                    rintro _ w39 ⟨rfl, H39⟩
                    refine wl_eff (e_lit_one H39 Tryd.underlying23 Tryd.sizeOf26 Tryd.zeroValue26 rfl rfl rfl (by decide) (by decide)) (ltn rfl) ?_
                    rintro l40 w40 H40
                    refine wl_eff (e_append H40.f3 Tryd.underlying23 (show (Tryd.prog.info? 26).map (fun i => (i.zero, i.size, i.bytes)) = some (some (.agg #[.string .empty, .int .i64 0, .int .i64 0]), 3, 32) by kernel_rfl) rfl rfl rfl ((H40).row_rd) (ones_cons (by first | rfl | assumption) (ones_cons (by first | rfl | assumption) (ones_cons (by first | rfl | assumption) ones_nil))) (by omega) (by omega)) (ltn rfl) ?_
                    rintro l41 w41 H41
                    have Hd42 := H41.f2.right
                    refine wl_val (r_assign rfl) (ltn rfl) ?_
                    have HN : Holds w0 w41 (Row 26 3 l41 (stepC C base r).length ((stepC C base r).flatMap celE) • F) := by
                      unfold stepC
                      rw [if_neg q1, if_neg q2, if_neg q3, if_neg q4, if_neg q5]
                      exact crow_one (c := (Utf8.encode r, 1)) Hd42.f2.right
                    refine wl_nil ?_
                    refine wq_block_normal ?_
                    refine wq_block_normal ?_
                    refine wq_seq ?_
                    refine wc_region ?_
                    refine wl_val (r_move rfl) (ltn rfl) ?_
                    refine wl_val (r_add rfl rfl (by omega)) (ltn rfl) ?_
                    refine wl_val (r_assign rfl) (ltn rfl) ?_
                    refine wl_nil ?_
                    refine wq_round ((k + 1, l41)) ?_ ?_ ?_ ?_
                    · exact (Sub.cons rfl (Sub.cons rfl (Sub.nil _)))
                    · exact (Sub.cons rfl (Sub.cons rfl (Sub.nil _)))
                    · (try dsimp only)
                      exact ⟨by omega, by rw [cells_snoc C l k hkl, hr, hbase]; exact HN⟩
                    · (try dsimp only); omega
      · (try simp only [beq_iff_eq, bne_iff_ne, ne_eq, decide_eq_true_eq, decide_eq_false_iff_not, beq_eq_false_iff_ne, bne_eq_false_iff_eq, Bool.not_eq_true', Bool.not_eq_false', Bool.not_eq_eq_eq_not, Bool.not_true, Bool.not_false, gt_iff_lt, ge_iff_le, Int.not_lt, Int.not_le] at h4)
        refine wl_no rfl rfl rfl (ltn rfl) ?_
        refine wl_no rfl rfl rfl (ltn rfl) ?_
        refine wl_val (r_pick_f rfl rfl) (ltn rfl) ?_
        refine wl_val (r_move rfl) (ltn rfl) ?_
        refine wl_yes rfl rfl ?_
        refine wl_val (r_move rfl) (ltn rfl) ?_
        refine wl_yes rfl rfl ?_
        refine wl_val (r_eql rfl rfl) (ltn rfl) ?_
        refine wl_val (r_pick_f rfl rfl) (ltn rfl) ?_
        refine wl_val (r_assign rfl) (ltn rfl) ?_
        refine wl_nil ?_
        refine wq_seq ?_
        refine wc_cond rfl (fun h11 => ?_) (fun h11 => ?_)
        · (try simp only [beq_iff_eq, bne_iff_ne, ne_eq, decide_eq_true_eq, decide_eq_false_iff_not, beq_eq_false_iff_ne, bne_eq_false_iff_eq, Bool.not_eq_true', Bool.not_eq_false', Bool.not_eq_eq_eq_not, Bool.not_true, Bool.not_false, gt_iff_lt, ge_iff_le, Int.not_lt, Int.not_le] at h11)
          
          have q2 : 0 ≤ r ∧ r < 32 ∨ r = 127 := by omega
          refine wc_region ?_
          refine wl_val (r_move rfl) (ltn rfl) ?_
          refine wl_eff (e_call (r_call rfl Tryd.func43 rfl rfl) (ref_one_ret HL)) (ltn rfl) ?_
          rintro _ w43 ⟨rfl, H43⟩
          refine wl_val (r_move rfl) (ltn rfl) ?_
          refine wl_val (r_bitsK .xor rfl rfl (by simp)) (ltn rfl) ?_
          refine wl_eff (e_call (r_call rfl Tryd.func44 rfl rfl) (form_ret H43 (by have e1 := bits_lo_i32 .xor r 64; have e2 := bits_hi_i32 .xor r 64; omega))) (ltn rfl) ?_
          rintro u44 w44 H44
          refine wl_val (r_bytes_str Tryd.underlying39 Tryd.underlying9 Tryd.underlying5 rfl ((H44).row_rd)) (ltn rfl) ?_
          rw [enc_bytes]
          refine wl_eff (e_call (r_call rfl Tryd.func43 rfl rfl) (ref_one_ret H44)) (ltn rfl) ?_
          rintro _ w45 ⟨rfl, H45⟩
          refine wl_eff (e_lit_two H45 Tryd.underlying23 Tryd.sizeOf26 Tryd.zeroValue26 rfl rfl rfl rfl rfl (by decide) (by decide)) (ltn rfl) ?_
          rintro l46 w46 H46
          refine wl_eff (e_append H46.f3 Tryd.underlying23 (show (Tryd.prog.info? 26).map (fun i => (i.zero, i.size, i.bytes)) = some (some (.agg #[.string .empty, .int .i64 0, .int .i64 0]), 3, 32) by kernel_rfl) rfl rfl rfl ((H46).row_rd) (ones_cons (by first | rfl | assumption) (ones_cons (by first | rfl | assumption) (ones_cons (by first | rfl | assumption) (ones_cons (by first | rfl | assumption) (ones_cons (by first | rfl | assumption) (ones_cons (by first | rfl | assumption) ones_nil)))))) (by omega) (by omega)) (ltn rfl) ?_
          rintro l47 w47 H47
          have Hd48 := H47.f2.right
          refine wl_val (r_assign rfl) (ltn rfl) ?_
          have HN : Holds w0 w47 (Row 26 3 l47 (stepC C base r).length ((stepC C base r).flatMap celE) • F) := by
            unfold stepC
            rw [if_neg q1, if_pos q2]
            exact crow_two (c := (hatS, 1)) (d := (Utf8.encode (bits .xor .i32 r 64), 1)) Hd48.f2.right
          refine wl_nil ?_
          refine wq_block_normal ?_
          refine wq_block_normal ?_
          refine wq_seq ?_
          refine wc_region ?_
          refine wl_val (r_move rfl) (ltn rfl) ?_
          refine wl_val (r_add rfl rfl (by omega)) (ltn rfl) ?_
          refine wl_val (r_assign rfl) (ltn rfl) ?_
          refine wl_nil ?_
          refine wq_round ((k + 1, l47)) ?_ ?_ ?_ ?_
          · exact (Sub.cons rfl (Sub.cons rfl (Sub.nil _)))
          · exact (Sub.cons rfl (Sub.cons rfl (Sub.nil _)))
          · (try dsimp only)
            exact ⟨by omega, by rw [cells_snoc C l k hkl, hr, hbase]; exact HN⟩
          · (try dsimp only); omega
        · (try simp only [beq_iff_eq, bne_iff_ne, ne_eq, decide_eq_true_eq, decide_eq_false_iff_not, beq_eq_false_iff_ne, bne_eq_false_iff_eq, Bool.not_eq_true', Bool.not_eq_false', Bool.not_eq_eq_eq_not, Bool.not_true, Bool.not_false, gt_iff_lt, ge_iff_le, Int.not_lt, Int.not_le] at h11)
          
          refine wc_seq ?_
          have q2 : ¬ (0 ≤ r ∧ r < 32 ∨ r = 127) := by omega
          refine wc_region ?_
          refine wl_val (r_move rfl) (ltn rfl) ?_
          refine wl_eff (e_call (r_call rfl Tryd.func29 rfl rfl) (ref_control_ret)) (ltn rfl) ?_
          rintro _ _ ⟨rfl, rfl⟩
          refine wl_split rfl (ltn rfl) (fun h12 => ?_) (fun h12 => ?_)
          · (try simp only [beq_iff_eq, bne_iff_ne, ne_eq, decide_eq_true_eq, decide_eq_false_iff_not, beq_eq_false_iff_ne, bne_eq_false_iff_eq, Bool.not_eq_true', Bool.not_eq_false', Bool.not_eq_eq_eq_not, Bool.not_true, Bool.not_false, gt_iff_lt, ge_iff_le, Int.not_lt, Int.not_le] at h12)
            refine wl_no rfl rfl rfl (ltn rfl) ?_
            refine wl_no rfl rfl rfl (ltn rfl) ?_
            refine wl_no rfl rfl rfl (ltn rfl) ?_
            refine wl_val (r_pick_t rfl rfl) (ltn rfl) ?_
            refine wl_val (r_assign rfl) (ltn rfl) ?_
            refine wl_nil ?_
            refine wq_seq ?_
            refine wc_cond_t rfl ?_
            have q3 : validM r = false ∨ controlM r = true := by first | exact .inl (by assumption) | exact .inr (by assumption)
            refine wc_region ?_
            refine wl_val (r_move rfl) (ltn rfl) ?_
            refine wl_eff (e_call (r_call rfl Tryd.func44 rfl rfl) (form_ret HL (by decide))) (ltn rfl) ?_
            rintro u50 w50 H50
            refine wl_val (r_bytes_str Tryd.underlying39 Tryd.underlying9 Tryd.underlying5 rfl ((H50).row_rd)) (ltn rfl) ?_
            rw [enc_bytes, bad_eq]
            refine wl_eff (e_call (r_call rfl Tryd.func43 rfl rfl) (ref_one_ret H50)) (ltn rfl) ?_
            rintro _ w51 ⟨rfl, H51⟩
            refine wl_eff (e_lit_one H51 Tryd.underlying23 Tryd.sizeOf26 Tryd.zeroValue26 rfl rfl rfl (by decide) (by decide)) (ltn rfl) ?_
            rintro l52 w52 H52
            refine wl_eff (e_append H52.f3 Tryd.underlying23 (show (Tryd.prog.info? 26).map (fun i => (i.zero, i.size, i.bytes)) = some (some (.agg #[.string .empty, .int .i64 0, .int .i64 0]), 3, 32) by kernel_rfl) rfl rfl rfl ((H52).row_rd) (ones_cons (by first | rfl | assumption) (ones_cons (by first | rfl | assumption) (ones_cons (by first | rfl | assumption) ones_nil))) (by omega) (by omega)) (ltn rfl) ?_
            rintro l53 w53 H53
            have Hd54 := H53.f2.right
            refine wl_val (r_assign rfl) (ltn rfl) ?_
            have HN : Holds w0 w53 (Row 26 3 l53 (stepC C base r).length ((stepC C base r).flatMap celE) • F) := by
              unfold stepC
              rw [if_neg q1, if_neg q2, if_pos q3]
              exact crow_one (c := (badS, 1)) Hd54.f2.right
            refine wl_nil ?_
            refine wq_block_normal ?_
            refine wq_block_normal ?_
            refine wq_seq ?_
            refine wc_region ?_
            refine wl_val (r_move rfl) (ltn rfl) ?_
            refine wl_val (r_add rfl rfl (by omega)) (ltn rfl) ?_
            refine wl_val (r_assign rfl) (ltn rfl) ?_
            refine wl_nil ?_
            refine wq_round ((k + 1, l53)) ?_ ?_ ?_ ?_
            · exact (Sub.cons rfl (Sub.cons rfl (Sub.nil _)))
            · exact (Sub.cons rfl (Sub.cons rfl (Sub.nil _)))
            · (try dsimp only)
              exact ⟨by omega, by rw [cells_snoc C l k hkl, hr, hbase]; exact HN⟩
            · (try dsimp only); omega
          · (try simp only [beq_iff_eq, bne_iff_ne, ne_eq, decide_eq_true_eq, decide_eq_false_iff_not, beq_eq_false_iff_ne, bne_eq_false_iff_eq, Bool.not_eq_true', Bool.not_eq_false', Bool.not_eq_eq_eq_not, Bool.not_true, Bool.not_false, gt_iff_lt, ge_iff_le, Int.not_lt, Int.not_le] at h12)
            refine wl_yes rfl rfl ?_
            refine wl_val (r_move rfl) (ltn rfl) ?_
            refine wl_yes rfl rfl ?_
            refine wl_eff (e_call (r_call rfl Tryd.func18 rfl rfl) (ref_rune_ret)) (ltn rfl) ?_
            rintro _ _ ⟨rfl, rfl⟩
            refine wl_yes rfl rfl ?_
            refine wl_val (r_not rfl) (ltn rfl) ?_
            refine wl_val (r_pick_f rfl rfl) (ltn rfl) ?_
            refine wl_val (r_assign rfl) (ltn rfl) ?_
            refine wl_nil ?_
            refine wq_seq ?_
            refine wc_cond rfl (fun h13 => ?_) (fun h13 => ?_)
            · (try simp only [beq_iff_eq, bne_iff_ne, ne_eq, decide_eq_true_eq, decide_eq_false_iff_not, beq_eq_false_iff_ne, bne_eq_false_iff_eq, Bool.not_eq_true', Bool.not_eq_false', Bool.not_eq_eq_eq_not, Bool.not_true, Bool.not_false, gt_iff_lt, ge_iff_le, Int.not_lt, Int.not_le] at h13)
              
              have q3 : validM r = false ∨ controlM r = true := by first | exact .inl (by assumption) | exact .inr (by assumption)
              refine wc_region ?_
              refine wl_val (r_move rfl) (ltn rfl) ?_
              refine wl_eff (e_call (r_call rfl Tryd.func44 rfl rfl) (form_ret HL (by decide))) (ltn rfl) ?_
              rintro u56 w56 H56
              refine wl_val (r_bytes_str Tryd.underlying39 Tryd.underlying9 Tryd.underlying5 rfl ((H56).row_rd)) (ltn rfl) ?_
              rw [enc_bytes, bad_eq]
              refine wl_eff (e_call (r_call rfl Tryd.func43 rfl rfl) (ref_one_ret H56)) (ltn rfl) ?_
              rintro _ w57 ⟨rfl, H57⟩
              refine wl_eff (e_lit_one H57 Tryd.underlying23 Tryd.sizeOf26 Tryd.zeroValue26 rfl rfl rfl (by decide) (by decide)) (ltn rfl) ?_
              rintro l58 w58 H58
              refine wl_eff (e_append H58.f3 Tryd.underlying23 (show (Tryd.prog.info? 26).map (fun i => (i.zero, i.size, i.bytes)) = some (some (.agg #[.string .empty, .int .i64 0, .int .i64 0]), 3, 32) by kernel_rfl) rfl rfl rfl ((H58).row_rd) (ones_cons (by first | rfl | assumption) (ones_cons (by first | rfl | assumption) (ones_cons (by first | rfl | assumption) ones_nil))) (by omega) (by omega)) (ltn rfl) ?_
              rintro l59 w59 H59
              have Hd60 := H59.f2.right
              refine wl_val (r_assign rfl) (ltn rfl) ?_
              have HN : Holds w0 w59 (Row 26 3 l59 (stepC C base r).length ((stepC C base r).flatMap celE) • F) := by
                unfold stepC
                rw [if_neg q1, if_neg q2, if_pos q3]
                exact crow_one (c := (badS, 1)) Hd60.f2.right
              refine wl_nil ?_
              refine wq_block_normal ?_
              refine wq_block_normal ?_
              refine wq_seq ?_
              refine wc_region ?_
              refine wl_val (r_move rfl) (ltn rfl) ?_
              refine wl_val (r_add rfl rfl (by omega)) (ltn rfl) ?_
              refine wl_val (r_assign rfl) (ltn rfl) ?_
              refine wl_nil ?_
              refine wq_round ((k + 1, l59)) ?_ ?_ ?_ ?_
              · exact (Sub.cons rfl (Sub.cons rfl (Sub.nil _)))
              · exact (Sub.cons rfl (Sub.cons rfl (Sub.nil _)))
              · (try dsimp only)
                exact ⟨by omega, by rw [cells_snoc C l k hkl, hr, hbase]; exact HN⟩
              · (try dsimp only); omega
            · (try simp only [beq_iff_eq, bne_iff_ne, ne_eq, decide_eq_true_eq, decide_eq_false_iff_not, beq_eq_false_iff_ne, bne_eq_false_iff_eq, Bool.not_eq_true', Bool.not_eq_false', Bool.not_eq_eq_eq_not, Bool.not_true, Bool.not_false, gt_iff_lt, ge_iff_le, Int.not_lt, Int.not_le] at h13)
              
              refine wc_seq ?_
              have q3 : ¬ (validM r = false ∨ controlM r = true) := by rintro (q | q) <;> simp_all
              refine wc_region ?_
              refine wl_val (r_move rfl) (ltn rfl) ?_
              refine wl_eff (e_call (r_call rfl Tryd.func28 rfl rfl) (ref_width_ret HL)) (ltn rfl) ?_
              rintro _ w61 ⟨rfl, H61⟩
              refine wl_val (r_eql rfl rfl) (ltn rfl) ?_
              refine wl_val (r_assign rfl) (ltn rfl) ?_
              refine wl_nil ?_
              refine wq_seq ?_
              refine wc_cond rfl (fun h14 => ?_) (fun h14 => ?_)
              · (try simp only [beq_iff_eq, bne_iff_ne, ne_eq, decide_eq_true_eq, decide_eq_false_iff_not, beq_eq_false_iff_ne, bne_eq_false_iff_eq, Bool.not_eq_true', Bool.not_eq_false', Bool.not_eq_eq_eq_not, Bool.not_true, Bool.not_false, gt_iff_lt, ge_iff_le, Int.not_lt, Int.not_le] at h14)
                have q4 := h14
                refine wc_region ?_
                refine wl_val (r_move rfl) (ltn rfl) ?_
                refine wl_val (r_move rfl) (ltn rfl) ?_
                refine wl_eff (e_call (r_call rfl Tryd.func45 rfl rfl) (joins_ret H61 (by omega) (by omega))) (ltn rfl) ?_
                rintro u62 w62 H62
                refine wl_val (r_assign rfl) (ltn rfl) ?_
                have HN : Holds w0 w62 (Row 26 3 u62 (stepC C base r).length ((stepC C base r).flatMap celE) • F) := by
                  unfold stepC
                  rw [if_neg q1, if_neg q2, if_neg q3, if_pos q4]
                  exact H62
                refine wl_nil ?_
                refine wq_block_normal ?_
                refine wq_block_normal ?_
                refine wq_seq ?_
                refine wc_region ?_
                refine wl_val (r_move rfl) (ltn rfl) ?_
                refine wl_val (r_add rfl rfl (by omega)) (ltn rfl) ?_
                refine wl_val (r_assign rfl) (ltn rfl) ?_
                refine wl_nil ?_
                refine wq_round ((k + 1, u62)) ?_ ?_ ?_ ?_
                · exact (Sub.cons rfl (Sub.cons rfl (Sub.nil _)))
                · exact (Sub.cons rfl (Sub.cons rfl (Sub.nil _)))
                · (try dsimp only)
                  exact ⟨by omega, by rw [cells_snoc C l k hkl, hr, hbase]; exact HN⟩
                · (try dsimp only); omega
              · (try simp only [beq_iff_eq, bne_iff_ne, ne_eq, decide_eq_true_eq, decide_eq_false_iff_not, beq_eq_false_iff_ne, bne_eq_false_iff_eq, Bool.not_eq_true', Bool.not_eq_false', Bool.not_eq_eq_eq_not, Bool.not_true, Bool.not_false, gt_iff_lt, ge_iff_le, Int.not_lt, Int.not_le] at h14)
                have q4 := h14
                refine wc_seq ?_
                refine wc_region ?_
                refine wl_val (r_move rfl) (ltn rfl) ?_
                refine wl_eff (e_call (r_call rfl Tryd.func28 rfl rfl) (ref_width_ret H61)) (ltn rfl) ?_
                rintro _ w63 ⟨rfl, H63⟩
                refine wl_val (r_eql rfl rfl) (ltn rfl) ?_
                refine wl_val (r_assign rfl) (ltn rfl) ?_
                refine wl_nil ?_
                refine wq_seq ?_
                refine wc_cond rfl (fun h15 => ?_) (fun h15 => ?_)
                · (try simp only [beq_iff_eq, bne_iff_ne, ne_eq, decide_eq_true_eq, decide_eq_false_iff_not, beq_eq_false_iff_ne, bne_eq_false_iff_eq, Bool.not_eq_true', Bool.not_eq_false', Bool.not_eq_eq_eq_not, Bool.not_true, Bool.not_false, gt_iff_lt, ge_iff_le, Int.not_lt, Int.not_le] at h15)
                  have q5 := h15
                  refine wc_region ?_
                  refine wl_val (r_move rfl) (ltn rfl) ?_
                  refine wl_val (r_move rfl) (ltn rfl) ?_
                  refine wl_eff (e_call (r_call rfl Tryd.func44 rfl rfl) (form_ret H63 (by omega))) (ltn rfl) ?_
                  rintro u64 w64 H64
                  refine wl_val (r_bytes_str Tryd.underlying39 Tryd.underlying9 Tryd.underlying5 rfl ((H64).row_rd)) (ltn rfl) ?_
                  rw [enc_bytes]
                  refine wl_val (r_build (pl := #[(0, 1), (1, 1), (2, 1)]) (_) Tryd.underlying26 Tryd.zeroValue26 (fun w => by kernel_rfl) rfl (rfl)) (ltn rfl) ?_
                  refine wl_val (r_build (pl := #[(0, 1), (1, 1), (2, 1)]) (_) Tryd.underlying26 Tryd.zeroValue26 (fun w => by kernel_rfl) rfl (rfl)) (ltn rfl) ?_
                  refine wl_eff (e_lit_two H64 Tryd.underlying23 Tryd.sizeOf26 Tryd.zeroValue26 rfl rfl rfl rfl rfl (by decide) (by decide)) (ltn rfl) ?_
                  rintro l65 w65 H65
                  refine wl_eff (e_append H65.f3 Tryd.underlying23 (show (Tryd.prog.info? 26).map (fun i => (i.zero, i.size, i.bytes)) = some (some (.agg #[.string .empty, .int .i64 0, .int .i64 0]), 3, 32) by kernel_rfl) rfl rfl rfl ((H65).row_rd) (ones_cons (by first | rfl | assumption) (ones_cons (by first | rfl | assumption) (ones_cons (by first | rfl | assumption) (ones_cons (by first | rfl | assumption) (ones_cons (by first | rfl | assumption) (ones_cons (by first | rfl | assumption) ones_nil)))))) (by omega) (by omega)) (ltn rfl) ?_
                  rintro l66 w66 H66
                  have Hd67 := H66.f2.right
                  refine wl_val (r_assign rfl) (ltn rfl) ?_
                  have HN : Holds w0 w66 (Row 26 3 l66 (stepC C base r).length ((stepC C base r).flatMap celE) • F) := by
                    unfold stepC
                    rw [if_neg q1, if_neg q2, if_neg q3, if_neg q4, if_pos q5]
                    exact crow_two (c := (Utf8.encode r, 2)) (d := (emptyS, 0)) Hd67.f2.right
                  refine wl_nil ?_
                  refine wq_block_normal ?_
                  refine wq_block_normal ?_
                  refine wq_seq ?_
                  refine wc_region ?_
                  refine wl_val (r_move rfl) (ltn rfl) ?_
                  refine wl_val (r_add rfl rfl (by omega)) (ltn rfl) ?_
                  refine wl_val (r_assign rfl) (ltn rfl) ?_
                  refine wl_nil ?_
                  refine wq_round ((k + 1, l66)) ?_ ?_ ?_ ?_
                  · exact (Sub.cons rfl (Sub.cons rfl (Sub.nil _)))
                  · exact (Sub.cons rfl (Sub.cons rfl (Sub.nil _)))
                  · (try dsimp only)
                    exact ⟨by omega, by rw [cells_snoc C l k hkl, hr, hbase]; exact HN⟩
                  · (try dsimp only); omega
                · (try simp only [beq_iff_eq, bne_iff_ne, ne_eq, decide_eq_true_eq, decide_eq_false_iff_not, beq_eq_false_iff_ne, bne_eq_false_iff_eq, Bool.not_eq_true', Bool.not_eq_false', Bool.not_eq_eq_eq_not, Bool.not_true, Bool.not_false, gt_iff_lt, ge_iff_le, Int.not_lt, Int.not_le] at h15)
                  have q5 := h15
                  refine wc_region ?_
                  refine wl_val (r_move rfl) (ltn rfl) ?_
                  refine wl_val (r_move rfl) (ltn rfl) ?_
                  refine wl_eff (e_call (r_call rfl Tryd.func44 rfl rfl) (form_ret H63 (by omega))) (ltn rfl) ?_
                  rintro u68 w68 H68
                  refine wl_val (r_bytes_str Tryd.underlying39 Tryd.underlying9 Tryd.underlying5 rfl ((H68).row_rd)) (ltn rfl) ?_
                  rw [enc_bytes]
                  refine wl_eff (e_call (r_call rfl Tryd.func43 rfl rfl) (ref_one_ret H68)) (ltn rfl) ?_
                  rintro _ w69 ⟨rfl, H69⟩
                  refine wl_eff (e_lit_one H69 Tryd.underlying23 Tryd.sizeOf26 Tryd.zeroValue26 rfl rfl rfl (by decide) (by decide)) (ltn rfl) ?_
                  rintro l70 w70 H70
                  refine wl_eff (e_append H70.f3 Tryd.underlying23 (show (Tryd.prog.info? 26).map (fun i => (i.zero, i.size, i.bytes)) = some (some (.agg #[.string .empty, .int .i64 0, .int .i64 0]), 3, 32) by kernel_rfl) rfl rfl rfl ((H70).row_rd) (ones_cons (by first | rfl | assumption) (ones_cons (by first | rfl | assumption) (ones_cons (by first | rfl | assumption) ones_nil))) (by omega) (by omega)) (ltn rfl) ?_
                  rintro l71 w71 H71
                  have Hd72 := H71.f2.right
                  refine wl_val (r_assign rfl) (ltn rfl) ?_
                  have HN : Holds w0 w71 (Row 26 3 l71 (stepC C base r).length ((stepC C base r).flatMap celE) • F) := by
                    unfold stepC
                    rw [if_neg q1, if_neg q2, if_neg q3, if_neg q4, if_neg q5]
                    exact crow_one (c := (Utf8.encode r, 1)) Hd72.f2.right
                  refine wl_nil ?_
                  refine wq_block_normal ?_
                  refine wq_block_normal ?_
                  refine wq_seq ?_
                  refine wc_region ?_
                  refine wl_val (r_move rfl) (ltn rfl) ?_
                  refine wl_val (r_add rfl rfl (by omega)) (ltn rfl) ?_
                  refine wl_val (r_assign rfl) (ltn rfl) ?_
                  refine wl_nil ?_
                  refine wq_round ((k + 1, l71)) ?_ ?_ ?_ ?_
                  · exact (Sub.cons rfl (Sub.cons rfl (Sub.nil _)))
                  · exact (Sub.cons rfl (Sub.cons rfl (Sub.nil _)))
                  · (try dsimp only)
                    exact ⟨by omega, by rw [cells_snoc C l k hkl, hr, hbase]; exact HN⟩
                  · (try dsimp only); omega
  · (try simp only [beq_iff_eq, bne_iff_ne, ne_eq, decide_eq_true_eq, decide_eq_false_iff_not, beq_eq_false_iff_ne, bne_eq_false_iff_eq, Bool.not_eq_true', Bool.not_eq_false', Bool.not_eq_eq_eq_not, Bool.not_true, Bool.not_false, gt_iff_lt, ge_iff_le, Int.not_lt, Int.not_le] at h1)
    
    refine wc_exit ?_
    refine wq_then_exit ?_
    refine wq_then_exit ?_
    refine wq_block_hit ?_
    refine wq_seq ?_
    refine wc_seq ?_
    refine wc_region ?_
    refine wl_val (r_move rfl) (ltn rfl) ?_
    refine wl_val (r_assign rfl) (ltn rfl) ?_
    refine wl_nil ?_
    refine wq_seq ?_
    refine wc_ret ?_
    refine wq_end1 (.inl rfl) Tryd.results14 rfl ?_
    obtain rfl : k = l.length := by omega
    rw [List.take_length] at HL
    exact HL
end
end Go.Proofs.YtmkmffoadapmnaaDoor
