/- Places that runes take, walked: what joins the place ahead; the closure; one place. -/
import Derived.Test.YtmkmffoadapmnaaDoorCellM
set_option linter.unusedSimpArgs false
set_option linter.unusedVariables false
namespace Go.Proofs.YtmkmffoadapmnaaDoor
open Go.RowKit
theorem cel_at {cs : List Cel} {k : Nat} (hk : k < cs.length) : (cs.flatMap celE).getD (k * 3 + 0) undef = .string (cs.getD k (emptyS, 0)).1 ∧ (cs.flatMap celE).getD (k * 3 + 1) undef = .int .i64 (cs.getD k (emptyS, 0)).2 ∧ (cs.flatMap celE).getD (k * 3 + 2) undef = .int .i64 0 := by
  have h := flat_elem (enc := celE) (sz := 3) celE_len hk (emptyS, 0)
  have key : ∀ j, j < 3 → (cs.flatMap celE).getD (k * 3 + j) undef = (celE (cs.getD k (emptyS, 0))).getD j undef := fun j hj => by
    have := congrArg (fun l => l.getD j undef) h
    simp only [List.getD_eq_getElem?_getD, List.getElem?_take, List.getElem?_drop] at this ⊢
    rw [if_pos hj] at this
    exact this
  exact ⟨key 0 (by decide), key 1 (by decide), key 2 (by decide)⟩
theorem cel_set {cs : List Cel} {k : Nat} (hk : k < cs.length) (s : ByteArray) : (cs.flatMap celE).set (k * 3 + 0) (.string s) = (cs.set k (s, (cs.getD k (emptyS, 0)).2)).flatMap celE := by
  have h1 : cs = cs.take k ++ cs.getD k (emptyS, 0) :: cs.drop (k + 1) := by
    rw [List.getD_eq_getElem?_getD, List.getElem?_eq_getElem hk]; simp
  have hl : ((cs.take k).flatMap celE).length = k * 3 := by rw [flat_len celE_len, List.length_take, Nat.min_eq_left (by omega)]
  generalize cs.getD k (emptyS, 0) = c at *
  conv => rhs; rw [List.set_eq_take_append_cons_drop, if_pos hk, List.flatMap_append, List.flatMap_cons]
  conv => lhs; rw [h1]
  rw [List.flatMap_append, List.flatMap_cons, List.set_append_right _ _ (by omega), hl, show k * 3 + 0 - k * 3 = 0 from by omega]
  rfl
theorem crow_one {w0 w : World} {F : HP} {v : Value} {cs : List Cel} {c : Cel} (H : Holds w0 w (Row 26 3 v (cs.length + 1) (cs.flatMap celE ++ celE c) • F)) : Holds w0 w (Row 26 3 v (cs ++ [c]).length ((cs ++ [c]).flatMap celE) • F) :=
  H.of_eq (by rw [List.length_append, List.flatMap_append]; simp)
theorem crow_two {w0 w : World} {F : HP} {v : Value} {cs : List Cel} {c d : Cel} (H : Holds w0 w (Row 26 3 v (cs.length + 2) (cs.flatMap celE ++ (celE c ++ celE d)) • F)) : Holds w0 w (Row 26 3 v (cs ++ [c, d]).length ((cs ++ [c, d]).flatMap celE) • F) :=
  H.of_eq (by rw [List.length_append, List.flatMap_append]; simp)
theorem nilS : (⟨#[]⟩ : ByteArray).toList = [] := by rw [ByteArray.toList_eq]
theorem oneS (x : UInt8) : (⟨#[x]⟩ : ByteArray).size = 1 := rfl
def OutRep (c : Nat) (cs : List Cel) : HP := exHP fun u => blk c (.cells #[u] 23 (0, 0)) • Row 26 3 u cs.length (cs.flatMap celE)
section
variable {w0 w : World} {F : HP} {v u : Value} {cs : List Cel} {c : Nat} {r : Int} {s : ByteArray} {ts : List ByteArray}
theorem Holds.out (H : Holds w0 w (OutRep c cs • F)) : ∃ u, Holds w0 w (blk c (.cells #[u] 23 (0, 0)) • Row 26 3 u cs.length (cs.flatMap celE) • F) := let ⟨u, h⟩ := H.ex_sep; ⟨u, h.flat⟩
theorem Holds.mk_out (H : Holds w0 w (blk c (.cells #[u] 23 (0, 0)) • Row 26 3 u cs.length (cs.flatMap celE) • F)) : Holds w0 w (OutRep c cs • F) := Holds.mk_ex_sep u H.deep
theorem cells1_ret (H : Holds w0 w (OutRep c cs • Row 9 1 v ts.length (ts.map .string) • F)) (hb : cs.length + ts.length ≤ 34359738368) :
    Ret Tryd.prog 40 #[v, .pointer (some ⟨c, 0, none⟩)] w fun _ w' => Holds w0 w' (OutRep c (cs ++ ts.map (·, (1 : Int))) • F) := by
  refine ret_enter Tryd.func40 rfl Tryd.ntmps40 (Nat.le_of_ble_eq_true rfl) ?_
  dsimp only [slots0, Nat.reduceAdd]
  refine wc_seq ?_
  refine wc_region ?_
  refine wl_val (r_move rfl) (ltn rfl) ?_
  refine wl_val (r_lenS ((H.f2).row_rd) Tryd.underlying56 rfl) (ltn rfl) ?_
  refine wl_val (r_move rfl) (ltn rfl) ?_
  refine wl_nil ?_
  refine wq_seq ?_
  refine wc_block ?_
  obtain ⟨av, cv, ev, -⟩ := ((H.f2).row_rd).form
  subst ev
  refine wc_loop [(1, _), (5, _), (6, _)] (fun (k : Nat) => [(7, .int .i64 (k : Int))]) (fun (k : Nat) W => k ≤ ts.length ∧ Holds w0 W (OutRep c (cs ++ (ts.take k).map (·, (1 : Int))) • Row 9 1 (.slice av ts.length cv) ts.length (ts.map .string) • F)) (fun (k : Nat) => ts.length - k) (0) (Sub.cons rfl (Sub.cons rfl (Sub.cons rfl (Sub.nil _)))) (Sub.cons rfl (Sub.nil _)) ⟨by omega, by simpa using H.f2.f2⟩ ?_
  rintro k w2 ⟨hk, HL⟩
  dsimp only [List.cons_append, List.nil_append]
  refine wc_seq ?_
  refine wc_region ?_
  refine wl_val (r_lss rfl rfl) (ltn rfl) ?_
  refine wl_nil ?_
  refine wq_seq ?_
  refine wc_seq ?_
  refine wc_cond rfl (fun h1 => ?_) (fun h1 => ?_)
  · (try simp only [beq_iff_eq, bne_iff_ne, ne_eq, decide_eq_true_eq, decide_eq_false_iff_not, beq_eq_false_iff_ne, bne_eq_false_iff_eq, Bool.not_eq_true', Bool.not_eq_false', Bool.not_eq_eq_eq_not, Bool.not_true, Bool.not_false, gt_iff_lt, ge_iff_le, Int.not_lt, Int.not_le] at h1)
    
    refine wc_skip ?_
    refine wq_seq ?_
    refine wc_seq ?_
    refine wc_block ?_
    refine wc_seq ?_
    refine wc_region ?_
    obtain ⟨bv, ov, rfl⟩ := Rd.pos ((HL.f2).row_rd) (by omega)
    refine wl_val (r_index Tryd.underlying56 Tryd.sizeOf9 rfl rfl (by omega)) (ltn rfl) ?_
    refine wl_val (r_load (plain_of Tryd.underlying9 rfl) rfl (by first | exact Rd.at1n ((HL.f2).row_rd) (by omega) | exact Rd.at0 ((HL.f2).row_rd) (by omega) | exact Rd.at1 ((HL.f2).row_rd) (by omega))) (ltn rfl) ?_
    have hkl : k < ts.length := by omega
    rw [show (ts.map Value.string).getD k undef = .string (ts.getD k .empty) from by simp [List.getD_eq_getElem?_getD, hkl]]
    refine wl_val (r_assign rfl) (ltn rfl) ?_
    refine wl_nil ?_
    refine wq_seq ?_
    obtain ⟨ou_x, HO_x⟩ := (HL).out
    have hln : (cs ++ (ts.take k).map (·, (1 : Int))).length ≤ 34359738368 := by simp; omega
    refine wc_region ?_
    refine wl_val (r_load (plain_of Tryd.underlying23 rfl) rfl (cell_of_blk (HO_x).get.2 rfl)) (ltn rfl) ?_
    refine wl_val (r_move rfl) (ltn rfl) ?_
    refine wl_val (r_build (pl := #[(0, 1), (1, 1), (2, 1)]) (_) Tryd.underlying26 Tryd.zeroValue26 (fun w => by kernel_rfl) rfl (rfl)) (ltn rfl) ?_
    refine wl_eff (e_lit_one HO_x Tryd.underlying23 Tryd.sizeOf26 Tryd.zeroValue26 rfl rfl rfl (by decide) (by decide)) (ltn rfl) ?_
    rintro l4 w4 H4
    refine wl_eff (e_append H4.f3 Tryd.underlying23 (show (Tryd.prog.info? 26).map (fun i => (i.zero, i.size, i.bytes)) = some (some (.agg #[.string .empty, .int .i64 0, .int .i64 0]), 3, 32) by kernel_rfl) rfl rfl rfl ((H4).row_rd) (ones_cons (by first | rfl | assumption) (ones_cons (by first | rfl | assumption) (ones_cons (by first | rfl | assumption) ones_nil))) (by omega) (by omega)) (ltn rfl) ?_
    rintro l5 w5 H5
    have Hd6 := H5.f2.right
    refine wl_eff0 (e_storeL 0 (l' := [_]) Hd6.f2 Tryd.sizeOf23 rfl rfl (by first | rfl | exact Rd.one ((Hd6).row_rd)) rfl rfl) ?_
    rintro _ w7 H7
    have HX := crow_one (c := (ts.getD k .empty, 1)) (H7.f3.f2.f3)
    have HN := Holds.mk_out HX.f2
    rw [List.append_assoc, show (ts.take k).map (·, (1 : Int)) ++ [(ts.getD k .empty, 1)] = (ts.take (k + 1)).map (·, (1 : Int)) from by rw [List.take_succ_eq_append_getElem hkl, List.map_append, List.getD_eq_getElem?_getD, List.getElem?_eq_getElem hkl]; rfl] at HN
    refine wl_nil ?_
    refine wq_block_normal ?_
    refine wq_seq ?_
    refine wc_region ?_
    refine wl_val (r_add rfl rfl (by omega)) (ltn rfl) ?_
    refine wl_val (r_move rfl) (ltn rfl) ?_
    refine wl_nil ?_
    refine wq_round (k + 1) ?_ ?_ ?_ ?_
    · exact (Sub.cons rfl (Sub.nil _))
    · exact (Sub.cons rfl (Sub.cons rfl (Sub.cons rfl (Sub.nil _))))
    · (try dsimp only)
      exact ⟨by omega, HN⟩
    · (try dsimp only); omega
  · (try simp only [beq_iff_eq, bne_iff_ne, ne_eq, decide_eq_true_eq, decide_eq_false_iff_not, beq_eq_false_iff_ne, bne_eq_false_iff_eq, Bool.not_eq_true', Bool.not_eq_false', Bool.not_eq_eq_eq_not, Bool.not_true, Bool.not_false, gt_iff_lt, ge_iff_le, Int.not_lt, Int.not_le] at h1)
    
    refine wc_exit ?_
    refine wq_then_exit ?_
    refine wq_then_exit ?_
    refine wq_block_hit ?_
    refine wq_end0 (.inr rfl) Tryd.results40 ?_
    obtain rfl : k = ts.length := by omega
    rw [List.take_length] at HL
    exact HL.f2.right
theorem one_fn (H : Holds w0 w (OutRep c cs • Row 9 1 v ts.length (ts.map .string) • F)) (hb : cs.length + ts.length ≤ 34359738368) :
    FnRet Tryd.prog (.func (.func 40) #[] #[.pointer (some ⟨c, 0, none⟩)]) [v] w fun _ w' => Holds w0 w' (OutRep c (cs ++ ts.map (·, (1 : Int))) • F) :=
  ⟨40, [], [.pointer (some ⟨c, 0, none⟩)], _, _, rfl, Tryd.func40, rfl, rfl, cells1_ret H hb⟩
theorem join_ret (H : Holds w0 w (Row 26 3 v cs.length (cs.flatMap celE) • F)) (hb : cs.length ≤ 34359738368) :
    Ret Tryd.prog 42 #[v, .int .i32 r] w fun v' w' => Holds w0 w' (Row 26 3 v' (joinM cs (Utf8.encode r)).length ((joinM cs (Utf8.encode r)).flatMap celE) • F) := by
  have hes := enc_size r
  unfold joinM
  refine ret_enter Tryd.func42 rfl Tryd.ntmps42 (Nat.le_of_ble_eq_true rfl) ?_
  dsimp only [slots0, Nat.reduceAdd]
  refine wc_seq ?_
  refine wc_region ?_
  refine wl_val (r_assign rfl) (ltn rfl) ?_
  refine wl_nil ?_
  refine wq_seq ?_
  refine wc_seq ?_
  refine wc_seq ?_
  refine wc_region ?_
  refine wl_val (r_move rfl) (ltn rfl) ?_
  refine wl_val (r_lenS ((H).row_rd) Tryd.underlying23 rfl) (ltn rfl) ?_
  refine wl_val (r_sub rfl rfl (by omega)) (ltn rfl) ?_
  refine wl_val (r_assign rfl) (ltn rfl) ?_
  refine wl_nil ?_
  refine wq_seq ?_
  refine wc_block ?_
  obtain ⟨av, cv, ev, -⟩ := ((H).row_rd).form
  subst ev
  refine wc_loop [(0, _), (1, _)] (fun (k : Nat) => [(5, .int .i64 ((k : Int) - 1))]) (fun (k : Nat) W => (k ≤ cs.length ∧ joinF k cs (Utf8.encode r) = joinF cs.length cs (Utf8.encode r)) ∧ Holds w0 W (Row 26 3 (.slice av cs.length cv) cs.length (cs.flatMap celE) • F)) (fun (k : Nat) => k) (cs.length) (Sub.cons rfl (Sub.cons rfl (Sub.nil _))) (Sub.cons rfl (Sub.nil _)) ⟨⟨by omega, rfl⟩, H⟩ ?_
  rintro k w2 ⟨⟨hk, hj⟩, HL⟩
  dsimp only [List.cons_append, List.nil_append]
  refine wc_seq ?_
  refine wc_seq ?_
  refine wc_region ?_
  refine wl_val (r_move rfl) (ltn rfl) ?_
  refine wl_val (r_geq rfl rfl) (ltn rfl) ?_
  refine wl_nil ?_
  refine wq_seq ?_
  refine wc_cond rfl (fun h1 => ?_) (fun h1 => ?_)
  · (try simp only [beq_iff_eq, bne_iff_ne, ne_eq, decide_eq_true_eq, decide_eq_false_iff_not, beq_eq_false_iff_ne, bne_eq_false_iff_eq, Bool.not_eq_true', Bool.not_eq_false', Bool.not_eq_eq_eq_not, Bool.not_true, Bool.not_false, gt_iff_lt, ge_iff_le, Int.not_lt, Int.not_le] at h1)
    
    refine wc_skip ?_
    refine wq_seq ?_
    refine wc_seq ?_
    refine wc_block ?_
    refine wc_seq ?_
    refine wc_seq ?_
    obtain ⟨m, rfl⟩ : ∃ m, k = m + 1 := ⟨k - 1, by omega⟩
    rw [show (((m + 1 : Nat) : Int) - 1) = (m : Int) from by omega]
    have hml : m < cs.length := by omega
    have hat := (cel_at hml).1
    rw [joinF] at hj
    refine wc_region ?_
    refine wl_val (r_move rfl) (ltn rfl) ?_
    refine wl_val (r_move rfl) (ltn rfl) ?_
    obtain ⟨bv, ov, rfl⟩ := Rd.pos ((HL).row_rd) (by omega)
    refine wl_val (r_index Tryd.underlying23 Tryd.sizeOf26 rfl rfl (by omega)) (ltn rfl) ?_
    refine wl_val ((by first | exact r_field0 0 Tryd.underlying26 rfl rfl Tryd.sizeOf9 (by decide) rfl | exact r_field 0 Tryd.underlying26 rfl rfl Tryd.sizeOf9 (by decide) rfl)) (ltn rfl) ?_
    refine wl_val (r_load (plain_of Tryd.underlying9 rfl) rfl (Rd.atS ((HL).row_rd) (by omega) (by decide))) (ltn rfl) ?_
    rw [hat]
    refine wl_val (r_str_eql rfl rfl) (ltn rfl) ?_
    refine wl_nil ?_
    refine wq_seq ?_
    refine wc_cond rfl (fun h2 => ?_) (fun h2 => ?_)
    · (try simp only [beq_iff_eq, bne_iff_ne, ne_eq, decide_eq_true_eq, decide_eq_false_iff_not, beq_eq_false_iff_ne, bne_eq_false_iff_eq, Bool.not_eq_true', Bool.not_eq_false', Bool.not_eq_eq_eq_not, Bool.not_true, Bool.not_false, gt_iff_lt, ge_iff_le, Int.not_lt, Int.not_le] at h2)
      rw [if_pos (show (cs.getD m (emptyS, 0)).1.toList = [] from by have h9 := h2; rwa [nilS] at h9)] at hj
      refine wc_exit ?_
      refine wq_then_exit ?_
      refine wq_block_hit ?_
      refine wq_seq ?_
      refine wc_region ?_
      refine wl_val (r_move rfl) (ltn rfl) ?_
      refine wl_val (r_sub rfl rfl (by omega)) (ltn rfl) ?_
      refine wl_val (r_assign rfl) (ltn rfl) ?_
      refine wl_nil ?_
      refine wq_round (m) ?_ ?_ ?_ ?_
      · exact (Sub.cons rfl (Sub.nil _))
      · exact (Sub.cons rfl (Sub.cons rfl (Sub.nil _)))
      · (try dsimp only)
        exact ⟨⟨by omega, hj⟩, HL⟩
      · (try dsimp only); omega
    · (try simp only [beq_iff_eq, bne_iff_ne, ne_eq, decide_eq_true_eq, decide_eq_false_iff_not, beq_eq_false_iff_ne, bne_eq_false_iff_eq, Bool.not_eq_true', Bool.not_eq_false', Bool.not_eq_eq_eq_not, Bool.not_true, Bool.not_false, gt_iff_lt, ge_iff_le, Int.not_lt, Int.not_le] at h2)
      rw [if_neg (show ¬ (cs.getD m (emptyS, 0)).1.toList = [] from by have h9 := h2; rwa [nilS] at h9)] at hj
      refine wc_skip ?_
      refine wq_seq ?_
      refine wc_seq ?_
      refine wc_seq ?_
      refine wc_region ?_
      refine wl_val (r_move rfl) (ltn rfl) ?_
      refine wl_val (r_move rfl) (ltn rfl) ?_
      refine wl_val (r_index Tryd.underlying23 Tryd.sizeOf26 rfl rfl (by omega)) (ltn rfl) ?_
      refine wl_val ((by first | exact r_field0 0 Tryd.underlying26 rfl rfl Tryd.sizeOf9 (by decide) rfl | exact r_field 0 Tryd.underlying26 rfl rfl Tryd.sizeOf9 (by decide) rfl)) (ltn rfl) ?_
      refine wl_val (r_load (plain_of Tryd.underlying9 rfl) rfl (Rd.atS ((HL).row_rd) (by omega) (by decide))) (ltn rfl) ?_
      rw [hat]
      refine wl_val (r_len_str Tryd.underlying9 rfl) (ltn rfl) ?_
      refine wl_val (r_leq rfl rfl) (ltn rfl) ?_
      refine wl_nil ?_
      refine wq_seq ?_
      refine wc_cond rfl (fun h3 => ?_) (fun h3 => ?_)
      · (try simp only [beq_iff_eq, bne_iff_ne, ne_eq, decide_eq_true_eq, decide_eq_false_iff_not, beq_eq_false_iff_ne, bne_eq_false_iff_eq, Bool.not_eq_true', Bool.not_eq_false', Bool.not_eq_eq_eq_not, Bool.not_true, Bool.not_false, gt_iff_lt, ge_iff_le, Int.not_lt, Int.not_le] at h3)
        rw [if_pos (show (cs.getD m (emptyS, 0)).1.size ≤ 32 by omega)] at hj
        have hsz : (cs.getD m (emptyS, 0)).1.size ≤ 32 := by omega
        refine wc_region ?_
        refine wl_val (r_move rfl) (ltn rfl) ?_
        refine wl_val (r_move rfl) (ltn rfl) ?_
        refine wl_val (r_index Tryd.underlying23 Tryd.sizeOf26 rfl rfl (by omega)) (ltn rfl) ?_
        refine wl_val ((by first | exact r_field0 0 Tryd.underlying26 rfl rfl Tryd.sizeOf9 (by decide) rfl | exact r_field 0 Tryd.underlying26 rfl rfl Tryd.sizeOf9 (by decide) rfl)) (ltn rfl) ?_
        refine wl_val (r_load (plain_of Tryd.underlying9 rfl) rfl (Rd.atS ((HL).row_rd) (by omega) (by decide))) (ltn rfl) ?_
        rw [hat]
        refine wl_val (r_move rfl) (ltn rfl) ?_
        refine wl_val (r_int_str Tryd.underlying21 Tryd.underlying9 rfl) (ltn rfl) ?_
        refine wl_val (r_str_add rfl rfl (by omega)) (ltn rfl) ?_
        refine wl_val (r_index Tryd.underlying23 Tryd.sizeOf26 rfl rfl (by omega)) (ltn rfl) ?_
        refine wl_val ((by first | exact r_field0 0 Tryd.underlying26 rfl rfl Tryd.sizeOf9 (by decide) rfl | exact r_field 0 Tryd.underlying26 rfl rfl Tryd.sizeOf9 (by decide) rfl)) (ltn rfl) ?_
        refine wl_eff0 (e_store_rowS 0 HL Tryd.sizeOf9 rfl rfl (by first | rfl | assumption) (by omega) (by decide)) ?_
        rintro _ w3 H3
        rw [show ((m : Int).toNat * 3 + 0) = m * 3 + 0 from by omega, cel_set hml] at H3
        have HZ : Holds w0 w3 (Row 26 3 (.slice (some ⟨bv, ov, none⟩) (cs.length) cv) (cs.set m ((cs.getD m (emptyS, 0)).1 ++ Utf8.encode r, (cs.getD m (emptyS, 0)).2)).length ((cs.set m ((cs.getD m (emptyS, 0)).1 ++ Utf8.encode r, (cs.getD m (emptyS, 0)).2)).flatMap celE) • F) := by rw [List.length_set]; exact H3
        refine wl_nil ?_
        refine wq_seq ?_
        refine wc_seq ?_
        refine wc_region ?_
        refine wl_val (r_move rfl) (ltn rfl) ?_
        refine wl_val (r_assign rfl) (ltn rfl) ?_
        refine wl_nil ?_
        refine wq_seq ?_
        refine wc_ret ?_
        refine wq_block_ret ?_
        refine wq_then_ret ?_
        refine wq_then_ret ?_
        refine wq_block_ret ?_
        refine wq_then_ret ?_
        refine wq_end1 (.inl rfl) Tryd.results42 rfl ?_
        rw [← hj]
        exact HZ
      · (try simp only [beq_iff_eq, bne_iff_ne, ne_eq, decide_eq_true_eq, decide_eq_false_iff_not, beq_eq_false_iff_ne, bne_eq_false_iff_eq, Bool.not_eq_true', Bool.not_eq_false', Bool.not_eq_eq_eq_not, Bool.not_true, Bool.not_false, gt_iff_lt, ge_iff_le, Int.not_lt, Int.not_le] at h3)
        rw [if_neg (show ¬ (cs.getD m (emptyS, 0)).1.size ≤ 32 by omega)] at hj
        have HZ := HL
        refine wc_skip ?_
        refine wq_seq ?_
        refine wc_seq ?_
        refine wc_region ?_
        refine wl_val (r_move rfl) (ltn rfl) ?_
        refine wl_val (r_assign rfl) (ltn rfl) ?_
        refine wl_nil ?_
        refine wq_seq ?_
        refine wc_ret ?_
        refine wq_block_ret ?_
        refine wq_then_ret ?_
        refine wq_then_ret ?_
        refine wq_block_ret ?_
        refine wq_then_ret ?_
        refine wq_end1 (.inl rfl) Tryd.results42 rfl ?_
        rw [← hj]
        exact HZ
  · (try simp only [beq_iff_eq, bne_iff_ne, ne_eq, decide_eq_true_eq, decide_eq_false_iff_not, beq_eq_false_iff_ne, bne_eq_false_iff_eq, Bool.not_eq_true', Bool.not_eq_false', Bool.not_eq_eq_eq_not, Bool.not_true, Bool.not_false, gt_iff_lt, ge_iff_le, Int.not_lt, Int.not_le] at h1)
    
    refine wc_exit ?_
    refine wq_then_exit ?_
    refine wq_then_exit ?_
    refine wq_block_hit ?_
    refine wq_seq ?_
    refine wc_seq ?_
    refine wc_region ?_
    refine wl_val (r_move rfl) (ltn rfl) ?_
    refine wl_val (r_move rfl) (ltn rfl) ?_
    refine wl_val (r_int_str Tryd.underlying21 Tryd.underlying9 rfl) (ltn rfl) ?_
    refine wl_val (r_str_add rfl rfl (by have := oneS 32; omega)) (ltn rfl) ?_
    refine wl_val (r_build (pl := #[(0, 1), (1, 1), (2, 1)]) (_) Tryd.underlying26 Tryd.zeroValue26 (fun w => by kernel_rfl) rfl (rfl)) (ltn rfl) ?_
    refine wl_eff (e_lit_one HL Tryd.underlying23 Tryd.sizeOf26 Tryd.zeroValue26 rfl rfl rfl (by decide) (by decide)) (ltn rfl) ?_
    rintro l4 w4 H4
    refine wl_eff (e_append H4.f2 Tryd.underlying23 (show (Tryd.prog.info? 26).map (fun i => (i.zero, i.size, i.bytes)) = some (some (.agg #[.string .empty, .int .i64 0, .int .i64 0]), 3, 32) by kernel_rfl) rfl rfl rfl ((H4).row_rd) (ones_cons (by first | rfl | assumption) (ones_cons (by first | rfl | assumption) (ones_cons (by first | rfl | assumption) ones_nil))) (by omega) (by omega)) (ltn rfl) ?_
    rintro l5 w5 H5
    have Hd6 := H5.f2.right
    refine wl_val (r_assign rfl) (ltn rfl) ?_
    refine wl_nil ?_
    refine wq_seq ?_
    refine wc_ret ?_
    refine wq_end1 (.inl rfl) Tryd.results42 rfl ?_
    obtain rfl : k = 0 := by omega
    rw [← hj]
    exact crow_one (c := (blankS ++ Utf8.encode r, 1)) Hd6
end
end Go.Proofs.YtmkmffoadapmnaaDoor
