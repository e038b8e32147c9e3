/- Words joined, walked. -/
import Derived.Test.YtgoopiakpbcgoaaShW2
import Derived.Test.YtgoopiakpbcgoaaLL
set_option linter.unusedSimpArgs false
set_option linter.unusedVariables false
namespace Go.Proofs.Ytgoopiakpbcgoaa
open Go.RowKit Go.Lib
def joinK (ls : List (List Int)) : Nat → List Int
  | 0 => []
  | k + 1 => (joinK ls k ++ (if 0 < k then [32] else [])) ++ ls.getD k []
def joinS (ls : List (List Int)) : List Int := joinK ls ls.length
theorem sum_take_le : ∀ (ls : List (List Int)) (k : Nat), ((ls.take k).map List.length).sum ≤ (ls.map List.length).sum
  | [], k => by simp
  | l :: ls, 0 => by simp
  | l :: ls, k + 1 => by have := sum_take_le ls k; simp only [List.take_succ_cons, List.map_cons, List.sum_cons]; omega
theorem sum_take_succ {ls : List (List Int)} {k : Nat} (h : k < ls.length) : ((ls.take (k + 1)).map List.length).sum = ((ls.take k).map List.length).sum + (ls.getD k []).length := by
  rw [List.take_succ_eq_append_getElem h, List.map_append, List.sum_append, List.getD_eq_getElem?_getD, List.getElem?_eq_getElem h]; simp
theorem joinK_len (ls : List (List Int)) : ∀ k, k ≤ ls.length → (joinK ls k).length ≤ ((ls.take k).map List.length).sum + k
  | 0, _ => by simp [joinK]
  | k + 1, h => by
    have h1 := joinK_len ls k (by omega)
    rw [sum_take_succ (by omega)]
    unfold joinK
    rw [List.length_append, List.length_append]
    have : (if 0 < k then [(32 : Int)] else []).length ≤ 1 := by split <;> simp
    omega
theorem joinK_le {ls : List (List Int)} {k : Nat} (h : k < ls.length) : (joinK ls k).length + 1 + (ls.getD k []).length ≤ (ls.map List.length).sum + ls.length := by
  have h1 := joinK_len ls k (by omega)
  have h2 := sum_take_le ls (k + 1)
  rw [sum_take_succ h] at h2
  omega
theorem joinS_len (ls : List (List Int)) : (joinS ls).length ≤ (ls.map List.length).sum + ls.length := by
  have h1 := joinK_len ls ls.length (Nat.le_refl _)
  rw [List.take_length] at h1
  exact h1
theorem joinK_at {ls : List (List Int)} {k : Nat} : joinK ls (k + 1) = (joinK ls k ++ (if 0 < k then [32] else [])) ++ ls.getD k [] := rfl
section
variable {w0 w : World} {F : HP} {v : Value} {vs : List Value} {ls : List (List Int)}
theorem sh_join_ret (H : Holds w0 w F) (hv : FRd w0 F 1 v ls.length vs) (hls : ∀ k, k < ls.length → FRdI w0 F .i32 (vs.getD k undef) (ls.getD k [])) (hS : (ls.map List.length).sum + ls.length ≤ 4294967296) :
    Ret Try.prog 13 #[v] w fun v' w' => Holds w0 w' (RowI 21 .i32 v' (joinS ls) • F) := by
  refine ret_enter Try.func13 rfl Try.ntmps13 (Nat.le_of_ble_eq_true rfl) ?_
  dsimp only [slots0, Nat.reduceAdd]
  refine wc_seq ?_
  refine wc_region ?_
  refine wl_val (r_assign rfl) (ltn rfl) ?_
  refine wl_nil ?_
  refine wq_seq ?_
  refine wc_seq ?_
  refine wc_region ?_
  refine wl_val (r_assign rfl) (ltn rfl) ?_
  refine wl_nil ?_
  refine wq_seq ?_
  refine wc_seq ?_
  refine wc_seq ?_
  refine wc_region ?_
  refine wl_val (r_move rfl) (ltn rfl) ?_
  refine wl_val (r_lenS (hv _ (H)) Try.underlying30 rfl) (ltn rfl) ?_
  refine wl_val (r_move rfl) (ltn rfl) ?_
  refine wl_nil ?_
  refine wq_seq ?_
  refine wc_block ?_
  refine wc_loop [(6, _), (7, _)] (fun (⟨k, u⟩ : Nat × Value) => [(8, .int .i64 (k : Int)), (3, u)]) (fun (⟨k, u⟩ : Nat × Value) W => k ≤ ls.length ∧ Holds w0 W (RowI 21 .i32 u (joinK ls k) • F)) (fun (⟨k, u⟩ : Nat × Value) => ls.length - k) ((0, .slice none 0 0)) (Sub.cons rfl (Sub.cons rfl (Sub.nil _))) (Sub.cons rfl (Sub.cons rfl (Sub.nil _))) ⟨by omega, (H).row_nil none⟩ ?_
  rintro ⟨k, u⟩ w1 ⟨hk, HL⟩
  dsimp only [List.cons_append, List.nil_append]
  refine wc_seq ?_
  refine wc_region ?_
  refine wl_val (r_lss rfl rfl) (ltn rfl) ?_
  refine wl_nil ?_
  refine wq_seq ?_
  refine wc_seq ?_
  refine wc_cond rfl (fun h1 => ?_) (fun h1 => ?_)
  · (try simp only [beq_iff_eq, bne_iff_ne, ne_eq, decide_eq_true_eq, decide_eq_false_iff_not, beq_eq_false_iff_ne, bne_eq_false_iff_eq, Bool.not_eq_true', Bool.not_eq_false', Bool.not_eq_eq_eq_not, Bool.not_true, Bool.not_false, gt_iff_lt, ge_iff_le, Int.not_lt, Int.not_le] at h1)
    
    refine wc_skip ?_
    refine wq_seq ?_
    refine wc_seq ?_
    refine wc_block ?_
    refine wc_seq ?_
    have hkl : k < ls.length := by omega
    have hjl := joinK_le hkl
    refine wc_region ?_
    refine wl_val (r_move rfl) (ltn rfl) ?_
    obtain ⟨bv, ov, cv, ev⟩ := Rd.posV (hv _ (HL.right)) (by omega)
    cases ev
    refine wl_val (r_index Try.underlying30 Try.sizeOf22 rfl rfl (by omega)) (ltn rfl) ?_
    refine wl_val (r_load (plain_of Try.underlying22 rfl) rfl (by first | exact Rd.at1n (hv _ (HL.right)) (by omega) | exact Rd.at0 (hv _ (HL.right)) (by omega) | exact Rd.at1 (hv _ (HL.right)) (by omega))) (ltn rfl) ?_
    refine wl_gen (fun x12_2 hx12_2 => ?_)
    refine wl_val (r_assign rfl) (ltn rfl) ?_
    refine wl_val (r_assign rfl) (ltn rfl) ?_
    refine wl_nil ?_
    refine wq_seq ?_
    refine wc_seq ?_
    refine wc_seq ?_
    refine wc_region ?_
    refine wl_val (r_move rfl) (ltn rfl) ?_
    refine wl_val (r_gtr rfl rfl) (ltn rfl) ?_
    refine wl_nil ?_
    refine wq_seq ?_
    refine wc_cond rfl (fun h2 => ?_) (fun h2 => ?_)
    · (try simp only [beq_iff_eq, bne_iff_ne, ne_eq, decide_eq_true_eq, decide_eq_false_iff_not, beq_eq_false_iff_ne, bne_eq_false_iff_eq, Bool.not_eq_true', Bool.not_eq_false', Bool.not_eq_eq_eq_not, Bool.not_true, Bool.not_false, gt_iff_lt, ge_iff_le, Int.not_lt, Int.not_le] at h2)
      
      refine wc_region ?_
      refine wl_val (r_move rfl) (ltn rfl) ?_
      refine wl_eff (e_lit_ints (k := .i32) (l := [32]) HL Try.underlying22 Try.sizeOf21 Try.zeroValue21 rfl rfl rfl (by decide)) (ltn rfl) ?_
      rintro l3 w3 H3
      refine wl_eff (e_append_ints H3.f2 ((H3).row_rd) Try.underlying22 (show (Try.prog.info? 21).map (fun i => (i.zero, i.size, i.bytes)) = some (some (.int .i32 0), 1, 4) by kernel_rfl) rfl rfl (by first | omega | (simp only [List.length_append, List.length_nil, List.length_cons]; omega) | (simp; omega)) (by first | omega | (simp only [List.length_append, List.length_nil, List.length_cons]; omega) | (simp; omega))) (ltn rfl) ?_
      rintro l4 w4 H4
      try simp only [List.nil_append] at H4
      refine wl_val (r_assign rfl) (ltn rfl) ?_
      refine wl_nil ?_
      refine wq_seq ?_
      refine wc_region ?_
      refine wl_val (r_move rfl) (ltn rfl) ?_
      refine wl_val (r_move rfl) (ltn rfl) ?_
      refine wl_eff (e_append_ints H4 ((by rw [hx12_2]; exact hls _ (by omega) _ (H4.right.right))) Try.underlying22 (show (Try.prog.info? 21).map (fun i => (i.zero, i.size, i.bytes)) = some (some (.int .i32 0), 1, 4) by kernel_rfl) rfl rfl (by first | omega | (simp only [List.length_append, List.length_nil, List.length_cons]; omega) | (simp; omega)) (by first | omega | (simp only [List.length_append, List.length_nil, List.length_cons]; omega) | (simp; omega))) (ltn rfl) ?_
      rintro l5 w5 H5
      try simp only [List.nil_append] at H5
      refine wl_val (r_assign rfl) (ltn rfl) ?_
      refine wl_nil ?_
      refine wq_block_normal ?_
      refine wq_seq ?_
      refine wc_region ?_
      refine wl_val (r_add rfl rfl (by omega)) (ltn rfl) ?_
      refine wl_val (r_move rfl) (ltn rfl) ?_
      refine wl_nil ?_
      refine wq_round ((k + 1, l5)) ?_ ?_ ?_ ?_
      · exact (Sub.cons rfl (Sub.cons rfl (Sub.nil _)))
      · exact (Sub.cons rfl (Sub.cons rfl (Sub.nil _)))
      · (try dsimp only)
        exact ⟨by omega, by rw [joinK_at]; first | (rw [if_pos (by omega)]; exact H5.f2.right) | (rw [if_neg (by omega), List.append_nil]; exact H5.f2.right)⟩
      · (try dsimp only); omega
    · (try simp only [beq_iff_eq, bne_iff_ne, ne_eq, decide_eq_true_eq, decide_eq_false_iff_not, beq_eq_false_iff_ne, bne_eq_false_iff_eq, Bool.not_eq_true', Bool.not_eq_false', Bool.not_eq_eq_eq_not, Bool.not_true, Bool.not_false, gt_iff_lt, ge_iff_le, Int.not_lt, Int.not_le] at h2)
      
      refine wc_skip ?_
      refine wq_seq ?_
      refine wc_region ?_
      refine wl_val (r_move rfl) (ltn rfl) ?_
      refine wl_val (r_move rfl) (ltn rfl) ?_
      refine wl_eff (e_append_ints HL ((by rw [hx12_2]; exact hls _ (by omega) _ (HL.right))) Try.underlying22 (show (Try.prog.info? 21).map (fun i => (i.zero, i.size, i.bytes)) = some (some (.int .i32 0), 1, 4) by kernel_rfl) rfl rfl (by first | omega | (simp only [List.length_append, List.length_nil, List.length_cons]; omega) | (simp; omega)) (by first | omega | (simp only [List.length_append, List.length_nil, List.length_cons]; omega) | (simp; omega))) (ltn rfl) ?_
      rintro l6 w6 H6
      try simp only [List.nil_append] at H6
      refine wl_val (r_assign rfl) (ltn rfl) ?_
      refine wl_nil ?_
      refine wq_block_normal ?_
      refine wq_seq ?_
      refine wc_region ?_
      refine wl_val (r_add rfl rfl (by omega)) (ltn rfl) ?_
      refine wl_val (r_move rfl) (ltn rfl) ?_
      refine wl_nil ?_
      refine wq_round ((k + 1, l6)) ?_ ?_ ?_ ?_
      · exact (Sub.cons rfl (Sub.cons rfl (Sub.nil _)))
      · exact (Sub.cons rfl (Sub.cons rfl (Sub.nil _)))
      · (try dsimp only)
        exact ⟨by omega, by rw [joinK_at]; first | (rw [if_pos (by omega)]; exact H6) | (rw [if_neg (by omega), List.append_nil]; exact H6)⟩
      · (try dsimp only); omega
  · (try simp only [beq_iff_eq, bne_iff_ne, ne_eq, decide_eq_true_eq, decide_eq_false_iff_not, beq_eq_false_iff_ne, bne_eq_false_iff_eq, Bool.not_eq_true', Bool.not_eq_false', Bool.not_eq_eq_eq_not, Bool.not_true, Bool.not_false, gt_iff_lt, ge_iff_le, Int.not_lt, Int.not_le] at h1)
    
    refine wc_exit ?_
    refine wq_then_exit ?_
    refine wq_then_exit ?_
    refine wq_block_hit ?_
    refine wq_seq ?_
    refine wc_seq ?_
    refine wc_region ?_
    refine wl_val (r_move rfl) (ltn rfl) ?_
    refine wl_val (r_assign rfl) (ltn rfl) ?_
    refine wl_nil ?_
    refine wq_seq ?_
    refine wc_ret ?_
    refine wq_end1 (.inl rfl) Try.results13 rfl ?_
    obtain rfl : k = ls.length := by omega
    exact HL
theorem ref_join_ret (H : Holds w0 w F) (hv : FRd w0 F 1 v ls.length vs) (hls : ∀ k, k < ls.length → FRdI w0 F .i32 (vs.getD k undef) (ls.getD k [])) (hS : (ls.map List.length).sum + ls.length ≤ 4294967296) :
    Ret Try.prog 23 #[v] w fun v' w' => Holds w0 w' (RowI 21 .i32 v' (joinS ls) • F) := by
  refine ret_enter Try.func23 rfl Try.ntmps23 (Nat.le_of_ble_eq_true rfl) ?_
  dsimp only [slots0, Nat.reduceAdd]
  refine wc_seq ?_
  refine wc_region ?_
  refine wl_val (r_assign rfl) (ltn rfl) ?_
  refine wl_nil ?_
  refine wq_seq ?_
  refine wc_seq ?_
  refine wc_region ?_
  refine wl_val (r_assign rfl) (ltn rfl) ?_
  refine wl_nil ?_
  refine wq_seq ?_
  refine wc_seq ?_
  refine wc_seq ?_
  refine wc_region ?_
  refine wl_val (r_assign rfl) (ltn rfl) ?_
  refine wl_nil ?_
  refine wq_seq ?_
  refine wc_block ?_
  refine wc_loop [(0, _)] (fun (⟨k, u⟩ : Nat × Value) => [(4, .int .i64 (k : Int)), (3, u)]) (fun (⟨k, u⟩ : Nat × Value) W => k ≤ ls.length ∧ Holds w0 W (RowI 21 .i32 u (joinK ls k) • F)) (fun (⟨k, u⟩ : Nat × Value) => ls.length - k) ((0, .slice none 0 0)) (Sub.cons rfl (Sub.nil _)) (Sub.cons rfl (Sub.cons rfl (Sub.nil _))) ⟨by omega, (H).row_nil none⟩ ?_
  rintro ⟨k, u⟩ w1 ⟨hk, HL⟩
  dsimp only [List.cons_append, List.nil_append]
  refine wc_seq ?_
  refine wc_seq ?_
  refine wc_region ?_
  refine wl_val (r_move rfl) (ltn rfl) ?_
  refine wl_val (r_move rfl) (ltn rfl) ?_
  refine wl_val (r_lenS (hv _ (HL.right)) Try.underlying30 rfl) (ltn rfl) ?_
  refine wl_val (r_lss rfl rfl) (ltn rfl) ?_
  refine wl_nil ?_
  refine wq_seq ?_
  refine wc_cond rfl (fun h1 => ?_) (fun h1 => ?_)
  · (try simp only [beq_iff_eq, bne_iff_ne, ne_eq, decide_eq_true_eq, decide_eq_false_iff_not, beq_eq_false_iff_ne, bne_eq_false_iff_eq, Bool.not_eq_true', Bool.not_eq_false', Bool.not_eq_eq_eq_not, Bool.not_true, Bool.not_false, gt_iff_lt, ge_iff_le, Int.not_lt, Int.not_le] at h1)
    
    refine wc_skip ?_
    refine wq_seq ?_
    refine wc_seq ?_
    refine wc_block ?_
    refine wc_seq ?_
    refine wc_seq ?_
    have hkl : k < ls.length := by omega
    have hjl := joinK_le hkl
    refine wc_region ?_
    refine wl_val (r_move rfl) (ltn rfl) ?_
    refine wl_val (r_gtr rfl rfl) (ltn rfl) ?_
    refine wl_nil ?_
    refine wq_seq ?_
    refine wc_cond rfl (fun h2 => ?_) (fun h2 => ?_)
    · (try simp only [beq_iff_eq, bne_iff_ne, ne_eq, decide_eq_true_eq, decide_eq_false_iff_not, beq_eq_false_iff_ne, bne_eq_false_iff_eq, Bool.not_eq_true', Bool.not_eq_false', Bool.not_eq_eq_eq_not, Bool.not_true, Bool.not_false, gt_iff_lt, ge_iff_le, Int.not_lt, Int.not_le] at h2)
      
      refine wc_region ?_
      refine wl_val (r_move rfl) (ltn rfl) ?_
      refine wl_eff (e_lit_ints (k := .i32) (l := [32]) HL Try.underlying22 Try.sizeOf21 Try.zeroValue21 rfl rfl rfl (by decide)) (ltn rfl) ?_
      rintro l2 w2 H2
      refine wl_eff (e_append_ints H2.f2 ((H2).row_rd) Try.underlying22 (show (Try.prog.info? 21).map (fun i => (i.zero, i.size, i.bytes)) = some (some (.int .i32 0), 1, 4) by kernel_rfl) rfl rfl (by first | omega | (simp only [List.length_append, List.length_nil, List.length_cons]; omega) | (simp; omega)) (by first | omega | (simp only [List.length_append, List.length_nil, List.length_cons]; omega) | (simp; omega))) (ltn rfl) ?_
      rintro l3 w3 H3
      try simp only [List.nil_append] at H3
      refine wl_val (r_assign rfl) (ltn rfl) ?_
      refine wl_nil ?_
      refine wq_seq ?_
      refine wc_region ?_
      refine wl_val (r_move rfl) (ltn rfl) ?_
      refine wl_val (r_move rfl) (ltn rfl) ?_
      refine wl_val (r_move rfl) (ltn rfl) ?_
      obtain ⟨bv, ov, cv, ev⟩ := Rd.posV (hv _ (H3.right.right)) (by omega)
      cases ev
      refine wl_val (r_index Try.underlying30 Try.sizeOf22 rfl rfl (by omega)) (ltn rfl) ?_
      refine wl_val (r_load (plain_of Try.underlying22 rfl) rfl (by first | exact Rd.at1n (hv _ (H3.right.right)) (by omega) | exact Rd.at0 (hv _ (H3.right.right)) (by omega) | exact Rd.at1 (hv _ (H3.right.right)) (by omega))) (ltn rfl) ?_
      refine wl_gen (fun x20_4 hx20_4 => ?_)
      refine wl_eff (e_append_ints H3 ((by rw [hx20_4]; exact hls _ (by omega) _ (H3.right.right))) Try.underlying22 (show (Try.prog.info? 21).map (fun i => (i.zero, i.size, i.bytes)) = some (some (.int .i32 0), 1, 4) by kernel_rfl) rfl rfl (by first | omega | (simp only [List.length_append, List.length_nil, List.length_cons]; omega) | (simp; omega)) (by first | omega | (simp only [List.length_append, List.length_nil, List.length_cons]; omega) | (simp; omega))) (ltn rfl) ?_
      rintro l5 w5 H5
      try simp only [List.nil_append] at H5
      refine wl_val (r_assign rfl) (ltn rfl) ?_
      refine wl_nil ?_
      refine wq_block_normal ?_
      refine wq_seq ?_
      refine wc_region ?_
      refine wl_val (r_move rfl) (ltn rfl) ?_
      refine wl_val (r_add rfl rfl (by omega)) (ltn rfl) ?_
      refine wl_val (r_assign rfl) (ltn rfl) ?_
      refine wl_nil ?_
      refine wq_round ((k + 1, l5)) ?_ ?_ ?_ ?_
      · exact (Sub.cons rfl (Sub.cons rfl (Sub.nil _)))
      · exact (Sub.cons rfl (Sub.nil _))
      · (try dsimp only)
        exact ⟨by omega, by rw [joinK_at]; first | (rw [if_pos (by omega)]; exact H5.f2.right) | (rw [if_neg (by omega), List.append_nil]; exact H5.f2.right)⟩
      · (try dsimp only); omega
    · (try simp only [beq_iff_eq, bne_iff_ne, ne_eq, decide_eq_true_eq, decide_eq_false_iff_not, beq_eq_false_iff_ne, bne_eq_false_iff_eq, Bool.not_eq_true', Bool.not_eq_false', Bool.not_eq_eq_eq_not, Bool.not_true, Bool.not_false, gt_iff_lt, ge_iff_le, Int.not_lt, Int.not_le] at h2)
      
      refine wc_skip ?_
      refine wq_seq ?_
      refine wc_region ?_
      refine wl_val (r_move rfl) (ltn rfl) ?_
      refine wl_val (r_move rfl) (ltn rfl) ?_
      refine wl_val (r_move rfl) (ltn rfl) ?_
      obtain ⟨bv, ov, cv, ev⟩ := Rd.posV (hv _ (HL.right)) (by omega)
      cases ev
      refine wl_val (r_index Try.underlying30 Try.sizeOf22 rfl rfl (by omega)) (ltn rfl) ?_
      refine wl_val (r_load (plain_of Try.underlying22 rfl) rfl (by first | exact Rd.at1n (hv _ (HL.right)) (by omega) | exact Rd.at0 (hv _ (HL.right)) (by omega) | exact Rd.at1 (hv _ (HL.right)) (by omega))) (ltn rfl) ?_
      refine wl_gen (fun x20_6 hx20_6 => ?_)
      refine wl_eff (e_append_ints HL ((by rw [hx20_6]; exact hls _ (by omega) _ (HL.right))) Try.underlying22 (show (Try.prog.info? 21).map (fun i => (i.zero, i.size, i.bytes)) = some (some (.int .i32 0), 1, 4) by kernel_rfl) rfl rfl (by first | omega | (simp only [List.length_append, List.length_nil, List.length_cons]; omega) | (simp; omega)) (by first | omega | (simp only [List.length_append, List.length_nil, List.length_cons]; omega) | (simp; omega))) (ltn rfl) ?_
      rintro l7 w7 H7
      try simp only [List.nil_append] at H7
      refine wl_val (r_assign rfl) (ltn rfl) ?_
      refine wl_nil ?_
      refine wq_block_normal ?_
      refine wq_seq ?_
      refine wc_region ?_
      refine wl_val (r_move rfl) (ltn rfl) ?_
      refine wl_val (r_add rfl rfl (by omega)) (ltn rfl) ?_
      refine wl_val (r_assign rfl) (ltn rfl) ?_
      refine wl_nil ?_
      refine wq_round ((k + 1, l7)) ?_ ?_ ?_ ?_
      · exact (Sub.cons rfl (Sub.cons rfl (Sub.nil _)))
      · exact (Sub.cons rfl (Sub.nil _))
      · (try dsimp only)
        exact ⟨by omega, by rw [joinK_at]; first | (rw [if_pos (by omega)]; exact H7) | (rw [if_neg (by omega), List.append_nil]; exact H7)⟩
      · (try dsimp only); omega
  · (try simp only [beq_iff_eq, bne_iff_ne, ne_eq, decide_eq_true_eq, decide_eq_false_iff_not, beq_eq_false_iff_ne, bne_eq_false_iff_eq, Bool.not_eq_true', Bool.not_eq_false', Bool.not_eq_eq_eq_not, Bool.not_true, Bool.not_false, gt_iff_lt, ge_iff_le, Int.not_lt, Int.not_le] at h1)
    
    refine wc_exit ?_
    refine wq_then_exit ?_
    refine wq_then_exit ?_
    refine wq_block_hit ?_
    refine wq_seq ?_
    refine wc_seq ?_
    refine wc_region ?_
    refine wl_val (r_move rfl) (ltn rfl) ?_
    refine wl_val (r_assign rfl) (ltn rfl) ?_
    refine wl_nil ?_
    refine wq_seq ?_
    refine wc_ret ?_
    refine wq_end1 (.inl rfl) Try.results23 rfl ?_
    obtain rfl : k = ls.length := by omega
    exact HL
end
end Go.Proofs.Ytgoopiakpbcgoaa
