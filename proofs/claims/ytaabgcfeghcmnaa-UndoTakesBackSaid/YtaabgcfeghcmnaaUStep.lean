/- Undo: a step as an edit of a line; what edits do, in plain terms. -/
import Derived.Test.YtaabgcfeghcmnaaBegun
set_option linter.unusedSimpArgs false
set_option linter.unusedVariables false
namespace Go.Proofs.Ytaabgcfeghcmnaa
open Go.RowKit
def cutL (L : List Int) (q n : Nat) : List Int := (L.drop q).take n
theorem cutL_len {L : List Int} {q n : Nat} (h : q + n ≤ L.length) : (cutL L q n).length = n := by simp [cutL]; omega
section
variable {w0 w : World} {F : HP} {v z x1 x2 : Value} {L il il2 dl : List Int} {q n q2 n2 : Nat} {a m : Int}
theorem fit_cut (h : q + n ≤ L.length) : uFit L q (cutL L q n) = true := by
  rw [uFit_iff, cutL_len h]
  exact ⟨by omega, by rw [Int.toNat_natCast]; rfl⟩
theorem uE_cut (h : q + n ≤ L.length) : uE L q (cutL L q n) il = if 1024 < (L.length : Int) - n + il.length then 3 else 0 := by
  unfold uE; rw [fit_cut h, if_pos rfl, cutL_len h]
theorem uE_cut_ok (h : q + n ≤ L.length) : uE L q (cutL L q n) il = 0 ↔ (L.length : Int) - n + il.length ≤ 1024 := by
  rw [uE_cut h]
  by_cases hc : 1024 < (L.length : Int) - n + il.length
  · rw [if_pos hc]; constructor
    · intro e; cases e
    · intro e; omega
  · rw [if_neg hc]; constructor
    · intro e; omega
    · intro e; rfl
theorem uE_cut_or (h : q + n ≤ L.length) : uE L q (cutL L q n) il = 0 ∨ uE L q (cutL L q n) il = 3 := by
  rw [uE_cut h]; split
  · exact .inr rfl
  · exact .inl rfl
theorem uL_cut (h : q + n ≤ L.length) (e : uE L q (cutL L q n) il = 0) : uL L q (cutL L q n) il = L.take q ++ il ++ L.drop (q + n) := by
  rw [uL_ok e, cutL_len h, Int.toNat_natCast]
theorem one_len (h : q + n ≤ L.length) : (L.take q ++ il ++ L.drop (q + n)).length = L.length - n + il.length := by simp; omega
/-- Taken back. -/
theorem back_cut (h : q + n ≤ L.length) : cutL (L.take q ++ il ++ L.drop (q + n)) q il.length = il := by
  unfold cutL; rw [List.append_assoc, List.drop_left' (by simp; omega), List.take_left' rfl]
theorem back_E (h : q + n ≤ L.length) (hl : L.length ≤ 1024) : uE (L.take q ++ il ++ L.drop (q + n)) q il (cutL L q n) = 0 := by
  have := (uE_cut_ok (L := L.take q ++ il ++ L.drop (q + n)) (q := q) (n := il.length) (il := cutL L q n) (by rw [one_len h]; omega)).2 (by rw [one_len h, cutL_len h]; omega)
  rwa [back_cut h] at this
theorem back_L (h : q + n ≤ L.length) (hl : L.length ≤ 1024) : uL (L.take q ++ il ++ L.drop (q + n)) q il (cutL L q n) = L := by
  rw [uL_ok (back_E h hl), Int.toNat_natCast]
  have q1 : (L.take q ++ il ++ L.drop (q + n)).take q = L.take q := by rw [List.append_assoc, List.take_left' (by simp; omega)]
  have q2 : (L.take q ++ il ++ L.drop (q + n)).drop (q + il.length) = L.drop (q + n) := List.drop_left' (by simp; omega)
  rw [q1, q2]
  unfold cutL
  have := List.take_append_drop n (L.drop q)
  rw [List.drop_drop] at this
  rw [List.append_assoc, this, List.take_append_drop]
/-- Two in one. -/
theorem join_E (h : q + n ≤ L.length) (h2 : q2 + n2 ≤ L.length - n + il.length) (e1 : uE L q (cutL L q n) il = 0) (e2 : uE (L.take q ++ il ++ L.drop (q + n)) q2 (cutL (L.take q ++ il ++ L.drop (q + n)) q2 n2) il2 = 0)
    (hk : jK q q2 (cutL L q n) il (cutL (L.take q ++ il ++ L.drop (q + n)) q2 n2) il2 ≠ 0) :
    uE L (jA (jK q q2 (cutL L q n) il (cutL (L.take q ++ il ++ L.drop (q + n)) q2 n2) il2) q q2) (jD (jK q q2 (cutL L q n) il (cutL (L.take q ++ il ++ L.drop (q + n)) q2 n2) il2) (cutL L q n) (cutL (L.take q ++ il ++ L.drop (q + n)) q2 n2)) (jI (jK q q2 (cutL L q n) il (cutL (L.take q ++ il ++ L.drop (q + n)) q2 n2) il2) il il2) = 0 ∧
    uL L (jA (jK q q2 (cutL L q n) il (cutL (L.take q ++ il ++ L.drop (q + n)) q2 n2) il2) q q2) (jD (jK q q2 (cutL L q n) il (cutL (L.take q ++ il ++ L.drop (q + n)) q2 n2) il2) (cutL L q n) (cutL (L.take q ++ il ++ L.drop (q + n)) q2 n2)) (jI (jK q q2 (cutL L q n) il (cutL (L.take q ++ il ++ L.drop (q + n)) q2 n2) il2) il il2) =
      uL (L.take q ++ il ++ L.drop (q + n)) q2 (cutL (L.take q ++ il ++ L.drop (q + n)) q2 n2) il2 := by
  have h2' : q2 + n2 ≤ (L.take q ++ il ++ L.drop (q + n)).length := by rw [one_len h]; exact h2
  have e2' := (uE_cut_ok h2').1 e2
  have e1' := (uE_cut_ok h).1 e1
  rw [one_len h] at e2'
  have hd2 := cutL_len h2'
  rw [uL_cut h2' e2]
  by_cases c1 : (cutL (L.take q ++ il ++ L.drop (q + n)) q2 n2).length = 0 ∧ (q2 : Int) = q + il.length
  · rw [jK_1 c1.1 c1.2]
    obtain rfl : n2 = 0 := by omega
    obtain rfl : q2 = q + il.length := by omega
    simp only [jA, jD, jI, if_pos]
    have e3 : uE L q (cutL L q n) (il ++ il2) = 0 := (uE_cut_ok h).2 (by rw [List.length_append]; omega)
    refine ⟨e3, ?_⟩
    rw [uL_cut h e3]
    have t1 : (L.take q ++ il ++ L.drop (q + n)).take (q + il.length) = L.take q ++ il := List.take_left' (by simp; omega)
    have t2 : (L.take q ++ il ++ L.drop (q + n)).drop (q + il.length + 0) = L.drop (q + n) := List.drop_left' (by simp; omega)
    rw [t1, t2]
    simp [List.append_assoc]
  · by_cases c2 : il.length = 0 ∧ il2.length = 0 ∧ (q : Int) = q2 + (cutL (L.take q ++ il ++ L.drop (q + n)) q2 n2).length
    · rw [jK_2 c1 c2.1 c2.2.1 c2.2.2]
      obtain rfl : il = [] := List.eq_nil_of_length_eq_zero c2.1
      obtain rfl : il2 = [] := List.eq_nil_of_length_eq_zero c2.2.1
      have hq : q = q2 + n2 := by have := c2.2.2; rw [hd2] at this; omega
      simp only [List.append_nil] at *
      have hc : cutL (L.take q ++ L.drop (q + n)) q2 n2 ++ cutL L q n = cutL L q2 (n2 + n) := by
        have t1 : cutL (L.take q ++ L.drop (q + n)) q2 n2 = cutL L q2 n2 := by
          unfold cutL
          rw [List.drop_append_of_le_length (by simp; omega), List.take_append_of_le_length (by simp; omega), List.drop_take, List.take_take, Nat.min_eq_left (by omega)]
        rw [t1]
        unfold cutL
        rw [List.take_add, List.drop_drop, ← hq]
      show uE L (q2 : Int) (cutL (L.take q ++ L.drop (q + n)) q2 n2 ++ cutL L q n) [] = 0 ∧ uL L (q2 : Int) (cutL (L.take q ++ L.drop (q + n)) q2 n2 ++ cutL L q n) [] = _
      rw [hc]
      have e3 : uE L q2 (cutL L q2 (n2 + n)) [] = 0 := (uE_cut_ok (by omega)).2 (by simp at e2' ⊢; omega)
      refine ⟨e3, ?_⟩
      rw [uL_cut (by omega) e3]
      have t1 : (L.take q ++ L.drop (q + n)).take q2 = L.take q2 := by rw [List.take_append_of_le_length (by simp; omega), List.take_take, Nat.min_eq_left (by omega)]
      have t2 : (L.take q ++ L.drop (q + n)).drop (q2 + n2) = L.drop (q + n) := by rw [← hq]; exact List.drop_left' (by simp; omega)
      rw [t1, t2, List.append_nil, show q2 + (n2 + n) = q + n from by omega]
    · exact absurd (jK_0 c1 c2) hk
theorem step_edit_ret (H : Holds w0 w F) (hl : FRdI w0 F .i32 v L) (hi : FRdI w0 F .i32 z il) (b1 : L.length ≤ 35184372087808) (ha : a ≤ 9223372036854775807) :
    Ret Try.prog 18 #[.agg #[.int .i64 a, .int .i64 m, z, x1, x2], v] w fun v' w' => ∃ q n d, q + n ≤ L.length ∧ v' = edV (q : Nat) d z ∧ Holds w0 w' (RowI 21 .i32 d (cutL L q n) • F) := by
  refine ret_enter Try.func18 rfl Try.ntmps18 (Nat.le_of_ble_eq_true rfl) ?_
  dsimp only [slots0, Nat.reduceAdd]
  refine wc_seq ?_
  refine wc_region ?_
  refine wl_eff (e_boxL (l := [_, _, _, _, _]) H rfl rfl) (ltn rfl) ?_
  rintro _ w1 ⟨b1, rfl, H1⟩
  refine wl_eff (e_allocL (l := [_, _, _]) H1 Try.zeroValue24 rfl) (ltn rfl) ?_
  rintro _ w2 ⟨b2, rfl, H2⟩
  refine wl_nil ?_
  refine wq_seq ?_
  refine wc_seq ?_
  refine wc_region ?_
  refine wl_val (r_assign rfl) (ltn rfl) ?_
  refine wl_nil ?_
  refine wq_seq ?_
  refine wc_join [(1, _), (2, _), (4, _)] (fun (q : Int) => [(5, .int .i64 q)]) (fun (q : Int) W => (0 ≤ q ∧ q ≤ L.length) ∧ Holds w0 W (blk b1 (.cells #[.int .i64 a, .int .i64 m, z, x1, x2] 36 (0, 0)) • blk b2 (.cells #[.int .i64 0, .slice none 0 0, .slice none 0 0] 24 (0, 0)) • F)) (Sub.cons rfl (Sub.cons rfl (Sub.cons rfl (Sub.nil _)))) ?_ ?_
  · rintro q w3 ⟨hqj, HJ⟩
    dsimp only [List.cons_append, List.nil_append]
    refine wc_seq ?_
    obtain ⟨q, rfl⟩ := Int.eq_ofNat_of_zero_le hqj.1
    refine wc_region ?_
    refine wl_val ((by first | exact r_field0 1 Try.underlying36 rfl rfl Try.sizeOf3 (by decide) rfl | exact r_field 1 Try.underlying36 rfl rfl Try.sizeOf3 (by decide) rfl)) (ltn rfl) ?_
    refine wl_val (r_load (plain_of Try.underlying3 rfl) rfl (cell_of_blk (HJ).get.2 rfl)) (ltn rfl) ?_
    refine wl_val (r_max rfl rfl) (ltn rfl) ?_
    refine wl_val (r_move rfl) (ltn rfl) ?_
    refine wl_val (r_lenR (hl _ (HJ.right.right)) Try.underlying22 rfl) (ltn rfl) ?_
    refine wl_val (r_move rfl) (ltn rfl) ?_
    refine wl_val (r_sub rfl rfl (by omega)) (ltn rfl) ?_
    refine wl_val (r_min rfl rfl) (ltn rfl) ?_
    refine wl_val (r_assign rfl) (ltn rfl) ?_
    refine wl_nil ?_
    refine wq_seq ?_
    refine wc_seq ?_
    have H5d3 := HJ.drew
    have hS5d3 := Holds.kp (H5d3.f2.f2)
    refine wd_beginK [9] hS5d3 (by kernel_rfl) (by kernel_rfl) rfl ?_
    refine wd_takeT 0 rfl (by kernel_rfl) (by kernel_rfl) hS5d3 (fun _ => r_move rfl) (ltn rfl) ?_
    refine wd_takeT 1 rfl (by kernel_rfl) (by kernel_rfl) hS5d3 (fun _ => r_move rfl) (ltn rfl) ?_
    refine wd_takeT 2 rfl (by kernel_rfl) (by kernel_rfl) hS5d3 (fun _ => r_move rfl) (ltn rfl) ?_
    refine wd_takeT 3 rfl (by kernel_rfl) (by kernel_rfl) hS5d3 (fun _ => r_move rfl) (ltn rfl) ?_
    refine wd_takeT 4 rfl (by kernel_rfl) (by kernel_rfl) hS5d3 (fun _ => r_move rfl) (ltn rfl) ?_
    refine wd_takeT 5 rfl (by kernel_rfl) (by kernel_rfl) hS5d3 (fun _ => r_add rfl rfl (by omega)) (ltn rfl) ?_
    refine wd_takeT 6 rfl (by kernel_rfl) (by kernel_rfl) hS5d3 (fun _ => r_sliceS (hl _ (H5d3.right.right)) Try.underlying22 Try.sizeOf21 rfl rfl rfl (by omega)) (ltn rfl) ?_
    refine wd_takeT 8 rfl (by kernel_rfl) (by kernel_rfl) hS5d3 (fun _ => (by first | exact r_field0 2 Try.underlying36 rfl rfl Try.sizeOf22 (by decide) rfl | exact r_field 2 Try.underlying36 rfl rfl Try.sizeOf22 (by decide) rfl)) (ltn rfl) ?_
    refine wd_take 9 rfl (by kernel_rfl) (by kernel_rfl) hS5d3 (by decide) (fun W hW => r_load (plain_of Try.underlying22 rfl) rfl (cell_of_blk ((Kp.h hW)).get.2 rfl)) (ltn rfl) ?_
    refine wd_eff 7 rfl (by kernel_rfl) (e_append_ints (l := []) (H5d3.row_nil none) (RdI.cut (hl _ (H5d3.right.right)) (by omega) (by omega)) Try.underlying22 (show (Try.prog.info? 21).map (fun i => (i.zero, i.size, i.bytes)) = some (some (.int .i32 0), 1, 4) by kernel_rfl) rfl rfl (by first | omega | (simp only [List.length_append, List.length_nil, List.length_cons]; omega) | (simp; omega)) (by first | omega | (simp only [List.length_append, List.length_nil, List.length_cons]; omega) | (simp; omega))) (ltn rfl) ?_
    rintro l4 w4 H4
    try simp only [List.nil_append] at H4
    have hS4n := Holds.kp (H4.f3.f3.f3)
    refine keepK hS4n (fun W hW => (Kp.h hW).right.f2.f2) ?_
    obtain ⟨al4, cl4, el4, -⟩ := RdI.open ((H4).row_rd)
    subst el4
    obtain ⟨az, cz, ez, -⟩ := RdI.open (hi _ (H4.right.right.right))
    subst ez
    refine wd_takeT 10 rfl (by kernel_rfl) (by kernel_rfl) hS4n (fun _ => r_build (pl := #[(0, 1), (1, 1), (2, 1)]) (_) Try.underlying24 Try.zeroValue24 (fun w => by kernel_rfl) rfl (rfl)) (ltn rfl) ?_
    refine wd_eff0 11 rfl (by kernel_rfl) (e_storePL 0 (l' := [_, _, _]) (us := [_, _, _]) H4.f3 Try.sizeOf24 rfl rfl rfl (ones_cons (by first | rfl | assumption) (ones_cons (by first | rfl | exact Rd.one ((H4).row_rd)) (ones_cons (by first | rfl | exact Rd.one (hi _ (H4.right.right.right))) ones_nil))) rfl rfl) ?_
    rintro _ w7 H7
    have hS7n := Holds.kp (H7.f3.f3.f3)
    refine keepX hS7n (by kernel_rfl) ?_
    refine wd_done (by kernel_rfl) ?_
    refine wq_seq ?_
    refine wc_ret ?_
    refine wq_end (.inl rfl) (resC Try.results18 rfl Try.underlying24 rfl (by rw [show (Try.prog.info? 24).map (·.size) = some 3 from by kernel_rfl]; rfl) (H7).get.2) ?_
    refine ⟨q, (min (max m 0) (L.length - q)).toNat, _, by omega, rfl, ?_⟩
    rw [show cutL L q (min (max m 0) (L.length - q)).toNat = (L.drop (q : Int).toNat).take (((q : Int) + min (max m 0) (L.length - q)).toNat - (q : Int).toNat) from by
      rw [show ((q : Int) + min (max m 0) (L.length - q)).toNat - (q : Int).toNat = (min (max m 0) (L.length - q)).toNat from by omega, Int.toNat_natCast]; rfl]
    exact H7.right.f2.right
  · skip
    refine wc_seq ?_
    refine wc_region ?_
    refine wl_val (r_move rfl) (ltn rfl) ?_
    refine wl_val (r_lenR (hl _ (H2.right.right)) Try.underlying22 rfl) (ltn rfl) ?_
    refine wl_val (r_gtr rfl rfl) (ltn rfl) ?_
    refine wl_split rfl (ltn rfl) (fun h1 => ?_) (fun h1 => ?_)
    · (try simp only [beq_iff_eq, bne_iff_ne, ne_eq, decide_eq_true_eq, decide_eq_false_iff_not, beq_eq_false_iff_ne, bne_eq_false_iff_eq, Bool.not_eq_true', Bool.not_eq_false', Bool.not_eq_eq_eq_not, Bool.not_true, Bool.not_false, gt_iff_lt, ge_iff_le, Int.not_lt, Int.not_le] at h1)
      try (exfalso; first | contradiction | omega)
      all_goals
        refine wl_yes rfl rfl ?_
        refine wl_val ((by first | exact r_field0 0 Try.underlying36 rfl rfl Try.sizeOf3 (by decide) rfl | exact r_field 0 Try.underlying36 rfl rfl Try.sizeOf3 (by decide) rfl)) (ltn rfl) ?_
        refine wl_yes rfl rfl ?_
        refine wl_val (r_load (plain_of Try.underlying3 rfl) rfl (cell_of_blk (H2.f2).get.2 rfl)) (ltn rfl) ?_
        refine wl_yes rfl rfl ?_
        refine wl_val (r_gtr rfl rfl) (ltn rfl) ?_
        refine wl_val (r_pick_t rfl rfl) (ltn rfl) ?_
        refine wl_nil ?_
        refine wq_seq ?_
        refine wc_cond rfl (fun h2 => ?_) (fun h2 => ?_)
        · (try simp only [beq_iff_eq, bne_iff_ne, ne_eq, decide_eq_true_eq, decide_eq_false_iff_not, beq_eq_false_iff_ne, bne_eq_false_iff_eq, Bool.not_eq_true', Bool.not_eq_false', Bool.not_eq_eq_eq_not, Bool.not_true, Bool.not_false, gt_iff_lt, ge_iff_le, Int.not_lt, Int.not_le] at h2)
          try (exfalso; first | contradiction | omega)
          all_goals
            
            have hm1 := Int.emod_nonneg a (show ((L.length : Int) + 1) ≠ 0 by omega)
            have hm2 := Int.emod_lt_of_pos a (show 0 < ((L.length : Int) + 1) by omega)
            refine wc_region ?_
            refine wl_val ((by first | exact r_field0 0 Try.underlying36 rfl rfl Try.sizeOf3 (by decide) rfl | exact r_field 0 Try.underlying36 rfl rfl Try.sizeOf3 (by decide) rfl)) (ltn rfl) ?_
            refine wl_val (r_load (plain_of Try.underlying3 rfl) rfl (cell_of_blk (H2.f2).get.2 rfl)) (ltn rfl) ?_
            refine wl_val (r_move rfl) (ltn rfl) ?_
            refine wl_val (r_lenR (hl _ (H2.right.right)) Try.underlying22 rfl) (ltn rfl) ?_
            refine wl_val (r_add rfl rfl (by omega)) (ltn rfl) ?_
            refine wl_val (r_rem rfl rfl (by omega) (by  omega)) (ltn rfl) ?_
            refine wl_val (r_assign rfl) (ltn rfl) ?_
            refine wl_nil ?_
            refine wq_join (_) (Sub.cons rfl (Sub.nil _)) (Sub.cons rfl (Sub.cons rfl (Sub.cons rfl (Sub.nil _)))) (by (try dsimp only); exact ⟨by omega, H2.f2⟩)
        · (try simp only [beq_iff_eq, bne_iff_ne, ne_eq, decide_eq_true_eq, decide_eq_false_iff_not, beq_eq_false_iff_ne, bne_eq_false_iff_eq, Bool.not_eq_true', Bool.not_eq_false', Bool.not_eq_eq_eq_not, Bool.not_true, Bool.not_false, gt_iff_lt, ge_iff_le, Int.not_lt, Int.not_le] at h2)
          try (exfalso; first | contradiction | omega)
          all_goals
            
            refine wc_skip ?_
            refine wq_join (_) (Sub.cons rfl (Sub.nil _)) (Sub.cons rfl (Sub.cons rfl (Sub.cons rfl (Sub.nil _)))) (by (try dsimp only); exact ⟨by omega, H2.f2⟩)
    · (try simp only [beq_iff_eq, bne_iff_ne, ne_eq, decide_eq_true_eq, decide_eq_false_iff_not, beq_eq_false_iff_ne, bne_eq_false_iff_eq, Bool.not_eq_true', Bool.not_eq_false', Bool.not_eq_eq_eq_not, Bool.not_true, Bool.not_false, gt_iff_lt, ge_iff_le, Int.not_lt, Int.not_le] at h1)
      try (exfalso; first | contradiction | omega)
      all_goals
        refine wl_no rfl rfl rfl (ltn rfl) ?_
        refine wl_no rfl rfl rfl (ltn rfl) ?_
        refine wl_no rfl rfl rfl (ltn rfl) ?_
        refine wl_val (r_pick_f rfl rfl) (ltn rfl) ?_
        refine wl_nil ?_
        refine wq_seq ?_
        refine wc_cond_f rfl ?_
        refine wc_skip ?_
        refine wq_join (_) (Sub.cons rfl (Sub.nil _)) (Sub.cons rfl (Sub.cons rfl (Sub.cons rfl (Sub.nil _)))) (by (try dsimp only); exact ⟨by omega, H2.f2⟩)
end
end Go.Proofs.Ytaabgcfeghcmnaa
