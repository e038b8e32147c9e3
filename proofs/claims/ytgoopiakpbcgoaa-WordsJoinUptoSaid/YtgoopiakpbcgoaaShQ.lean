/- shwords: Strip, Quote, walked. -/
import Derived.Test.YtgoopiakpbcgoaaShWords
import Derived.Test.YtgoopiakpbcgoaaShQM
set_option linter.unusedSimpArgs false
set_option linter.unusedVariables false
namespace Go.Proofs.Ytgoopiakpbcgoaa
open Go.RowKit Go.Lib
theorem flat_snoc {f : Int → List Int} {l : List Int} {k : Nat} (h : k < l.length) : (l.take (k + 1)).flatMap f = (l.take k).flatMap f ++ f (l.getD k 0) := by
  rw [List.take_succ_eq_append_getElem h, List.flatMap_append, List.getD_eq_getElem?_getD, List.getElem?_eq_getElem h]
  simp
theorem drop_at {l : List Int} {k : Nat} (h : k < l.length) : l.drop k = l.getD k 0 :: l.drop (k + 1) := by
  rw [List.drop_eq_getElem_cons h, List.getD_eq_getElem?_getD, List.getElem?_eq_getElem h]; rfl
theorem strip_step {l : List Int} {k : Nat} (h : k < l.length) : stripR (stS l k) (l.drop k) = pieceS (stS l k) (l.getD k 0) (l.drop (k + 1)) ++ stripR (stS l (k + 1)) (l.drop (k + 1)) := by
  rw [drop_at h, stripR, stS_succ h]
theorem piece_le (s : St) (r : Int) (x : List Int) : pieceS s r x = [r] ∨ pieceS s r x = [] := by
  unfold pieceS; split; exact .inl rfl; split; split; exact .inl rfl; exact .inr rfl; split; exact .inr rfl; exact .inl rfl
section
variable {s : St} {r : Int} {x : List Int}
theorem p_back (h : s.2 = true) : pieceS s r x = [r] := by unfold pieceS; rw [if_pos h]
theorem p_esc1 (h : s.2 = false) (h2 : (nextS s r).2 = true) (h3 : ¬ s.1 = 0) (h4 : goesL s.1 x = false) : pieceS s r x = [r] := by unfold pieceS; rw [if_neg (by simp [h]), if_pos h2, if_pos ⟨h3, h4⟩]
theorem p_esc0 (h : s.2 = false) (h2 : (nextS s r).2 = true) (h3 : s.1 = 0) : pieceS s r x = [] := by unfold pieceS; rw [if_neg (by simp [h]), if_pos h2, if_neg (fun q => q.1 h3)]
theorem p_esc2 (h : s.2 = false) (h2 : (nextS s r).2 = true) (h4 : goesL s.1 x = true) : pieceS s r x = [] := by unfold pieceS; rw [if_neg (by simp [h]), if_pos h2, if_neg (fun q => by simp [h4] at q)]
theorem p_turn (h : s.2 = false) (h2 : (nextS s r).2 = false) (h3 : ¬ (nextS s r).1 = s.1) : pieceS s r x = [] := by unfold pieceS; rw [if_neg (by simp [h]), if_neg (by simp [h2]), if_pos h3]
theorem p_stay (h : s.2 = false) (h2 : (nextS s r).2 = false) (h3 : (nextS s r).1 = s.1) : pieceS s r x = [r] := by unfold pieceS; rw [if_neg (by simp [h]), if_neg (by simp [h2]), if_neg (fun q => q h3)]
end
abbrev backB : ByteArray := ⟨#[32, 9, 10, 39, 34, 96, 40, 41, 60, 62, 59, 38, 124, 92, 36, 42, 63, 91, 93, 35, 126, 61, 37, 33, 123, 125, 64]⟩
theorem back_all : ∀ n, n < 128 → decide (0 ≤ indexByte backB.data.toList (n : Nat).toUInt8) = backS (n : Int) := by decide +kernel
theorem back_idx (r : Int) : decide (0 ≤ idxR backB r) = backS r := by
  unfold idxR
  by_cases h : 0 ≤ r ∧ r < 128
  · rw [if_pos h, back_all r.toNat (by omega), show ((r.toNat : Nat) : Int) = r by omega]
  · rw [if_neg h]
    have : backS r = false := by unfold backS; rw [decide_eq_false]; omega
    rw [this]; rfl
theorem back_pos {r : Int} : backS r = true → 0 < r := fun h => by unfold backS at h; rw [decide_eq_true_eq] at h; omega
set_option maxHeartbeats 2000000
section
variable {w0 w : World} {F : HP} {v u : Value} {l : List Int} {q st : Int} {a : Nat}
theorem goes_ret (H : Holds w0 w F) (hv : FRdI w0 F .i32 v l) : Ret Try.prog 36 #[.int .i32 q, v, .int .i64 (a : Int)] w fun v' w' => v' = .bool (goesL q (l.drop a)) ∧ Holds w0 w' F := by
  refine ret_enter Try.func36 rfl Try.ntmps36 (Nat.le_of_ble_eq_true rfl) ?_
  dsimp only [slots0, Nat.reduceAdd]
  refine wc_seq ?_
  refine wc_region ?_
  refine wl_val (r_assign rfl) (ltn rfl) ?_
  refine wl_nil ?_
  refine wq_seq ?_
  refine wc_seq ?_
  refine wc_seq ?_
  refine wc_region ?_
  refine wl_val (r_move rfl) (ltn rfl) ?_
  refine wl_val (r_move rfl) (ltn rfl) ?_
  refine wl_val (r_lenR (hv _ (H)) Try.underlying22 rfl) (ltn rfl) ?_
  refine wl_val (r_geq rfl rfl) (ltn rfl) ?_
  refine wl_nil ?_
  refine wq_seq ?_
  refine wc_cond rfl (fun h1 => ?_) (fun h1 => ?_)
  · (try simp only [beq_iff_eq, bne_iff_ne, ne_eq, decide_eq_true_eq, decide_eq_false_iff_not, beq_eq_false_iff_ne, bne_eq_false_iff_eq, Bool.not_eq_true', Bool.not_eq_false', Bool.not_eq_eq_eq_not, Bool.not_true, Bool.not_false, gt_iff_lt, ge_iff_le, Int.not_lt, Int.not_le] at h1)
    
    refine wc_seq ?_
    refine wc_region ?_
    refine wl_val (r_assign rfl) (ltn rfl) ?_
    refine wl_nil ?_
    refine wq_seq ?_
    refine wc_ret ?_
    refine wq_then_ret ?_
    refine wq_end1 (.inl rfl) Try.results36 rfl ?_
    refine ⟨?_, H⟩; rw [List.drop_eq_nil_of_le (by omega)]; rfl
  · (try simp only [beq_iff_eq, bne_iff_ne, ne_eq, decide_eq_true_eq, decide_eq_false_iff_not, beq_eq_false_iff_ne, bne_eq_false_iff_eq, Bool.not_eq_true', Bool.not_eq_false', Bool.not_eq_eq_eq_not, Bool.not_true, Bool.not_false, gt_iff_lt, ge_iff_le, Int.not_lt, Int.not_le] at h1)
    
    refine wc_skip ?_
    refine wq_seq ?_
    refine wc_seq ?_
    have hal : a < l.length := by omega
    refine wc_region ?_
    refine wl_val (r_move rfl) (ltn rfl) ?_
    refine wl_val (r_move rfl) (ltn rfl) ?_
    obtain ⟨bv, ov, cv, ev⟩ := RdI.posV (hv _ (H)) (by omega)
    cases ev
    refine wl_val (r_index Try.underlying22 Try.sizeOf21 rfl rfl (by omega)) (ltn rfl) ?_
    refine wl_val (r_load (plain_of Try.underlying21 rfl) rfl (by first | exact RdI.at1n (hv _ (H)) (by omega) | exact RdI.at0 (hv _ (H)) (by omega) | exact RdI.at1 (hv _ (H)) (by omega))) (ltn rfl) ?_
    refine wl_val (r_assign rfl) (ltn rfl) ?_
    refine wl_nil ?_
    refine wq_seq ?_
    refine wc_seq ?_
    refine wc_seq ?_
    refine wc_region ?_
    refine wl_val (r_move rfl) (ltn rfl) ?_
    refine wl_val (r_eql rfl rfl) (ltn rfl) ?_
    refine wl_nil ?_
    refine wq_seq ?_
    refine wc_cond rfl (fun h2 => ?_) (fun h2 => ?_)
    · (try simp only [beq_iff_eq, bne_iff_ne, ne_eq, decide_eq_true_eq, decide_eq_false_iff_not, beq_eq_false_iff_ne, bne_eq_false_iff_eq, Bool.not_eq_true', Bool.not_eq_false', Bool.not_eq_eq_eq_not, Bool.not_true, Bool.not_false, gt_iff_lt, ge_iff_le, Int.not_lt, Int.not_le] at h2)
      
      refine wc_seq ?_
      refine wc_region ?_
      refine wl_val (r_move rfl) (ltn rfl) ?_
      refine wl_val (r_eql rfl rfl) (ltn rfl) ?_
      refine wl_split rfl (ltn rfl) (fun h3 => ?_) (fun h3 => ?_)
      · (try simp only [beq_iff_eq, bne_iff_ne, ne_eq, decide_eq_true_eq, decide_eq_false_iff_not, beq_eq_false_iff_ne, bne_eq_false_iff_eq, Bool.not_eq_true', Bool.not_eq_false', Bool.not_eq_eq_eq_not, Bool.not_true, Bool.not_false, gt_iff_lt, ge_iff_le, Int.not_lt, Int.not_le] at h3)
        refine wl_no rfl rfl rfl (ltn rfl) ?_
        refine wl_no rfl rfl rfl (ltn rfl) ?_
        refine wl_val (r_pick_t rfl rfl) (ltn rfl) ?_
        refine wl_val (r_assign rfl) (ltn rfl) ?_
        refine wl_nil ?_
        refine wq_seq ?_
        refine wc_ret ?_
        refine wq_then_ret ?_
        refine wq_end1 (.inl rfl) Try.results36 rfl ?_
        refine ⟨?_, H⟩; rw [drop_at hal]; congr 1; show _ = (if q = 96 then decide _ else decide _); first | (rw [if_pos (by assumption)]; first | exact (decide_eq_true (by omega)).symm | exact (decide_eq_false (by omega)).symm | (show decide (_ = _) = decide _; exact decide_eq_decide.2 (by constructor <;> omega))) | (rw [if_neg (by assumption)]; first | exact (decide_eq_true (by omega)).symm | exact (decide_eq_false (by omega)).symm | (show decide (_ = _) = decide _; exact decide_eq_decide.2 (by constructor <;> omega)))
      · (try simp only [beq_iff_eq, bne_iff_ne, ne_eq, decide_eq_true_eq, decide_eq_false_iff_not, beq_eq_false_iff_ne, bne_eq_false_iff_eq, Bool.not_eq_true', Bool.not_eq_false', Bool.not_eq_eq_eq_not, Bool.not_true, Bool.not_false, gt_iff_lt, ge_iff_le, Int.not_lt, Int.not_le] at h3)
        refine wl_yes rfl rfl ?_
        refine wl_val (r_move rfl) (ltn rfl) ?_
        refine wl_yes rfl rfl ?_
        refine wl_val (r_eql rfl rfl) (ltn rfl) ?_
        refine wl_val (r_pick_f rfl rfl) (ltn rfl) ?_
        refine wl_val (r_assign rfl) (ltn rfl) ?_
        refine wl_nil ?_
        refine wq_seq ?_
        refine wc_ret ?_
        refine wq_then_ret ?_
        refine wq_end1 (.inl rfl) Try.results36 rfl ?_
        refine ⟨?_, H⟩; rw [drop_at hal]; congr 1; show _ = (if q = 96 then decide _ else decide _); first | (rw [if_pos (by assumption)]; first | exact (decide_eq_true (by omega)).symm | exact (decide_eq_false (by omega)).symm | (show decide (_ = _) = decide _; exact decide_eq_decide.2 (by constructor <;> omega))) | (rw [if_neg (by assumption)]; first | exact (decide_eq_true (by omega)).symm | exact (decide_eq_false (by omega)).symm | (show decide (_ = _) = decide _; exact decide_eq_decide.2 (by constructor <;> omega)))
    · (try simp only [beq_iff_eq, bne_iff_ne, ne_eq, decide_eq_true_eq, decide_eq_false_iff_not, beq_eq_false_iff_ne, bne_eq_false_iff_eq, Bool.not_eq_true', Bool.not_eq_false', Bool.not_eq_eq_eq_not, Bool.not_true, Bool.not_false, gt_iff_lt, ge_iff_le, Int.not_lt, Int.not_le] at h2)
      
      refine wc_skip ?_
      refine wq_seq ?_
      refine wc_seq ?_
      refine wc_region ?_
      refine wl_val (r_move rfl) (ltn rfl) ?_
      refine wl_val (r_eql rfl rfl) (ltn rfl) ?_
      refine wl_split rfl (ltn rfl) (fun h4 => ?_) (fun h4 => ?_)
      · (try simp only [beq_iff_eq, bne_iff_ne, ne_eq, decide_eq_true_eq, decide_eq_false_iff_not, beq_eq_false_iff_ne, bne_eq_false_iff_eq, Bool.not_eq_true', Bool.not_eq_false', Bool.not_eq_eq_eq_not, Bool.not_true, Bool.not_false, gt_iff_lt, ge_iff_le, Int.not_lt, Int.not_le] at h4)
        refine wl_no rfl rfl rfl (ltn rfl) ?_
        refine wl_no rfl rfl rfl (ltn rfl) ?_
        refine wl_val (r_pick_t rfl rfl) (ltn rfl) ?_
        refine wl_val (r_move rfl) (ltn rfl) ?_
        refine wl_no rfl rfl rfl (ltn rfl) ?_
        refine wl_no rfl rfl rfl (ltn rfl) ?_
        refine wl_val (r_pick_t rfl rfl) (ltn rfl) ?_
        refine wl_val (r_move rfl) (ltn rfl) ?_
        refine wl_no rfl rfl rfl (ltn rfl) ?_
        refine wl_no rfl rfl rfl (ltn rfl) ?_
        refine wl_val (r_pick_t rfl rfl) (ltn rfl) ?_
        refine wl_val (r_assign rfl) (ltn rfl) ?_
        refine wl_nil ?_
        refine wq_seq ?_
        refine wc_ret ?_
        refine wq_end1 (.inl rfl) Try.results36 rfl ?_
        refine ⟨?_, H⟩; rw [drop_at hal]; congr 1; show _ = (if q = 96 then decide _ else decide _); first | (rw [if_pos (by assumption)]; first | exact (decide_eq_true (by omega)).symm | exact (decide_eq_false (by omega)).symm | (show decide (_ = _) = decide _; exact decide_eq_decide.2 (by constructor <;> omega))) | (rw [if_neg (by assumption)]; first | exact (decide_eq_true (by omega)).symm | exact (decide_eq_false (by omega)).symm | (show decide (_ = _) = decide _; exact decide_eq_decide.2 (by constructor <;> omega)))
      · (try simp only [beq_iff_eq, bne_iff_ne, ne_eq, decide_eq_true_eq, decide_eq_false_iff_not, beq_eq_false_iff_ne, bne_eq_false_iff_eq, Bool.not_eq_true', Bool.not_eq_false', Bool.not_eq_eq_eq_not, Bool.not_true, Bool.not_false, gt_iff_lt, ge_iff_le, Int.not_lt, Int.not_le] at h4)
        refine wl_yes rfl rfl ?_
        refine wl_val (r_move rfl) (ltn rfl) ?_
        refine wl_yes rfl rfl ?_
        refine wl_val (r_eql rfl rfl) (ltn rfl) ?_
        refine wl_val (r_pick_f rfl rfl) (ltn rfl) ?_
        refine wl_split rfl (ltn rfl) (fun h5 => ?_) (fun h5 => ?_)
        · (try simp only [beq_iff_eq, bne_iff_ne, ne_eq, decide_eq_true_eq, decide_eq_false_iff_not, beq_eq_false_iff_ne, bne_eq_false_iff_eq, Bool.not_eq_true', Bool.not_eq_false', Bool.not_eq_eq_eq_not, Bool.not_true, Bool.not_false, gt_iff_lt, ge_iff_le, Int.not_lt, Int.not_le] at h5)
          refine wl_no rfl rfl rfl (ltn rfl) ?_
          refine wl_no rfl rfl rfl (ltn rfl) ?_
          refine wl_val (r_pick_t rfl rfl) (ltn rfl) ?_
          refine wl_val (r_move rfl) (ltn rfl) ?_
          refine wl_no rfl rfl rfl (ltn rfl) ?_
          refine wl_no rfl rfl rfl (ltn rfl) ?_
          refine wl_val (r_pick_t rfl rfl) (ltn rfl) ?_
          refine wl_val (r_assign rfl) (ltn rfl) ?_
          refine wl_nil ?_
          refine wq_seq ?_
          refine wc_ret ?_
          refine wq_end1 (.inl rfl) Try.results36 rfl ?_
          refine ⟨?_, H⟩; rw [drop_at hal]; congr 1; show _ = (if q = 96 then decide _ else decide _); first | (rw [if_pos (by assumption)]; first | exact (decide_eq_true (by omega)).symm | exact (decide_eq_false (by omega)).symm | (show decide (_ = _) = decide _; exact decide_eq_decide.2 (by constructor <;> omega))) | (rw [if_neg (by assumption)]; first | exact (decide_eq_true (by omega)).symm | exact (decide_eq_false (by omega)).symm | (show decide (_ = _) = decide _; exact decide_eq_decide.2 (by constructor <;> omega)))
        · (try simp only [beq_iff_eq, bne_iff_ne, ne_eq, decide_eq_true_eq, decide_eq_false_iff_not, beq_eq_false_iff_ne, bne_eq_false_iff_eq, Bool.not_eq_true', Bool.not_eq_false', Bool.not_eq_eq_eq_not, Bool.not_true, Bool.not_false, gt_iff_lt, ge_iff_le, Int.not_lt, Int.not_le] at h5)
          refine wl_yes rfl rfl ?_
          refine wl_val (r_move rfl) (ltn rfl) ?_
          refine wl_yes rfl rfl ?_
          refine wl_val (r_eql rfl rfl) (ltn rfl) ?_
          refine wl_val (r_pick_f rfl rfl) (ltn rfl) ?_
          refine wl_split rfl (ltn rfl) (fun h6 => ?_) (fun h6 => ?_)
          · (try simp only [beq_iff_eq, bne_iff_ne, ne_eq, decide_eq_true_eq, decide_eq_false_iff_not, beq_eq_false_iff_ne, bne_eq_false_iff_eq, Bool.not_eq_true', Bool.not_eq_false', Bool.not_eq_eq_eq_not, Bool.not_true, Bool.not_false, gt_iff_lt, ge_iff_le, Int.not_lt, Int.not_le] at h6)
            refine wl_no rfl rfl rfl (ltn rfl) ?_
            refine wl_no rfl rfl rfl (ltn rfl) ?_
            refine wl_val (r_pick_t rfl rfl) (ltn rfl) ?_
            refine wl_val (r_assign rfl) (ltn rfl) ?_
            refine wl_nil ?_
            refine wq_seq ?_
            refine wc_ret ?_
            refine wq_end1 (.inl rfl) Try.results36 rfl ?_
            refine ⟨?_, H⟩; rw [drop_at hal]; congr 1; show _ = (if q = 96 then decide _ else decide _); first | (rw [if_pos (by assumption)]; first | exact (decide_eq_true (by omega)).symm | exact (decide_eq_false (by omega)).symm | (show decide (_ = _) = decide _; exact decide_eq_decide.2 (by constructor <;> omega))) | (rw [if_neg (by assumption)]; first | exact (decide_eq_true (by omega)).symm | exact (decide_eq_false (by omega)).symm | (show decide (_ = _) = decide _; exact decide_eq_decide.2 (by constructor <;> omega)))
          · (try simp only [beq_iff_eq, bne_iff_ne, ne_eq, decide_eq_true_eq, decide_eq_false_iff_not, beq_eq_false_iff_ne, bne_eq_false_iff_eq, Bool.not_eq_true', Bool.not_eq_false', Bool.not_eq_eq_eq_not, Bool.not_true, Bool.not_false, gt_iff_lt, ge_iff_le, Int.not_lt, Int.not_le] at h6)
            refine wl_yes rfl rfl ?_
            refine wl_val (r_move rfl) (ltn rfl) ?_
            refine wl_yes rfl rfl ?_
            refine wl_val (r_eql rfl rfl) (ltn rfl) ?_
            refine wl_val (r_pick_f rfl rfl) (ltn rfl) ?_
            refine wl_val (r_assign rfl) (ltn rfl) ?_
            refine wl_nil ?_
            refine wq_seq ?_
            refine wc_ret ?_
            refine wq_end1 (.inl rfl) Try.results36 rfl ?_
            refine ⟨?_, H⟩; rw [drop_at hal]; congr 1; show _ = (if q = 96 then decide _ else decide _); first | (rw [if_pos (by assumption)]; first | exact (decide_eq_true (by omega)).symm | exact (decide_eq_false (by omega)).symm | (show decide (_ = _) = decide _; exact decide_eq_decide.2 (by constructor <;> omega))) | (rw [if_neg (by assumption)]; first | exact (decide_eq_true (by omega)).symm | exact (decide_eq_false (by omega)).symm | (show decide (_ = _) = decide _; exact decide_eq_decide.2 (by constructor <;> omega)))
theorem sh_strip_ret (H : Holds w0 w F) (hv : FRdI w0 F .i32 v l) (hL : l.length ≤ 4294967296) : Ret Try.prog 17 #[v] w fun v' w' => Holds w0 w' (RowI 21 .i32 v' (stripS l) • F) := by
  refine ret_enter Try.func17 rfl Try.ntmps17 (Nat.le_of_ble_eq_true rfl) ?_
  dsimp only [slots0, Nat.reduceAdd]
  refine wc_seq ?_
  refine wc_region ?_
  refine wl_val (r_assign rfl) (ltn rfl) ?_
  refine wl_nil ?_
  refine wq_seq ?_
  refine wc_seq ?_
  refine wc_region ?_
  refine wl_val (r_assign rfl) (ltn rfl) ?_
  refine wl_nil ?_
  refine wq_seq ?_
  refine wc_seq ?_
  refine wc_region ?_
  refine wl_eff (e_allocL (l := [_, _]) H Try.zeroValue55 rfl) (ltn rfl) ?_
  rintro _ w1 ⟨b1, rfl, H1⟩
  refine wl_nil ?_
  refine wq_seq ?_
  refine wc_seq ?_
  refine wc_seq ?_
  refine wc_region ?_
  refine wl_val (r_move rfl) (ltn rfl) ?_
  refine wl_val (r_lenR (hv _ (H1.right)) Try.underlying22 rfl) (ltn rfl) ?_
  refine wl_val (r_move rfl) (ltn rfl) ?_
  refine wl_nil ?_
  refine wq_seq ?_
  refine wc_block ?_
  refine wc_loop [(0, _), (4, _), (8, _), (9, _)] (fun (⟨k, u⟩ : Nat × Value) => [(10, .int .i64 (k : Int)), (3, u)]) (fun (⟨k, u⟩ : Nat × Value) W => ∃ out, (k ≤ l.length ∧ out.length ≤ k ∧ out ++ stripR (stS l k) (l.drop k) = stripS l) ∧ Holds w0 W (RowI 21 .i32 u out • blk b1 (.cells #[.int .i32 (stS l k).1, .bool (stS l k).2] 55 (0, 0)) • F)) (fun (⟨k, u⟩ : Nat × Value) => l.length - k) ((0, .slice none 0 0)) (Sub.cons rfl (Sub.cons rfl (Sub.cons rfl (Sub.cons rfl (Sub.nil _))))) (Sub.cons rfl (Sub.cons rfl (Sub.nil _))) ⟨[], ⟨by omega, by simp, by rw [stS_zero]; rfl⟩, by rw [stS_zero]; exact (H1).row_nil none⟩ ?_
  rintro ⟨k, u⟩ w2 ⟨out, ⟨hk, hol, hout⟩, HL⟩
  dsimp only [List.cons_append, List.nil_append]
  refine wc_seq ?_
  refine wc_region ?_
  refine wl_val (r_lss rfl rfl) (ltn rfl) ?_
  refine wl_nil ?_
  refine wq_seq ?_
  refine wc_seq ?_
  refine wc_cond rfl (fun h1 => ?_) (fun h1 => ?_)
  · (try simp only [beq_iff_eq, bne_iff_ne, ne_eq, decide_eq_true_eq, decide_eq_false_iff_not, beq_eq_false_iff_ne, bne_eq_false_iff_eq, Bool.not_eq_true', Bool.not_eq_false', Bool.not_eq_eq_eq_not, Bool.not_true, Bool.not_false, gt_iff_lt, ge_iff_le, Int.not_lt, Int.not_le] at h1)
    
    refine wc_skip ?_
    refine wq_seq ?_
    refine wc_seq ?_
    refine wc_block ?_
    refine wc_seq ?_
    have hkl : k < l.length := by omega
    refine wc_region ?_
    refine wl_val (r_move rfl) (ltn rfl) ?_
    obtain ⟨bv, ov, cv, ev⟩ := RdI.posV (hv _ (HL.right.right)) (by omega)
    cases ev
    refine wl_val (r_index Try.underlying22 Try.sizeOf21 rfl rfl (by omega)) (ltn rfl) ?_
    refine wl_val (r_load (plain_of Try.underlying21 rfl) rfl (by first | exact RdI.at1n (hv _ (HL.right.right)) (by omega) | exact RdI.at0 (hv _ (HL.right.right)) (by omega) | exact RdI.at1 (hv _ (HL.right.right)) (by omega))) (ltn rfl) ?_
    refine wl_val (r_assign rfl) (ltn rfl) ?_
    refine wl_val (r_assign rfl) (ltn rfl) ?_
    refine wl_nil ?_
    refine wq_seq ?_
    refine wc_seq ?_
    refine wc_region ?_
    refine wl_val (r_load_whole Try.underlying55 rfl Try.sizeOf55 rfl rfl (HL.f2).get.2) (ltn rfl) ?_
    refine wl_eff (e_allocL (l := [_, _]) HL Try.zeroValue55 rfl) (ltn rfl) ?_
    rintro _ w3 ⟨b3, rfl, H3⟩
    refine wl_eff0 (e_storePL 0 (l' := [_, _]) (us := [_, _]) H3 Try.sizeOf55 rfl rfl rfl (ones_cons (by first | rfl | assumption) (ones_cons (by first | rfl | assumption) ones_nil)) rfl rfl) ?_
    rintro _ w4 H4
    refine wl_nil ?_
    refine wq_seq ?_
    refine wc_seq ?_
    refine wc_region ?_
    refine wl_val (r_load_whole Try.underlying55 rfl Try.sizeOf55 rfl rfl (H4.f3).get.2) (ltn rfl) ?_
    refine wl_val (r_move rfl) (ltn rfl) ?_
    refine wl_eff (e_call (r_call rfl Try.func35 rfl rfl) (next_ret H4)) (ltn rfl) ?_
    rintro _ w5 ⟨rfl, H5⟩
    refine wl_eff0 (e_storePL 0 (l' := [_, _]) (us := [_, _]) H5.f3 Try.sizeOf55 rfl rfl rfl (ones_cons (by first | rfl | assumption) (ones_cons (by first | rfl | assumption) ones_nil)) rfl rfl) ?_
    rintro _ w6 H6
    refine wl_nil ?_
    refine wq_seq ?_
    refine wc_block ?_
    refine wc_seq ?_
    refine wc_region ?_
    refine wl_val ((by first | exact r_field0 1 Try.underlying55 rfl rfl Try.sizeOf4 (by decide) rfl | exact r_field 1 Try.underlying55 rfl rfl Try.sizeOf4 (by decide) rfl)) (ltn rfl) ?_
    refine wl_val (r_load (plain_of Try.underlying4 rfl) rfl (cell_of_blk (H6.f2).get.2 rfl)) (ltn rfl) ?_
    refine wl_val (r_assign rfl) (ltn rfl) ?_
    refine wl_nil ?_
    refine wq_seq ?_
    refine wc_cond rfl (fun h2 => ?_) (fun h2 => ?_)
    · (try simp only [beq_iff_eq, bne_iff_ne, ne_eq, decide_eq_true_eq, decide_eq_false_iff_not, beq_eq_false_iff_ne, bne_eq_false_iff_eq, Bool.not_eq_true', Bool.not_eq_false', Bool.not_eq_eq_eq_not, Bool.not_true, Bool.not_false, gt_iff_lt, ge_iff_le, Int.not_lt, Int.not_le] at h2)
      
      refine wc_region ?_
      refine wl_val (r_move rfl) (ltn rfl) ?_
      refine wl_val (r_move rfl) (ltn rfl) ?_
      refine wl_eff (e_lit_ints (k := .i32) (l := [_]) H6 Try.underlying22 Try.sizeOf21 Try.zeroValue21 rfl rfl rfl (by decide)) (ltn rfl) ?_
      rintro l7 w7 H7
      refine wl_eff (e_append_ints H7.f4 ((H7).row_rd) Try.underlying22 (show (Try.prog.info? 21).map (fun i => (i.zero, i.size, i.bytes)) = some (some (.int .i32 0), 1, 4) by kernel_rfl) rfl rfl (by first | omega | (simp only [List.length_append, List.length_nil, List.length_cons]; omega) | (simp; omega)) (by first | omega | (simp only [List.length_append, List.length_nil, List.length_cons]; omega) | (simp; omega))) (ltn rfl) ?_
      rintro l8 w8 H8
      try simp only [List.nil_append] at H8
      refine wl_val (r_assign rfl) (ltn rfl) ?_
      refine wl_nil ?_
      refine wq_block_normal ?_
      refine wq_block_normal ?_
      refine wq_seq ?_
      refine wc_region ?_
      refine wl_val (r_add rfl rfl (by omega)) (ltn rfl) ?_
      refine wl_val (r_move rfl) (ltn rfl) ?_
      refine wl_nil ?_
      refine wq_round ((k + 1, l8)) ?_ ?_ ?_ ?_
      · exact (Sub.cons rfl (Sub.cons rfl (Sub.nil _)))
      · exact (Sub.cons rfl (Sub.cons rfl (Sub.cons rfl (Sub.cons rfl (Sub.nil _)))))
      · (try dsimp only)
        exact by have HN := H8.f2.right.f3.right.f2.f2; first | (have hp : pieceS (stS l k) (l.getD k 0) (l.drop (k + 1)) = [l.getD k 0] := (by first | exact p_back (by assumption) | exact p_esc1 (by assumption) (by assumption) (by assumption) (by assumption) | exact p_stay (by assumption) (by assumption) (by assumption)); exact ⟨out ++ [l.getD k 0], ⟨by omega, by simp; omega, by rw [← hout, strip_step hkl, hp, List.append_assoc]⟩, by rw [stS_succ hkl]; exact HN⟩) | (have hp : pieceS (stS l k) (l.getD k 0) (l.drop (k + 1)) = [] := (by first | exact p_esc0 (by assumption) (by assumption) (by assumption) | exact p_esc2 (by assumption) (by assumption) (by assumption) | exact p_turn (by assumption) (by assumption) (by assumption)); exact ⟨out, ⟨by omega, by omega, by rw [← hout, strip_step hkl, hp, List.nil_append]⟩, by rw [stS_succ hkl]; exact HN⟩)
      · (try dsimp only); omega
    · (try simp only [beq_iff_eq, bne_iff_ne, ne_eq, decide_eq_true_eq, decide_eq_false_iff_not, beq_eq_false_iff_ne, bne_eq_false_iff_eq, Bool.not_eq_true', Bool.not_eq_false', Bool.not_eq_eq_eq_not, Bool.not_true, Bool.not_false, gt_iff_lt, ge_iff_le, Int.not_lt, Int.not_le] at h2)
      
      refine wc_seq ?_
      refine wc_region ?_
      refine wl_val ((by first | exact r_field0 1 Try.underlying55 rfl rfl Try.sizeOf4 (by decide) rfl | exact r_field 1 Try.underlying55 rfl rfl Try.sizeOf4 (by decide) rfl)) (ltn rfl) ?_
      refine wl_val (r_load (plain_of Try.underlying4 rfl) rfl (cell_of_blk (H6).get.2 rfl)) (ltn rfl) ?_
      refine wl_val (r_assign rfl) (ltn rfl) ?_
      refine wl_nil ?_
      refine wq_seq ?_
      refine wc_cond rfl (fun h3 => ?_) (fun h3 => ?_)
      · (try simp only [beq_iff_eq, bne_iff_ne, ne_eq, decide_eq_true_eq, decide_eq_false_iff_not, beq_eq_false_iff_ne, bne_eq_false_iff_eq, Bool.not_eq_true', Bool.not_eq_false', Bool.not_eq_eq_eq_not, Bool.not_true, Bool.not_false, gt_iff_lt, ge_iff_le, Int.not_lt, Int.not_le] at h3)
        
        refine wc_seq ?_
        refine wc_region ?_
        refine wl_val ((by first | exact r_field0 0 Try.underlying55 rfl rfl Try.sizeOf21 (by decide) rfl | exact r_field 0 Try.underlying55 rfl rfl Try.sizeOf21 (by decide) rfl)) (ltn rfl) ?_
        refine wl_val (r_load (plain_of Try.underlying21 rfl) rfl (cell_of_blk (H6.f2).get.2 rfl)) (ltn rfl) ?_
        refine wl_val (r_neq rfl rfl) (ltn rfl) ?_
        refine wl_split rfl (ltn rfl) (fun h4 => ?_) (fun h4 => ?_)
        · (try simp only [beq_iff_eq, bne_iff_ne, ne_eq, decide_eq_true_eq, decide_eq_false_iff_not, beq_eq_false_iff_ne, bne_eq_false_iff_eq, Bool.not_eq_true', Bool.not_eq_false', Bool.not_eq_eq_eq_not, Bool.not_true, Bool.not_false, gt_iff_lt, ge_iff_le, Int.not_lt, Int.not_le] at h4)
          refine wl_yes rfl rfl ?_
          refine wl_val ((by first | exact r_field0 0 Try.underlying55 rfl rfl Try.sizeOf21 (by decide) rfl | exact r_field 0 Try.underlying55 rfl rfl Try.sizeOf21 (by decide) rfl)) (ltn rfl) ?_
          refine wl_yes rfl rfl ?_
          refine wl_val (r_load (plain_of Try.underlying21 rfl) rfl (cell_of_blk (H6.f2).get.2 rfl)) (ltn rfl) ?_
          refine wl_yes rfl rfl ?_
          refine wl_val (r_move rfl) (ltn rfl) ?_
          refine wl_yes rfl rfl ?_
          refine wl_val (r_move rfl) (ltn rfl) ?_
          refine wl_yes rfl rfl ?_
          refine wl_val (r_as (r_add rfl rfl (by omega)) (show Value.int .i64 ((k : Int) + 1) = .int .i64 ((k + 1 : Nat) : Int) by rw [Int.natCast_add]; rfl)) (ltn rfl) ?_
          refine wl_yes rfl rfl ?_
          refine wl_eff (e_call (r_call rfl Try.func36 rfl rfl) (goes_ret H6 (fun W HW => hv _ (HW.right.right.right)))) (ltn rfl) ?_
          rintro _ w9 ⟨rfl, H9⟩
          refine wl_yes rfl rfl ?_
          refine wl_val (r_not rfl) (ltn rfl) ?_
          refine wl_val (r_pick_t rfl rfl) (ltn rfl) ?_
          refine wl_nil ?_
          refine wq_seq ?_
          refine wc_cond rfl (fun h5 => ?_) (fun h5 => ?_)
          · (try simp only [beq_iff_eq, bne_iff_ne, ne_eq, decide_eq_true_eq, decide_eq_false_iff_not, beq_eq_false_iff_ne, bne_eq_false_iff_eq, Bool.not_eq_true', Bool.not_eq_false', Bool.not_eq_eq_eq_not, Bool.not_true, Bool.not_false, gt_iff_lt, ge_iff_le, Int.not_lt, Int.not_le] at h5)
            
            refine wc_region ?_
            refine wl_val (r_move rfl) (ltn rfl) ?_
            refine wl_val (r_move rfl) (ltn rfl) ?_
            refine wl_eff (e_lit_ints (k := .i32) (l := [_]) H9 Try.underlying22 Try.sizeOf21 Try.zeroValue21 rfl rfl rfl (by decide)) (ltn rfl) ?_
            rintro l10 w10 H10
            refine wl_eff (e_append_ints H10.f4 ((H10).row_rd) Try.underlying22 (show (Try.prog.info? 21).map (fun i => (i.zero, i.size, i.bytes)) = some (some (.int .i32 0), 1, 4) by kernel_rfl) rfl rfl (by first | omega | (simp only [List.length_append, List.length_nil, List.length_cons]; omega) | (simp; omega)) (by first | omega | (simp only [List.length_append, List.length_nil, List.length_cons]; omega) | (simp; omega))) (ltn rfl) ?_
            rintro l11 w11 H11
            try simp only [List.nil_append] at H11
            refine wl_val (r_assign rfl) (ltn rfl) ?_
            refine wl_nil ?_
            refine wq_block_normal ?_
            refine wq_block_normal ?_
            refine wq_seq ?_
            refine wc_region ?_
            refine wl_val (r_add rfl rfl (by omega)) (ltn rfl) ?_
            refine wl_val (r_move rfl) (ltn rfl) ?_
            refine wl_nil ?_
            refine wq_round ((k + 1, l11)) ?_ ?_ ?_ ?_
            · exact (Sub.cons rfl (Sub.cons rfl (Sub.nil _)))
            · exact (Sub.cons rfl (Sub.cons rfl (Sub.cons rfl (Sub.cons rfl (Sub.nil _)))))
            · (try dsimp only)
              exact by have HN := H11.f2.right.f3.right.f2.f2; first | (have hp : pieceS (stS l k) (l.getD k 0) (l.drop (k + 1)) = [l.getD k 0] := (by first | exact p_back (by assumption) | exact p_esc1 (by assumption) (by assumption) (by assumption) (by assumption) | exact p_stay (by assumption) (by assumption) (by assumption)); exact ⟨out ++ [l.getD k 0], ⟨by omega, by simp; omega, by rw [← hout, strip_step hkl, hp, List.append_assoc]⟩, by rw [stS_succ hkl]; exact HN⟩) | (have hp : pieceS (stS l k) (l.getD k 0) (l.drop (k + 1)) = [] := (by first | exact p_esc0 (by assumption) (by assumption) (by assumption) | exact p_esc2 (by assumption) (by assumption) (by assumption) | exact p_turn (by assumption) (by assumption) (by assumption)); exact ⟨out, ⟨by omega, by omega, by rw [← hout, strip_step hkl, hp, List.nil_append]⟩, by rw [stS_succ hkl]; exact HN⟩)
            · (try dsimp only); omega
          · (try simp only [beq_iff_eq, bne_iff_ne, ne_eq, decide_eq_true_eq, decide_eq_false_iff_not, beq_eq_false_iff_ne, bne_eq_false_iff_eq, Bool.not_eq_true', Bool.not_eq_false', Bool.not_eq_eq_eq_not, Bool.not_true, Bool.not_false, gt_iff_lt, ge_iff_le, Int.not_lt, Int.not_le] at h5)
            
            refine wc_skip ?_
            refine wq_block_normal ?_
            refine wq_block_normal ?_
            refine wq_seq ?_
            refine wc_region ?_
            refine wl_val (r_add rfl rfl (by omega)) (ltn rfl) ?_
            refine wl_val (r_move rfl) (ltn rfl) ?_
            refine wl_nil ?_
            refine wq_round ((k + 1, u)) ?_ ?_ ?_ ?_
            · exact (Sub.cons rfl (Sub.cons rfl (Sub.nil _)))
            · exact (Sub.cons rfl (Sub.cons rfl (Sub.cons rfl (Sub.cons rfl (Sub.nil _)))))
            · (try dsimp only)
              exact by have HN := H9.f2.right.f2; first | (have hp : pieceS (stS l k) (l.getD k 0) (l.drop (k + 1)) = [l.getD k 0] := (by first | exact p_back (by assumption) | exact p_esc1 (by assumption) (by assumption) (by assumption) (by assumption) | exact p_stay (by assumption) (by assumption) (by assumption)); exact ⟨out ++ [l.getD k 0], ⟨by omega, by simp; omega, by rw [← hout, strip_step hkl, hp, List.append_assoc]⟩, by rw [stS_succ hkl]; exact HN⟩) | (have hp : pieceS (stS l k) (l.getD k 0) (l.drop (k + 1)) = [] := (by first | exact p_esc0 (by assumption) (by assumption) (by assumption) | exact p_esc2 (by assumption) (by assumption) (by assumption) | exact p_turn (by assumption) (by assumption) (by assumption)); exact ⟨out, ⟨by omega, by omega, by rw [← hout, strip_step hkl, hp, List.nil_append]⟩, by rw [stS_succ hkl]; exact HN⟩)
            · (try dsimp only); omega
        · (try simp only [beq_iff_eq, bne_iff_ne, ne_eq, decide_eq_true_eq, decide_eq_false_iff_not, beq_eq_false_iff_ne, bne_eq_false_iff_eq, Bool.not_eq_true', Bool.not_eq_false', Bool.not_eq_eq_eq_not, Bool.not_true, Bool.not_false, gt_iff_lt, ge_iff_le, Int.not_lt, Int.not_le] at h4)
          refine wl_no rfl rfl rfl (ltn rfl) ?_
          refine wl_no rfl rfl rfl (ltn rfl) ?_
          refine wl_no rfl rfl rfl (ltn rfl) ?_
          refine wl_no rfl rfl rfl (ltn rfl) ?_
          refine wl_no rfl rfl rfl (ltn rfl) ?_
          refine wl_no rfl rfl rfl (ltn rfl) ?_
          refine wl_no rfl rfl rfl (ltn rfl) ?_
          refine wl_val (r_pick_f rfl rfl) (ltn rfl) ?_
          refine wl_nil ?_
          refine wq_seq ?_
          refine wc_cond_f rfl ?_
          refine wc_skip ?_
          refine wq_block_normal ?_
          refine wq_block_normal ?_
          refine wq_seq ?_
          refine wc_region ?_
          refine wl_val (r_add rfl rfl (by omega)) (ltn rfl) ?_
          refine wl_val (r_move rfl) (ltn rfl) ?_
          refine wl_nil ?_
          refine wq_round ((k + 1, u)) ?_ ?_ ?_ ?_
          · exact (Sub.cons rfl (Sub.cons rfl (Sub.nil _)))
          · exact (Sub.cons rfl (Sub.cons rfl (Sub.cons rfl (Sub.cons rfl (Sub.nil _)))))
          · (try dsimp only)
            exact by have HN := H6.f2.right.f2; first | (have hp : pieceS (stS l k) (l.getD k 0) (l.drop (k + 1)) = [l.getD k 0] := (by first | exact p_back (by assumption) | exact p_esc1 (by assumption) (by assumption) (by assumption) (by assumption) | exact p_stay (by assumption) (by assumption) (by assumption)); exact ⟨out ++ [l.getD k 0], ⟨by omega, by simp; omega, by rw [← hout, strip_step hkl, hp, List.append_assoc]⟩, by rw [stS_succ hkl]; exact HN⟩) | (have hp : pieceS (stS l k) (l.getD k 0) (l.drop (k + 1)) = [] := (by first | exact p_esc0 (by assumption) (by assumption) (by assumption) | exact p_esc2 (by assumption) (by assumption) (by assumption) | exact p_turn (by assumption) (by assumption) (by assumption)); exact ⟨out, ⟨by omega, by omega, by rw [← hout, strip_step hkl, hp, List.nil_append]⟩, by rw [stS_succ hkl]; exact HN⟩)
          · (try dsimp only); omega
      · (try simp only [beq_iff_eq, bne_iff_ne, ne_eq, decide_eq_true_eq, decide_eq_false_iff_not, beq_eq_false_iff_ne, bne_eq_false_iff_eq, Bool.not_eq_true', Bool.not_eq_false', Bool.not_eq_eq_eq_not, Bool.not_true, Bool.not_false, gt_iff_lt, ge_iff_le, Int.not_lt, Int.not_le] at h3)
        
        refine wc_seq ?_
        refine wc_region ?_
        refine wl_val ((by first | exact r_field0 0 Try.underlying55 rfl rfl Try.sizeOf21 (by decide) rfl | exact r_field 0 Try.underlying55 rfl rfl Try.sizeOf21 (by decide) rfl)) (ltn rfl) ?_
        refine wl_val (r_load (plain_of Try.underlying21 rfl) rfl (cell_of_blk (H6).get.2 rfl)) (ltn rfl) ?_
        refine wl_val ((by first | exact r_field0 0 Try.underlying55 rfl rfl Try.sizeOf21 (by decide) rfl | exact r_field 0 Try.underlying55 rfl rfl Try.sizeOf21 (by decide) rfl)) (ltn rfl) ?_
        refine wl_val (r_load (plain_of Try.underlying21 rfl) rfl (cell_of_blk (H6.f2).get.2 rfl)) (ltn rfl) ?_
        refine wl_val (r_neq rfl rfl) (ltn rfl) ?_
        refine wl_val (r_assign rfl) (ltn rfl) ?_
        refine wl_nil ?_
        refine wq_seq ?_
        refine wc_cond rfl (fun h6 => ?_) (fun h6 => ?_)
        · (try simp only [beq_iff_eq, bne_iff_ne, ne_eq, decide_eq_true_eq, decide_eq_false_iff_not, beq_eq_false_iff_ne, bne_eq_false_iff_eq, Bool.not_eq_true', Bool.not_eq_false', Bool.not_eq_eq_eq_not, Bool.not_true, Bool.not_false, gt_iff_lt, ge_iff_le, Int.not_lt, Int.not_le] at h6)
          
          refine wc_skip ?_
          refine wq_block_normal ?_
          refine wq_block_normal ?_
          refine wq_seq ?_
          refine wc_region ?_
          refine wl_val (r_add rfl rfl (by omega)) (ltn rfl) ?_
          refine wl_val (r_move rfl) (ltn rfl) ?_
          refine wl_nil ?_
          refine wq_round ((k + 1, u)) ?_ ?_ ?_ ?_
          · exact (Sub.cons rfl (Sub.cons rfl (Sub.nil _)))
          · exact (Sub.cons rfl (Sub.cons rfl (Sub.cons rfl (Sub.cons rfl (Sub.nil _)))))
          · (try dsimp only)
            exact by have HN := H6.f2.right.f2; first | (have hp : pieceS (stS l k) (l.getD k 0) (l.drop (k + 1)) = [l.getD k 0] := (by first | exact p_back (by assumption) | exact p_esc1 (by assumption) (by assumption) (by assumption) (by assumption) | exact p_stay (by assumption) (by assumption) (by assumption)); exact ⟨out ++ [l.getD k 0], ⟨by omega, by simp; omega, by rw [← hout, strip_step hkl, hp, List.append_assoc]⟩, by rw [stS_succ hkl]; exact HN⟩) | (have hp : pieceS (stS l k) (l.getD k 0) (l.drop (k + 1)) = [] := (by first | exact p_esc0 (by assumption) (by assumption) (by assumption) | exact p_esc2 (by assumption) (by assumption) (by assumption) | exact p_turn (by assumption) (by assumption) (by assumption)); exact ⟨out, ⟨by omega, by omega, by rw [← hout, strip_step hkl, hp, List.nil_append]⟩, by rw [stS_succ hkl]; exact HN⟩)
          · (try dsimp only); omega
        · (try simp only [beq_iff_eq, bne_iff_ne, ne_eq, decide_eq_true_eq, decide_eq_false_iff_not, beq_eq_false_iff_ne, bne_eq_false_iff_eq, Bool.not_eq_true', Bool.not_eq_false', Bool.not_eq_eq_eq_not, Bool.not_true, Bool.not_false, gt_iff_lt, ge_iff_le, Int.not_lt, Int.not_le] at h6)
          
          refine wc_region ?_
          refine wl_val (r_move rfl) (ltn rfl) ?_
          refine wl_val (r_move rfl) (ltn rfl) ?_
          refine wl_eff (e_lit_ints (k := .i32) (l := [_]) H6 Try.underlying22 Try.sizeOf21 Try.zeroValue21 rfl rfl rfl (by decide)) (ltn rfl) ?_
          rintro l12 w12 H12
          refine wl_eff (e_append_ints H12.f4 ((H12).row_rd) Try.underlying22 (show (Try.prog.info? 21).map (fun i => (i.zero, i.size, i.bytes)) = some (some (.int .i32 0), 1, 4) by kernel_rfl) rfl rfl (by first | omega | (simp only [List.length_append, List.length_nil, List.length_cons]; omega) | (simp; omega)) (by first | omega | (simp only [List.length_append, List.length_nil, List.length_cons]; omega) | (simp; omega))) (ltn rfl) ?_
          rintro l13 w13 H13
          try simp only [List.nil_append] at H13
          refine wl_val (r_assign rfl) (ltn rfl) ?_
          refine wl_nil ?_
          refine wq_block_normal ?_
          refine wq_block_normal ?_
          refine wq_seq ?_
          refine wc_region ?_
          refine wl_val (r_add rfl rfl (by omega)) (ltn rfl) ?_
          refine wl_val (r_move rfl) (ltn rfl) ?_
          refine wl_nil ?_
          refine wq_round ((k + 1, l13)) ?_ ?_ ?_ ?_
          · exact (Sub.cons rfl (Sub.cons rfl (Sub.nil _)))
          · exact (Sub.cons rfl (Sub.cons rfl (Sub.cons rfl (Sub.cons rfl (Sub.nil _)))))
          · (try dsimp only)
            exact by have HN := H13.f2.right.f3.right.f2.f2; first | (have hp : pieceS (stS l k) (l.getD k 0) (l.drop (k + 1)) = [l.getD k 0] := (by first | exact p_back (by assumption) | exact p_esc1 (by assumption) (by assumption) (by assumption) (by assumption) | exact p_stay (by assumption) (by assumption) (by assumption)); exact ⟨out ++ [l.getD k 0], ⟨by omega, by simp; omega, by rw [← hout, strip_step hkl, hp, List.append_assoc]⟩, by rw [stS_succ hkl]; exact HN⟩) | (have hp : pieceS (stS l k) (l.getD k 0) (l.drop (k + 1)) = [] := (by first | exact p_esc0 (by assumption) (by assumption) (by assumption) | exact p_esc2 (by assumption) (by assumption) (by assumption) | exact p_turn (by assumption) (by assumption) (by assumption)); exact ⟨out, ⟨by omega, by omega, by rw [← hout, strip_step hkl, hp, List.nil_append]⟩, by rw [stS_succ hkl]; exact HN⟩)
          · (try dsimp only); omega
  · (try simp only [beq_iff_eq, bne_iff_ne, ne_eq, decide_eq_true_eq, decide_eq_false_iff_not, beq_eq_false_iff_ne, bne_eq_false_iff_eq, Bool.not_eq_true', Bool.not_eq_false', Bool.not_eq_eq_eq_not, Bool.not_true, Bool.not_false, gt_iff_lt, ge_iff_le, Int.not_lt, Int.not_le] at h1)
    
    refine wc_exit ?_
    refine wq_then_exit ?_
    refine wq_then_exit ?_
    refine wq_block_hit ?_
    refine wq_seq ?_
    refine wc_seq ?_
    refine wc_region ?_
    refine wl_val (r_move rfl) (ltn rfl) ?_
    refine wl_val (r_assign rfl) (ltn rfl) ?_
    refine wl_nil ?_
    refine wq_seq ?_
    refine wc_ret ?_
    refine wq_end1 (.inl rfl) Try.results17 rfl ?_
    obtain rfl : k = l.length := by omega
    rw [List.drop_length, stripR, List.append_nil] at hout
    rw [← hout]
    exact HL.f2.right
theorem sh_runes_ret {s : ByteArray} (H : Holds w0 w F) (hl : Conv.runesFrom s s.size 0 #[] = (l.map (Value.int .i32)).toArray) (hb : l.length ≤ 70368744177664) :
    Ret Try.prog 34 #[.string s] w fun v w' => Holds w0 w' (RowI 21 .i32 v l • F) := by
  refine ret_enter Try.func34 rfl Try.ntmps34 (Nat.le_of_ble_eq_true rfl) ?_
  dsimp only [slots0, Nat.reduceAdd]
  refine wc_seq ?_
  refine wc_region ?_
  refine wl_val (r_assign rfl) (ltn rfl) ?_
  refine wl_nil ?_
  refine wq_seq ?_
  refine wc_seq ?_
  refine wc_region ?_
  refine wl_val (r_move rfl) (ltn rfl) ?_
  refine wl_eff (e_str_runes H Try.underlying9 Try.underlying22 Try.underlying21 rfl hl hb) (ltn rfl) ?_
  rintro u w1 H1
  refine wl_val (r_assign rfl) (ltn rfl) ?_
  refine wl_nil ?_
  refine wq_seq ?_
  refine wc_ret ?_
  refine wq_end1 (.inl rfl) Try.results34 rfl ?_
  exact H1
theorem sh_quote_ret (H : Holds w0 w F) (hv : FRdI w0 F .i32 v l) (hl : Rn32 l) (hL : l.length ≤ 4294967296) : Ret Try.prog 16 #[v, .int .i64 st] w fun v' w' => ∃ u, v' = .tuple #[u, .int .i64 (quoteE st l)] ∧ Holds w0 w' (RowI 21 .i32 u (quoteR st l) • F) := by
  have hcv : l.length ≤ 9223372036854775807 := by omega
  refine ret_enter Try.func16 rfl Try.ntmps16 (Nat.le_of_ble_eq_true rfl) ?_
  dsimp only [slots0, Nat.reduceAdd]
  refine wc_seq ?_
  refine wc_region ?_
  refine wl_val (r_assign rfl) (ltn rfl) ?_
  refine wl_val (r_assign rfl) (ltn rfl) ?_
  refine wl_nil ?_
  refine wq_seq ?_
  refine wc_seq ?_
  refine wc_region ?_
  refine wl_val (r_assign rfl) (ltn rfl) ?_
  refine wl_nil ?_
  refine wq_seq ?_
  refine wc_seq ?_
  refine wc_seq ?_
  refine wc_region ?_
  refine wl_val (r_move rfl) (ltn rfl) ?_
  refine wl_nil ?_
  refine wq_seq ?_
  refine wc_block ?_
  refine wc_seq ?_
  refine wc_region ?_
  refine wl_val (r_eql rfl rfl) (ltn rfl) ?_
  refine wl_val (r_assign rfl) (ltn rfl) ?_
  refine wl_nil ?_
  refine wq_seq ?_
  refine wc_cond rfl (fun h1 => ?_) (fun h1 => ?_)
  · (try simp only [beq_iff_eq, bne_iff_ne, ne_eq, decide_eq_true_eq, decide_eq_false_iff_not, beq_eq_false_iff_ne, bne_eq_false_iff_eq, Bool.not_eq_true', Bool.not_eq_false', Bool.not_eq_eq_eq_not, Bool.not_true, Bool.not_false, gt_iff_lt, ge_iff_le, Int.not_lt, Int.not_le] at h1)
    
    refine wc_seq ?_
    refine wc_region ?_
    refine wl_val (r_move rfl) (ltn rfl) ?_
    refine wl_eff (e_lit_ints (k := .i32) (l := [39]) H Try.underlying22 Try.sizeOf21 Try.zeroValue21 rfl rfl rfl (by decide)) (ltn rfl) ?_
    rintro l1 w1 H1
    refine wl_eff (e_append_ints (l := []) (H1.row_nil none) ((H1).row_rd) Try.underlying22 (show (Try.prog.info? 21).map (fun i => (i.zero, i.size, i.bytes)) = some (some (.int .i32 0), 1, 4) by kernel_rfl) rfl rfl (by first | omega | (simp only [List.length_append, List.length_nil, List.length_cons]; omega) | (simp; omega)) (by first | omega | (simp only [List.length_append, List.length_nil, List.length_cons]; omega) | (simp; omega))) (ltn rfl) ?_
    rintro l2 w2 H2
    try simp only [List.nil_append] at H2
    refine wl_val (r_assign rfl) (ltn rfl) ?_
    refine wl_nil ?_
    refine wq_seq ?_
    refine wc_seq ?_
    refine wc_seq ?_
    refine wc_region ?_
    refine wl_val (r_move rfl) (ltn rfl) ?_
    refine wl_val (r_lenR (hv _ (H2.right.right)) Try.underlying22 rfl) (ltn rfl) ?_
    refine wl_val (r_move rfl) (ltn rfl) ?_
    refine wl_nil ?_
    refine wq_seq ?_
    refine wc_block ?_
    refine wc_loop [(19, _), (20, _)] (fun (⟨k, u⟩ : Nat × Value) => [(21, .int .i64 (k : Int)), (6, u)]) (fun (⟨k, u⟩ : Nat × Value) W => ∃ out, (k ≤ l.length ∧ out = 39 :: (l.take k).flatMap enc1) ∧ Holds w0 W (RowI 21 .i32 u out • F)) (fun (⟨k, u⟩ : Nat × Value) => l.length - k) ((0, l2)) (Sub.cons rfl (Sub.cons rfl (Sub.nil _))) (Sub.cons rfl (Sub.cons rfl (Sub.nil _))) ⟨_, ⟨by omega, rfl⟩, H2.f2.right⟩ ?_
    rintro ⟨k, u⟩ w3 ⟨out, ⟨hk, hout⟩, HL⟩
    dsimp only [List.cons_append, List.nil_append]
    refine wc_seq ?_
    refine wc_region ?_
    refine wl_val (r_lss rfl rfl) (ltn rfl) ?_
    refine wl_nil ?_
    refine wq_seq ?_
    refine wc_seq ?_
    refine wc_cond rfl (fun h2 => ?_) (fun h2 => ?_)
    · (try simp only [beq_iff_eq, bne_iff_ne, ne_eq, decide_eq_true_eq, decide_eq_false_iff_not, beq_eq_false_iff_ne, bne_eq_false_iff_eq, Bool.not_eq_true', Bool.not_eq_false', Bool.not_eq_eq_eq_not, Bool.not_true, Bool.not_false, gt_iff_lt, ge_iff_le, Int.not_lt, Int.not_le] at h2)
      
      refine wc_skip ?_
      refine wq_seq ?_
      refine wc_seq ?_
      refine wc_block ?_
      refine wc_seq ?_
      have hkl : k < l.length := by omega
      have hle : out.length ≤ 4 * l.length + 1 := by rw [hout]; have := enc_len enc1_le (l.take k); rw [List.length_cons]; rw [List.length_take] at this; omega
      refine wc_region ?_
      obtain ⟨bv, ov, cv, ev⟩ := RdI.posV (hv _ (HL.right)) (by omega)
      cases ev
      refine wl_val (r_index Try.underlying22 Try.sizeOf21 rfl rfl (by omega)) (ltn rfl) ?_
      refine wl_val (r_load (plain_of Try.underlying21 rfl) rfl (by first | exact RdI.at1n (hv _ (HL.right)) (by omega) | exact RdI.at0 (hv _ (HL.right)) (by omega) | exact RdI.at1 (hv _ (HL.right)) (by omega))) (ltn rfl) ?_
      refine wl_val (r_assign rfl) (ltn rfl) ?_
      refine wl_nil ?_
      refine wq_seq ?_
      refine wc_seq ?_
      refine wc_seq ?_
      refine wc_region ?_
      refine wl_val (r_move rfl) (ltn rfl) ?_
      refine wl_val (r_eql rfl rfl) (ltn rfl) ?_
      refine wl_nil ?_
      refine wq_seq ?_
      refine wc_cond rfl (fun h3 => ?_) (fun h3 => ?_)
      · (try simp only [beq_iff_eq, bne_iff_ne, ne_eq, decide_eq_true_eq, decide_eq_false_iff_not, beq_eq_false_iff_ne, bne_eq_false_iff_eq, Bool.not_eq_true', Bool.not_eq_false', Bool.not_eq_eq_eq_not, Bool.not_true, Bool.not_false, gt_iff_lt, ge_iff_le, Int.not_lt, Int.not_le] at h3)
        have hr : l.getD k 0 = 39 := by simpa using h3
        refine wc_region ?_
        refine wl_val (r_move rfl) (ltn rfl) ?_
        refine wl_eff (e_lit_ints (k := .i32) (l := [39, 92, 39]) HL Try.underlying22 Try.sizeOf21 Try.zeroValue21 rfl rfl rfl (by decide)) (ltn rfl) ?_
        rintro l4 w4 H4
        refine wl_eff (e_append_ints H4.f2 ((H4).row_rd) Try.underlying22 (show (Try.prog.info? 21).map (fun i => (i.zero, i.size, i.bytes)) = some (some (.int .i32 0), 1, 4) by kernel_rfl) rfl rfl (by first | omega | (simp only [List.length_append, List.length_nil, List.length_cons]; omega) | (simp; omega)) (by first | omega | (simp only [List.length_append, List.length_nil, List.length_cons]; omega) | (simp; omega))) (ltn rfl) ?_
        rintro l5 w5 H5
        try simp only [List.nil_append] at H5
        refine wl_val (r_assign rfl) (ltn rfl) ?_
        refine wl_nil ?_
        refine wq_seq ?_
        refine wc_region ?_
        refine wl_val (r_move rfl) (ltn rfl) ?_
        refine wl_val (r_move rfl) (ltn rfl) ?_
        refine wl_eff (e_lit_ints (k := .i32) (l := [_]) H5 Try.underlying22 Try.sizeOf21 Try.zeroValue21 rfl rfl rfl (by decide)) (ltn rfl) ?_
        rintro l6 w6 H6
        refine wl_eff (e_append_ints H6.f2 ((H6).row_rd) Try.underlying22 (show (Try.prog.info? 21).map (fun i => (i.zero, i.size, i.bytes)) = some (some (.int .i32 0), 1, 4) by kernel_rfl) rfl rfl (by first | omega | (simp only [List.length_append, List.length_nil, List.length_cons]; omega) | (simp; omega)) (by first | omega | (simp only [List.length_append, List.length_nil, List.length_cons]; omega) | (simp; omega))) (ltn rfl) ?_
        rintro l7 w7 H7
        try simp only [List.nil_append] at H7
        refine wl_val (r_assign rfl) (ltn rfl) ?_
        refine wl_nil ?_
        refine wq_block_normal ?_
        refine wq_seq ?_
        refine wc_region ?_
        refine wl_val (r_add rfl rfl (by omega)) (ltn rfl) ?_
        refine wl_val (r_move rfl) (ltn rfl) ?_
        refine wl_nil ?_
        refine wq_round ((k + 1, l7)) ?_ ?_ ?_ ?_
        · exact (Sub.cons rfl (Sub.cons rfl (Sub.nil _)))
        · exact (Sub.cons rfl (Sub.cons rfl (Sub.nil _)))
        · (try dsimp only)
          exact ⟨_, ⟨by omega, by subst hout; rw [flat_snoc hkl]; unfold enc1; first | (rw [if_pos hr, hr]; simp; done) | (rw [if_pos hr]; simp; done) | (rw [if_neg hr]; done) | (rw [if_neg hr]; simp; done)⟩, H7.f2.right.f2.right⟩
        · (try dsimp only); omega
      · (try simp only [beq_iff_eq, bne_iff_ne, ne_eq, decide_eq_true_eq, decide_eq_false_iff_not, beq_eq_false_iff_ne, bne_eq_false_iff_eq, Bool.not_eq_true', Bool.not_eq_false', Bool.not_eq_eq_eq_not, Bool.not_true, Bool.not_false, gt_iff_lt, ge_iff_le, Int.not_lt, Int.not_le] at h3)
        have hr : ¬ l.getD k 0 = 39 := by simpa using h3
        refine wc_skip ?_
        refine wq_seq ?_
        refine wc_region ?_
        refine wl_val (r_move rfl) (ltn rfl) ?_
        refine wl_val (r_move rfl) (ltn rfl) ?_
        refine wl_eff (e_lit_ints (k := .i32) (l := [_]) HL Try.underlying22 Try.sizeOf21 Try.zeroValue21 rfl rfl rfl (by decide)) (ltn rfl) ?_
        rintro l8 w8 H8
        refine wl_eff (e_append_ints H8.f2 ((H8).row_rd) Try.underlying22 (show (Try.prog.info? 21).map (fun i => (i.zero, i.size, i.bytes)) = some (some (.int .i32 0), 1, 4) by kernel_rfl) rfl rfl (by first | omega | (simp only [List.length_append, List.length_nil, List.length_cons]; omega) | (simp; omega)) (by first | omega | (simp only [List.length_append, List.length_nil, List.length_cons]; omega) | (simp; omega))) (ltn rfl) ?_
        rintro l9 w9 H9
        try simp only [List.nil_append] at H9
        refine wl_val (r_assign rfl) (ltn rfl) ?_
        refine wl_nil ?_
        refine wq_block_normal ?_
        refine wq_seq ?_
        refine wc_region ?_
        refine wl_val (r_add rfl rfl (by omega)) (ltn rfl) ?_
        refine wl_val (r_move rfl) (ltn rfl) ?_
        refine wl_nil ?_
        refine wq_round ((k + 1, l9)) ?_ ?_ ?_ ?_
        · exact (Sub.cons rfl (Sub.cons rfl (Sub.nil _)))
        · exact (Sub.cons rfl (Sub.cons rfl (Sub.nil _)))
        · (try dsimp only)
          exact ⟨_, ⟨by omega, by subst hout; rw [flat_snoc hkl]; unfold enc1; first | (rw [if_pos hr, hr]; simp; done) | (rw [if_pos hr]; simp; done) | (rw [if_neg hr]; done) | (rw [if_neg hr]; simp; done)⟩, H9.f2.right⟩
        · (try dsimp only); omega
    · (try simp only [beq_iff_eq, bne_iff_ne, ne_eq, decide_eq_true_eq, decide_eq_false_iff_not, beq_eq_false_iff_ne, bne_eq_false_iff_eq, Bool.not_eq_true', Bool.not_eq_false', Bool.not_eq_eq_eq_not, Bool.not_true, Bool.not_false, gt_iff_lt, ge_iff_le, Int.not_lt, Int.not_le] at h2)
      
      refine wc_exit ?_
      refine wq_then_exit ?_
      refine wq_then_exit ?_
      refine wq_block_hit ?_
      refine wq_seq ?_
      have hle : out.length ≤ 4 * l.length + 1 := by rw [hout]; have := enc_len enc1_le (l.take k); rw [List.length_cons]; rw [List.length_take] at this; omega
      refine wc_region ?_
      refine wl_val (r_move rfl) (ltn rfl) ?_
      refine wl_eff (e_lit_ints (k := .i32) (l := [39]) HL Try.underlying22 Try.sizeOf21 Try.zeroValue21 rfl rfl rfl (by decide)) (ltn rfl) ?_
      rintro l10 w10 H10
      refine wl_eff (e_append_ints H10.f2 ((H10).row_rd) Try.underlying22 (show (Try.prog.info? 21).map (fun i => (i.zero, i.size, i.bytes)) = some (some (.int .i32 0), 1, 4) by kernel_rfl) rfl rfl (by first | omega | (simp only [List.length_append, List.length_nil, List.length_cons]; omega) | (simp; omega)) (by first | omega | (simp only [List.length_append, List.length_nil, List.length_cons]; omega) | (simp; omega))) (ltn rfl) ?_
      rintro l11 w11 H11
      try simp only [List.nil_append] at H11
      refine wl_val (r_assign rfl) (ltn rfl) ?_
      refine wl_nil ?_
      refine wq_block_normal ?_
      refine wq_seq ?_
      refine wc_seq ?_
      refine wc_seq ?_
      obtain ⟨ol, hol, HQ⟩ : ∃ ol, ol = quoteL st l ∧ Holds w0 w11 (RowI 21 .i32 l11 ol • F) := by
        refine ⟨_, ?_, H11.f2.right⟩
        unfold quoteL
        first
          | (rw [if_pos (by omega), hout, show k = l.length by omega, List.take_length]; done)
          | (rw [if_neg (by omega), if_pos (by omega), hout, show k = l.length by omega, List.take_length]; done)
          | (rw [if_neg (by omega), if_neg (by omega), if_pos (List.eq_nil_of_length_eq_zero (by omega))]; done)
          | (rw [if_neg (by omega), if_neg (by omega), if_neg (by intro q; subst q; simp at *), hout, show k = l.length by omega, List.take_length]; done)
      have hst : 1 ≤ st ∧ st ≤ 3 := by omega
      refine wc_region ?_
      refine wl_val (r_move rfl) (ltn rfl) ?_
      refine wl_val (r_lenR ((HQ).row_rd) Try.underlying22 rfl) (ltn rfl) ?_
      refine wl_val (r_gtr rfl rfl) (ltn rfl) ?_
      refine wl_nil ?_
      refine wq_seq ?_
      refine wc_cond rfl (fun h4 => ?_) (fun h4 => ?_)
      · (try simp only [beq_iff_eq, bne_iff_ne, ne_eq, decide_eq_true_eq, decide_eq_false_iff_not, beq_eq_false_iff_ne, bne_eq_false_iff_eq, Bool.not_eq_true', Bool.not_eq_false', Bool.not_eq_eq_eq_not, Bool.not_true, Bool.not_false, gt_iff_lt, ge_iff_le, Int.not_lt, Int.not_le] at h4)
        
        refine wc_seq ?_
        refine wc_region ?_
        refine wl_val (r_assign rfl) (ltn rfl) ?_
        refine wl_val (r_assign rfl) (ltn rfl) ?_
        refine wl_nil ?_
        refine wq_seq ?_
        refine wc_ret ?_
        refine wq_then_ret ?_
        refine wq_end2 (.inl rfl) Try.results16 rfl rfl ?_
        have hq : quoteE st l = 3 := by unfold quoteE; rw [if_neg (by omega), if_pos (by rw [← hol]; omega)]
        refine ⟨_, by rw [hq], ?_⟩
        unfold quoteR; rw [hq, if_neg (by decide)]; exact (HQ.right).row_nil none
      · (try simp only [beq_iff_eq, bne_iff_ne, ne_eq, decide_eq_true_eq, decide_eq_false_iff_not, beq_eq_false_iff_ne, bne_eq_false_iff_eq, Bool.not_eq_true', Bool.not_eq_false', Bool.not_eq_eq_eq_not, Bool.not_true, Bool.not_false, gt_iff_lt, ge_iff_le, Int.not_lt, Int.not_le] at h4)
        
        refine wc_skip ?_
        refine wq_seq ?_
        refine wc_seq ?_
        refine wc_region ?_
        refine wl_val (r_move rfl) (ltn rfl) ?_
        refine wl_val (r_assign rfl) (ltn rfl) ?_
        refine wl_val (r_assign rfl) (ltn rfl) ?_
        refine wl_nil ?_
        refine wq_seq ?_
        refine wc_ret ?_
        refine wq_end2 (.inl rfl) Try.results16 rfl rfl ?_
        have hq : quoteE st l = 0 := by unfold quoteE; rw [if_neg (by omega), if_neg (by rw [← hol]; omega)]
        refine ⟨_, by rw [hq], ?_⟩
        unfold quoteR; rw [hq, if_pos rfl, ← hol]; exact HQ
  · (try simp only [beq_iff_eq, bne_iff_ne, ne_eq, decide_eq_true_eq, decide_eq_false_iff_not, beq_eq_false_iff_ne, bne_eq_false_iff_eq, Bool.not_eq_true', Bool.not_eq_false', Bool.not_eq_eq_eq_not, Bool.not_true, Bool.not_false, gt_iff_lt, ge_iff_le, Int.not_lt, Int.not_le] at h1)
    
    refine wc_seq ?_
    refine wc_region ?_
    refine wl_val (r_eql rfl rfl) (ltn rfl) ?_
    refine wl_val (r_assign rfl) (ltn rfl) ?_
    refine wl_nil ?_
    refine wq_seq ?_
    refine wc_cond rfl (fun h5 => ?_) (fun h5 => ?_)
    · (try simp only [beq_iff_eq, bne_iff_ne, ne_eq, decide_eq_true_eq, decide_eq_false_iff_not, beq_eq_false_iff_ne, bne_eq_false_iff_eq, Bool.not_eq_true', Bool.not_eq_false', Bool.not_eq_eq_eq_not, Bool.not_true, Bool.not_false, gt_iff_lt, ge_iff_le, Int.not_lt, Int.not_le] at h5)
      
      refine wc_seq ?_
      refine wc_region ?_
      refine wl_val (r_move rfl) (ltn rfl) ?_
      refine wl_eff (e_lit_ints (k := .i32) (l := [34]) H Try.underlying22 Try.sizeOf21 Try.zeroValue21 rfl rfl rfl (by decide)) (ltn rfl) ?_
      rintro l12 w12 H12
      refine wl_eff (e_append_ints (l := []) (H12.row_nil none) ((H12).row_rd) Try.underlying22 (show (Try.prog.info? 21).map (fun i => (i.zero, i.size, i.bytes)) = some (some (.int .i32 0), 1, 4) by kernel_rfl) rfl rfl (by first | omega | (simp only [List.length_append, List.length_nil, List.length_cons]; omega) | (simp; omega)) (by first | omega | (simp only [List.length_append, List.length_nil, List.length_cons]; omega) | (simp; omega))) (ltn rfl) ?_
      rintro l13 w13 H13
      try simp only [List.nil_append] at H13
      refine wl_val (r_assign rfl) (ltn rfl) ?_
      refine wl_nil ?_
      refine wq_seq ?_
      refine wc_seq ?_
      refine wc_seq ?_
      refine wc_region ?_
      refine wl_val (r_move rfl) (ltn rfl) ?_
      refine wl_val (r_lenR (hv _ (H13.right.right)) Try.underlying22 rfl) (ltn rfl) ?_
      refine wl_val (r_move rfl) (ltn rfl) ?_
      refine wl_nil ?_
      refine wq_seq ?_
      refine wc_block ?_
      refine wc_loop [(43, _), (44, _)] (fun (⟨k, u⟩ : Nat × Value) => [(45, .int .i64 (k : Int)), (6, u)]) (fun (⟨k, u⟩ : Nat × Value) W => ∃ out, (k ≤ l.length ∧ out = 34 :: (l.take k).flatMap enc2) ∧ Holds w0 W (RowI 21 .i32 u out • F)) (fun (⟨k, u⟩ : Nat × Value) => l.length - k) ((0, l13)) (Sub.cons rfl (Sub.cons rfl (Sub.nil _))) (Sub.cons rfl (Sub.cons rfl (Sub.nil _))) ⟨_, ⟨by omega, rfl⟩, H13.f2.right⟩ ?_
      rintro ⟨k, u⟩ w14 ⟨out, ⟨hk, hout⟩, HL⟩
      dsimp only [List.cons_append, List.nil_append]
      refine wc_seq ?_
      refine wc_region ?_
      refine wl_val (r_lss rfl rfl) (ltn rfl) ?_
      refine wl_nil ?_
      refine wq_seq ?_
      refine wc_seq ?_
      refine wc_cond rfl (fun h6 => ?_) (fun h6 => ?_)
      · (try simp only [beq_iff_eq, bne_iff_ne, ne_eq, decide_eq_true_eq, decide_eq_false_iff_not, beq_eq_false_iff_ne, bne_eq_false_iff_eq, Bool.not_eq_true', Bool.not_eq_false', Bool.not_eq_eq_eq_not, Bool.not_true, Bool.not_false, gt_iff_lt, ge_iff_le, Int.not_lt, Int.not_le] at h6)
        
        refine wc_skip ?_
        refine wq_seq ?_
        refine wc_seq ?_
        refine wc_block ?_
        refine wc_seq ?_
        have hkl : k < l.length := by omega
        have hle : out.length ≤ 4 * l.length + 1 := by rw [hout]; have := enc_len enc2_le (l.take k); rw [List.length_cons]; rw [List.length_take] at this; omega
        refine wc_region ?_
        obtain ⟨bv, ov, cv, ev⟩ := RdI.posV (hv _ (HL.right)) (by omega)
        cases ev
        refine wl_val (r_index Try.underlying22 Try.sizeOf21 rfl rfl (by omega)) (ltn rfl) ?_
        refine wl_val (r_load (plain_of Try.underlying21 rfl) rfl (by first | exact RdI.at1n (hv _ (HL.right)) (by omega) | exact RdI.at0 (hv _ (HL.right)) (by omega) | exact RdI.at1 (hv _ (HL.right)) (by omega))) (ltn rfl) ?_
        refine wl_val (r_assign rfl) (ltn rfl) ?_
        refine wl_nil ?_
        refine wq_seq ?_
        refine wc_seq ?_
        refine wc_seq ?_
        refine wc_region ?_
        refine wl_val (r_move rfl) (ltn rfl) ?_
        refine wl_val (r_eql rfl rfl) (ltn rfl) ?_
        refine wl_split rfl (ltn rfl) (fun h7 => ?_) (fun h7 => ?_)
        · (try simp only [beq_iff_eq, bne_iff_ne, ne_eq, decide_eq_true_eq, decide_eq_false_iff_not, beq_eq_false_iff_ne, bne_eq_false_iff_eq, Bool.not_eq_true', Bool.not_eq_false', Bool.not_eq_eq_eq_not, Bool.not_true, Bool.not_false, gt_iff_lt, ge_iff_le, Int.not_lt, Int.not_le] at h7)
          refine wl_no rfl rfl rfl (ltn rfl) ?_
          refine wl_no rfl rfl rfl (ltn rfl) ?_
          refine wl_val (r_pick_t rfl rfl) (ltn rfl) ?_
          refine wl_val (r_move rfl) (ltn rfl) ?_
          refine wl_no rfl rfl rfl (ltn rfl) ?_
          refine wl_no rfl rfl rfl (ltn rfl) ?_
          refine wl_val (r_pick_t rfl rfl) (ltn rfl) ?_
          refine wl_val (r_move rfl) (ltn rfl) ?_
          refine wl_no rfl rfl rfl (ltn rfl) ?_
          refine wl_no rfl rfl rfl (ltn rfl) ?_
          refine wl_val (r_pick_t rfl rfl) (ltn rfl) ?_
          refine wl_nil ?_
          refine wq_seq ?_
          refine wc_cond_t rfl ?_
          have hr : l.getD k 0 = 92 ∨ l.getD k 0 = 34 ∨ l.getD k 0 = 36 ∨ l.getD k 0 = 96 := by omega
          refine wc_region ?_
          refine wl_val (r_move rfl) (ltn rfl) ?_
          refine wl_eff (e_lit_ints (k := .i32) (l := [92]) HL Try.underlying22 Try.sizeOf21 Try.zeroValue21 rfl rfl rfl (by decide)) (ltn rfl) ?_
          rintro l15 w15 H15
          refine wl_eff (e_append_ints H15.f2 ((H15).row_rd) Try.underlying22 (show (Try.prog.info? 21).map (fun i => (i.zero, i.size, i.bytes)) = some (some (.int .i32 0), 1, 4) by kernel_rfl) rfl rfl (by first | omega | (simp only [List.length_append, List.length_nil, List.length_cons]; omega) | (simp; omega)) (by first | omega | (simp only [List.length_append, List.length_nil, List.length_cons]; omega) | (simp; omega))) (ltn rfl) ?_
          rintro l16 w16 H16
          try simp only [List.nil_append] at H16
          refine wl_val (r_assign rfl) (ltn rfl) ?_
          refine wl_nil ?_
          refine wq_seq ?_
          refine wc_region ?_
          refine wl_val (r_move rfl) (ltn rfl) ?_
          refine wl_val (r_move rfl) (ltn rfl) ?_
          refine wl_eff (e_lit_ints (k := .i32) (l := [_]) H16 Try.underlying22 Try.sizeOf21 Try.zeroValue21 rfl rfl rfl (by decide)) (ltn rfl) ?_
          rintro l17 w17 H17
          refine wl_eff (e_append_ints H17.f2 ((H17).row_rd) Try.underlying22 (show (Try.prog.info? 21).map (fun i => (i.zero, i.size, i.bytes)) = some (some (.int .i32 0), 1, 4) by kernel_rfl) rfl rfl (by first | omega | (simp only [List.length_append, List.length_nil, List.length_cons]; omega) | (simp; omega)) (by first | omega | (simp only [List.length_append, List.length_nil, List.length_cons]; omega) | (simp; omega))) (ltn rfl) ?_
          rintro l18 w18 H18
          try simp only [List.nil_append] at H18
          refine wl_val (r_assign rfl) (ltn rfl) ?_
          refine wl_nil ?_
          refine wq_block_normal ?_
          refine wq_seq ?_
          refine wc_region ?_
          refine wl_val (r_add rfl rfl (by omega)) (ltn rfl) ?_
          refine wl_val (r_move rfl) (ltn rfl) ?_
          refine wl_nil ?_
          refine wq_round ((k + 1, l18)) ?_ ?_ ?_ ?_
          · exact (Sub.cons rfl (Sub.cons rfl (Sub.nil _)))
          · exact (Sub.cons rfl (Sub.cons rfl (Sub.nil _)))
          · (try dsimp only)
            exact ⟨_, ⟨by omega, by subst hout; rw [flat_snoc hkl]; unfold enc2; first | (rw [if_pos hr, hr]; simp; done) | (rw [if_pos hr]; simp; done) | (rw [if_neg hr]; done) | (rw [if_neg hr]; simp; done)⟩, H18.f2.right.f2.right⟩
          · (try dsimp only); omega
        · (try simp only [beq_iff_eq, bne_iff_ne, ne_eq, decide_eq_true_eq, decide_eq_false_iff_not, beq_eq_false_iff_ne, bne_eq_false_iff_eq, Bool.not_eq_true', Bool.not_eq_false', Bool.not_eq_eq_eq_not, Bool.not_true, Bool.not_false, gt_iff_lt, ge_iff_le, Int.not_lt, Int.not_le] at h7)
          refine wl_yes rfl rfl ?_
          refine wl_val (r_move rfl) (ltn rfl) ?_
          refine wl_yes rfl rfl ?_
          refine wl_val (r_eql rfl rfl) (ltn rfl) ?_
          refine wl_val (r_pick_f rfl rfl) (ltn rfl) ?_
          refine wl_split rfl (ltn rfl) (fun h8 => ?_) (fun h8 => ?_)
          · (try simp only [beq_iff_eq, bne_iff_ne, ne_eq, decide_eq_true_eq, decide_eq_false_iff_not, beq_eq_false_iff_ne, bne_eq_false_iff_eq, Bool.not_eq_true', Bool.not_eq_false', Bool.not_eq_eq_eq_not, Bool.not_true, Bool.not_false, gt_iff_lt, ge_iff_le, Int.not_lt, Int.not_le] at h8)
            refine wl_no rfl rfl rfl (ltn rfl) ?_
            refine wl_no rfl rfl rfl (ltn rfl) ?_
            refine wl_val (r_pick_t rfl rfl) (ltn rfl) ?_
            refine wl_val (r_move rfl) (ltn rfl) ?_
            refine wl_no rfl rfl rfl (ltn rfl) ?_
            refine wl_no rfl rfl rfl (ltn rfl) ?_
            refine wl_val (r_pick_t rfl rfl) (ltn rfl) ?_
            refine wl_nil ?_
            refine wq_seq ?_
            refine wc_cond_t rfl ?_
            have hr : l.getD k 0 = 92 ∨ l.getD k 0 = 34 ∨ l.getD k 0 = 36 ∨ l.getD k 0 = 96 := by omega
            refine wc_region ?_
            refine wl_val (r_move rfl) (ltn rfl) ?_
            refine wl_eff (e_lit_ints (k := .i32) (l := [92]) HL Try.underlying22 Try.sizeOf21 Try.zeroValue21 rfl rfl rfl (by decide)) (ltn rfl) ?_
            rintro l19 w19 H19
            refine wl_eff (e_append_ints H19.f2 ((H19).row_rd) Try.underlying22 (show (Try.prog.info? 21).map (fun i => (i.zero, i.size, i.bytes)) = some (some (.int .i32 0), 1, 4) by kernel_rfl) rfl rfl (by first | omega | (simp only [List.length_append, List.length_nil, List.length_cons]; omega) | (simp; omega)) (by first | omega | (simp only [List.length_append, List.length_nil, List.length_cons]; omega) | (simp; omega))) (ltn rfl) ?_
            rintro l20 w20 H20
            try simp only [List.nil_append] at H20
            refine wl_val (r_assign rfl) (ltn rfl) ?_
            refine wl_nil ?_
            refine wq_seq ?_
            refine wc_region ?_
            refine wl_val (r_move rfl) (ltn rfl) ?_
            refine wl_val (r_move rfl) (ltn rfl) ?_
            refine wl_eff (e_lit_ints (k := .i32) (l := [_]) H20 Try.underlying22 Try.sizeOf21 Try.zeroValue21 rfl rfl rfl (by decide)) (ltn rfl) ?_
            rintro l21 w21 H21
            refine wl_eff (e_append_ints H21.f2 ((H21).row_rd) Try.underlying22 (show (Try.prog.info? 21).map (fun i => (i.zero, i.size, i.bytes)) = some (some (.int .i32 0), 1, 4) by kernel_rfl) rfl rfl (by first | omega | (simp only [List.length_append, List.length_nil, List.length_cons]; omega) | (simp; omega)) (by first | omega | (simp only [List.length_append, List.length_nil, List.length_cons]; omega) | (simp; omega))) (ltn rfl) ?_
            rintro l22 w22 H22
            try simp only [List.nil_append] at H22
            refine wl_val (r_assign rfl) (ltn rfl) ?_
            refine wl_nil ?_
            refine wq_block_normal ?_
            refine wq_seq ?_
            refine wc_region ?_
            refine wl_val (r_add rfl rfl (by omega)) (ltn rfl) ?_
            refine wl_val (r_move rfl) (ltn rfl) ?_
            refine wl_nil ?_
            refine wq_round ((k + 1, l22)) ?_ ?_ ?_ ?_
            · exact (Sub.cons rfl (Sub.cons rfl (Sub.nil _)))
            · exact (Sub.cons rfl (Sub.cons rfl (Sub.nil _)))
            · (try dsimp only)
              exact ⟨_, ⟨by omega, by subst hout; rw [flat_snoc hkl]; unfold enc2; first | (rw [if_pos hr, hr]; simp; done) | (rw [if_pos hr]; simp; done) | (rw [if_neg hr]; done) | (rw [if_neg hr]; simp; done)⟩, H22.f2.right.f2.right⟩
            · (try dsimp only); omega
          · (try simp only [beq_iff_eq, bne_iff_ne, ne_eq, decide_eq_true_eq, decide_eq_false_iff_not, beq_eq_false_iff_ne, bne_eq_false_iff_eq, Bool.not_eq_true', Bool.not_eq_false', Bool.not_eq_eq_eq_not, Bool.not_true, Bool.not_false, gt_iff_lt, ge_iff_le, Int.not_lt, Int.not_le] at h8)
            refine wl_yes rfl rfl ?_
            refine wl_val (r_move rfl) (ltn rfl) ?_
            refine wl_yes rfl rfl ?_
            refine wl_val (r_eql rfl rfl) (ltn rfl) ?_
            refine wl_val (r_pick_f rfl rfl) (ltn rfl) ?_
            refine wl_split rfl (ltn rfl) (fun h9 => ?_) (fun h9 => ?_)
            · (try simp only [beq_iff_eq, bne_iff_ne, ne_eq, decide_eq_true_eq, decide_eq_false_iff_not, beq_eq_false_iff_ne, bne_eq_false_iff_eq, Bool.not_eq_true', Bool.not_eq_false', Bool.not_eq_eq_eq_not, Bool.not_true, Bool.not_false, gt_iff_lt, ge_iff_le, Int.not_lt, Int.not_le] at h9)
              refine wl_no rfl rfl rfl (ltn rfl) ?_
              refine wl_no rfl rfl rfl (ltn rfl) ?_
              refine wl_val (r_pick_t rfl rfl) (ltn rfl) ?_
              refine wl_nil ?_
              refine wq_seq ?_
              refine wc_cond_t rfl ?_
              have hr : l.getD k 0 = 92 ∨ l.getD k 0 = 34 ∨ l.getD k 0 = 36 ∨ l.getD k 0 = 96 := by omega
              refine wc_region ?_
              refine wl_val (r_move rfl) (ltn rfl) ?_
              refine wl_eff (e_lit_ints (k := .i32) (l := [92]) HL Try.underlying22 Try.sizeOf21 Try.zeroValue21 rfl rfl rfl (by decide)) (ltn rfl) ?_
              rintro l23 w23 H23
              refine wl_eff (e_append_ints H23.f2 ((H23).row_rd) Try.underlying22 (show (Try.prog.info? 21).map (fun i => (i.zero, i.size, i.bytes)) = some (some (.int .i32 0), 1, 4) by kernel_rfl) rfl rfl (by first | omega | (simp only [List.length_append, List.length_nil, List.length_cons]; omega) | (simp; omega)) (by first | omega | (simp only [List.length_append, List.length_nil, List.length_cons]; omega) | (simp; omega))) (ltn rfl) ?_
              rintro l24 w24 H24
              try simp only [List.nil_append] at H24
              refine wl_val (r_assign rfl) (ltn rfl) ?_
              refine wl_nil ?_
              refine wq_seq ?_
              refine wc_region ?_
              refine wl_val (r_move rfl) (ltn rfl) ?_
              refine wl_val (r_move rfl) (ltn rfl) ?_
              refine wl_eff (e_lit_ints (k := .i32) (l := [_]) H24 Try.underlying22 Try.sizeOf21 Try.zeroValue21 rfl rfl rfl (by decide)) (ltn rfl) ?_
              rintro l25 w25 H25
              refine wl_eff (e_append_ints H25.f2 ((H25).row_rd) Try.underlying22 (show (Try.prog.info? 21).map (fun i => (i.zero, i.size, i.bytes)) = some (some (.int .i32 0), 1, 4) by kernel_rfl) rfl rfl (by first | omega | (simp only [List.length_append, List.length_nil, List.length_cons]; omega) | (simp; omega)) (by first | omega | (simp only [List.length_append, List.length_nil, List.length_cons]; omega) | (simp; omega))) (ltn rfl) ?_
              rintro l26 w26 H26
              try simp only [List.nil_append] at H26
              refine wl_val (r_assign rfl) (ltn rfl) ?_
              refine wl_nil ?_
              refine wq_block_normal ?_
              refine wq_seq ?_
              refine wc_region ?_
              refine wl_val (r_add rfl rfl (by omega)) (ltn rfl) ?_
              refine wl_val (r_move rfl) (ltn rfl) ?_
              refine wl_nil ?_
              refine wq_round ((k + 1, l26)) ?_ ?_ ?_ ?_
              · exact (Sub.cons rfl (Sub.cons rfl (Sub.nil _)))
              · exact (Sub.cons rfl (Sub.cons rfl (Sub.nil _)))
              · (try dsimp only)
                exact ⟨_, ⟨by omega, by subst hout; rw [flat_snoc hkl]; unfold enc2; first | (rw [if_pos hr, hr]; simp; done) | (rw [if_pos hr]; simp; done) | (rw [if_neg hr]; done) | (rw [if_neg hr]; simp; done)⟩, H26.f2.right.f2.right⟩
              · (try dsimp only); omega
            · (try simp only [beq_iff_eq, bne_iff_ne, ne_eq, decide_eq_true_eq, decide_eq_false_iff_not, beq_eq_false_iff_ne, bne_eq_false_iff_eq, Bool.not_eq_true', Bool.not_eq_false', Bool.not_eq_eq_eq_not, Bool.not_true, Bool.not_false, gt_iff_lt, ge_iff_le, Int.not_lt, Int.not_le] at h9)
              refine wl_yes rfl rfl ?_
              refine wl_val (r_move rfl) (ltn rfl) ?_
              refine wl_yes rfl rfl ?_
              refine wl_val (r_eql rfl rfl) (ltn rfl) ?_
              refine wl_val (r_pick_f rfl rfl) (ltn rfl) ?_
              refine wl_nil ?_
              refine wq_seq ?_
              refine wc_cond rfl (fun h10 => ?_) (fun h10 => ?_)
              · (try simp only [beq_iff_eq, bne_iff_ne, ne_eq, decide_eq_true_eq, decide_eq_false_iff_not, beq_eq_false_iff_ne, bne_eq_false_iff_eq, Bool.not_eq_true', Bool.not_eq_false', Bool.not_eq_eq_eq_not, Bool.not_true, Bool.not_false, gt_iff_lt, ge_iff_le, Int.not_lt, Int.not_le] at h10)
                
                have hr : l.getD k 0 = 92 ∨ l.getD k 0 = 34 ∨ l.getD k 0 = 36 ∨ l.getD k 0 = 96 := by omega
                refine wc_region ?_
                refine wl_val (r_move rfl) (ltn rfl) ?_
                refine wl_eff (e_lit_ints (k := .i32) (l := [92]) HL Try.underlying22 Try.sizeOf21 Try.zeroValue21 rfl rfl rfl (by decide)) (ltn rfl) ?_
                rintro l27 w27 H27
                refine wl_eff (e_append_ints H27.f2 ((H27).row_rd) Try.underlying22 (show (Try.prog.info? 21).map (fun i => (i.zero, i.size, i.bytes)) = some (some (.int .i32 0), 1, 4) by kernel_rfl) rfl rfl (by first | omega | (simp only [List.length_append, List.length_nil, List.length_cons]; omega) | (simp; omega)) (by first | omega | (simp only [List.length_append, List.length_nil, List.length_cons]; omega) | (simp; omega))) (ltn rfl) ?_
                rintro l28 w28 H28
                try simp only [List.nil_append] at H28
                refine wl_val (r_assign rfl) (ltn rfl) ?_
                refine wl_nil ?_
                refine wq_seq ?_
                refine wc_region ?_
                refine wl_val (r_move rfl) (ltn rfl) ?_
                refine wl_val (r_move rfl) (ltn rfl) ?_
                refine wl_eff (e_lit_ints (k := .i32) (l := [_]) H28 Try.underlying22 Try.sizeOf21 Try.zeroValue21 rfl rfl rfl (by decide)) (ltn rfl) ?_
                rintro l29 w29 H29
                refine wl_eff (e_append_ints H29.f2 ((H29).row_rd) Try.underlying22 (show (Try.prog.info? 21).map (fun i => (i.zero, i.size, i.bytes)) = some (some (.int .i32 0), 1, 4) by kernel_rfl) rfl rfl (by first | omega | (simp only [List.length_append, List.length_nil, List.length_cons]; omega) | (simp; omega)) (by first | omega | (simp only [List.length_append, List.length_nil, List.length_cons]; omega) | (simp; omega))) (ltn rfl) ?_
                rintro l30 w30 H30
                try simp only [List.nil_append] at H30
                refine wl_val (r_assign rfl) (ltn rfl) ?_
                refine wl_nil ?_
                refine wq_block_normal ?_
                refine wq_seq ?_
                refine wc_region ?_
                refine wl_val (r_add rfl rfl (by omega)) (ltn rfl) ?_
                refine wl_val (r_move rfl) (ltn rfl) ?_
                refine wl_nil ?_
                refine wq_round ((k + 1, l30)) ?_ ?_ ?_ ?_
                · exact (Sub.cons rfl (Sub.cons rfl (Sub.nil _)))
                · exact (Sub.cons rfl (Sub.cons rfl (Sub.nil _)))
                · (try dsimp only)
                  exact ⟨_, ⟨by omega, by subst hout; rw [flat_snoc hkl]; unfold enc2; first | (rw [if_pos hr, hr]; simp; done) | (rw [if_pos hr]; simp; done) | (rw [if_neg hr]; done) | (rw [if_neg hr]; simp; done)⟩, H30.f2.right.f2.right⟩
                · (try dsimp only); omega
              · (try simp only [beq_iff_eq, bne_iff_ne, ne_eq, decide_eq_true_eq, decide_eq_false_iff_not, beq_eq_false_iff_ne, bne_eq_false_iff_eq, Bool.not_eq_true', Bool.not_eq_false', Bool.not_eq_eq_eq_not, Bool.not_true, Bool.not_false, gt_iff_lt, ge_iff_le, Int.not_lt, Int.not_le] at h10)
                have hr : ¬ (l.getD k 0 = 92 ∨ l.getD k 0 = 34 ∨ l.getD k 0 = 36 ∨ l.getD k 0 = 96) := by omega
                refine wc_skip ?_
                refine wq_seq ?_
                refine wc_region ?_
                refine wl_val (r_move rfl) (ltn rfl) ?_
                refine wl_val (r_move rfl) (ltn rfl) ?_
                refine wl_eff (e_lit_ints (k := .i32) (l := [_]) HL Try.underlying22 Try.sizeOf21 Try.zeroValue21 rfl rfl rfl (by decide)) (ltn rfl) ?_
                rintro l31 w31 H31
                refine wl_eff (e_append_ints H31.f2 ((H31).row_rd) Try.underlying22 (show (Try.prog.info? 21).map (fun i => (i.zero, i.size, i.bytes)) = some (some (.int .i32 0), 1, 4) by kernel_rfl) rfl rfl (by first | omega | (simp only [List.length_append, List.length_nil, List.length_cons]; omega) | (simp; omega)) (by first | omega | (simp only [List.length_append, List.length_nil, List.length_cons]; omega) | (simp; omega))) (ltn rfl) ?_
                rintro l32 w32 H32
                try simp only [List.nil_append] at H32
                refine wl_val (r_assign rfl) (ltn rfl) ?_
                refine wl_nil ?_
                refine wq_block_normal ?_
                refine wq_seq ?_
                refine wc_region ?_
                refine wl_val (r_add rfl rfl (by omega)) (ltn rfl) ?_
                refine wl_val (r_move rfl) (ltn rfl) ?_
                refine wl_nil ?_
                refine wq_round ((k + 1, l32)) ?_ ?_ ?_ ?_
                · exact (Sub.cons rfl (Sub.cons rfl (Sub.nil _)))
                · exact (Sub.cons rfl (Sub.cons rfl (Sub.nil _)))
                · (try dsimp only)
                  exact ⟨_, ⟨by omega, by subst hout; rw [flat_snoc hkl]; unfold enc2; first | (rw [if_pos hr, hr]; simp; done) | (rw [if_pos hr]; simp; done) | (rw [if_neg hr]; done) | (rw [if_neg hr]; simp; done)⟩, H32.f2.right⟩
                · (try dsimp only); omega
      · (try simp only [beq_iff_eq, bne_iff_ne, ne_eq, decide_eq_true_eq, decide_eq_false_iff_not, beq_eq_false_iff_ne, bne_eq_false_iff_eq, Bool.not_eq_true', Bool.not_eq_false', Bool.not_eq_eq_eq_not, Bool.not_true, Bool.not_false, gt_iff_lt, ge_iff_le, Int.not_lt, Int.not_le] at h6)
        
        refine wc_exit ?_
        refine wq_then_exit ?_
        refine wq_then_exit ?_
        refine wq_block_hit ?_
        refine wq_seq ?_
        have hle : out.length ≤ 4 * l.length + 1 := by rw [hout]; have := enc_len enc2_le (l.take k); rw [List.length_cons]; rw [List.length_take] at this; omega
        refine wc_region ?_
        refine wl_val (r_move rfl) (ltn rfl) ?_
        refine wl_eff (e_lit_ints (k := .i32) (l := [34]) HL Try.underlying22 Try.sizeOf21 Try.zeroValue21 rfl rfl rfl (by decide)) (ltn rfl) ?_
        rintro l33 w33 H33
        refine wl_eff (e_append_ints H33.f2 ((H33).row_rd) Try.underlying22 (show (Try.prog.info? 21).map (fun i => (i.zero, i.size, i.bytes)) = some (some (.int .i32 0), 1, 4) by kernel_rfl) rfl rfl (by first | omega | (simp only [List.length_append, List.length_nil, List.length_cons]; omega) | (simp; omega)) (by first | omega | (simp only [List.length_append, List.length_nil, List.length_cons]; omega) | (simp; omega))) (ltn rfl) ?_
        rintro l34 w34 H34
        try simp only [List.nil_append] at H34
        refine wl_val (r_assign rfl) (ltn rfl) ?_
        refine wl_nil ?_
        refine wq_block_normal ?_
        refine wq_seq ?_
        refine wc_seq ?_
        refine wc_seq ?_
        obtain ⟨ol, hol, HQ⟩ : ∃ ol, ol = quoteL st l ∧ Holds w0 w34 (RowI 21 .i32 l34 ol • F) := by
          refine ⟨_, ?_, H34.f2.right⟩
          unfold quoteL
          first
            | (rw [if_pos (by omega), hout, show k = l.length by omega, List.take_length]; done)
            | (rw [if_neg (by omega), if_pos (by omega), hout, show k = l.length by omega, List.take_length]; done)
            | (rw [if_neg (by omega), if_neg (by omega), if_pos (List.eq_nil_of_length_eq_zero (by omega))]; done)
            | (rw [if_neg (by omega), if_neg (by omega), if_neg (by intro q; subst q; simp at *), hout, show k = l.length by omega, List.take_length]; done)
        have hst : 1 ≤ st ∧ st ≤ 3 := by omega
        refine wc_region ?_
        refine wl_val (r_move rfl) (ltn rfl) ?_
        refine wl_val (r_lenR ((HQ).row_rd) Try.underlying22 rfl) (ltn rfl) ?_
        refine wl_val (r_gtr rfl rfl) (ltn rfl) ?_
        refine wl_nil ?_
        refine wq_seq ?_
        refine wc_cond rfl (fun h11 => ?_) (fun h11 => ?_)
        · (try simp only [beq_iff_eq, bne_iff_ne, ne_eq, decide_eq_true_eq, decide_eq_false_iff_not, beq_eq_false_iff_ne, bne_eq_false_iff_eq, Bool.not_eq_true', Bool.not_eq_false', Bool.not_eq_eq_eq_not, Bool.not_true, Bool.not_false, gt_iff_lt, ge_iff_le, Int.not_lt, Int.not_le] at h11)
          
          refine wc_seq ?_
          refine wc_region ?_
          refine wl_val (r_assign rfl) (ltn rfl) ?_
          refine wl_val (r_assign rfl) (ltn rfl) ?_
          refine wl_nil ?_
          refine wq_seq ?_
          refine wc_ret ?_
          refine wq_then_ret ?_
          refine wq_end2 (.inl rfl) Try.results16 rfl rfl ?_
          have hq : quoteE st l = 3 := by unfold quoteE; rw [if_neg (by omega), if_pos (by rw [← hol]; omega)]
          refine ⟨_, by rw [hq], ?_⟩
          unfold quoteR; rw [hq, if_neg (by decide)]; exact (HQ.right).row_nil none
        · (try simp only [beq_iff_eq, bne_iff_ne, ne_eq, decide_eq_true_eq, decide_eq_false_iff_not, beq_eq_false_iff_ne, bne_eq_false_iff_eq, Bool.not_eq_true', Bool.not_eq_false', Bool.not_eq_eq_eq_not, Bool.not_true, Bool.not_false, gt_iff_lt, ge_iff_le, Int.not_lt, Int.not_le] at h11)
          
          refine wc_skip ?_
          refine wq_seq ?_
          refine wc_seq ?_
          refine wc_region ?_
          refine wl_val (r_move rfl) (ltn rfl) ?_
          refine wl_val (r_assign rfl) (ltn rfl) ?_
          refine wl_val (r_assign rfl) (ltn rfl) ?_
          refine wl_nil ?_
          refine wq_seq ?_
          refine wc_ret ?_
          refine wq_end2 (.inl rfl) Try.results16 rfl rfl ?_
          have hq : quoteE st l = 0 := by unfold quoteE; rw [if_neg (by omega), if_neg (by rw [← hol]; omega)]
          refine ⟨_, by rw [hq], ?_⟩
          unfold quoteR; rw [hq, if_pos rfl, ← hol]; exact HQ
    · (try simp only [beq_iff_eq, bne_iff_ne, ne_eq, decide_eq_true_eq, decide_eq_false_iff_not, beq_eq_false_iff_ne, bne_eq_false_iff_eq, Bool.not_eq_true', Bool.not_eq_false', Bool.not_eq_eq_eq_not, Bool.not_true, Bool.not_false, gt_iff_lt, ge_iff_le, Int.not_lt, Int.not_le] at h5)
      
      refine wc_seq ?_
      refine wc_region ?_
      refine wl_val (r_eql rfl rfl) (ltn rfl) ?_
      refine wl_val (r_assign rfl) (ltn rfl) ?_
      refine wl_nil ?_
      refine wq_seq ?_
      refine wc_cond rfl (fun h12 => ?_) (fun h12 => ?_)
      · (try simp only [beq_iff_eq, bne_iff_ne, ne_eq, decide_eq_true_eq, decide_eq_false_iff_not, beq_eq_false_iff_ne, bne_eq_false_iff_eq, Bool.not_eq_true', Bool.not_eq_false', Bool.not_eq_eq_eq_not, Bool.not_true, Bool.not_false, gt_iff_lt, ge_iff_le, Int.not_lt, Int.not_le] at h12)
        
        refine wc_seq ?_
        refine wc_seq ?_
        refine wc_region ?_
        refine wl_val (r_move rfl) (ltn rfl) ?_
        refine wl_val (r_lenR (hv _ (H)) Try.underlying22 rfl) (ltn rfl) ?_
        refine wl_val (r_move rfl) (ltn rfl) ?_
        refine wl_nil ?_
        refine wq_seq ?_
        refine wc_block ?_
        refine wc_loop [(0, _), (76, _), (77, _)] (fun (⟨k, u⟩ : Nat × Value) => [(78, .int .i64 (k : Int)), (6, u)]) (fun (⟨k, u⟩ : Nat × Value) W => ∃ out, (k ≤ l.length ∧ out = (l.take k).flatMap enc3) ∧ Holds w0 W (RowI 21 .i32 u out • F)) (fun (⟨k, u⟩ : Nat × Value) => l.length - k) ((0, .slice none 0 0)) (Sub.cons rfl (Sub.cons rfl (Sub.cons rfl (Sub.nil _)))) (Sub.cons rfl (Sub.cons rfl (Sub.nil _))) ⟨_, ⟨by omega, rfl⟩, (H).row_nil none⟩ ?_
        rintro ⟨k, u⟩ w35 ⟨out, ⟨hk, hout⟩, HL⟩
        dsimp only [List.cons_append, List.nil_append]
        refine wc_seq ?_
        refine wc_region ?_
        refine wl_val (r_lss rfl rfl) (ltn rfl) ?_
        refine wl_nil ?_
        refine wq_seq ?_
        refine wc_seq ?_
        refine wc_cond rfl (fun h13 => ?_) (fun h13 => ?_)
        · (try simp only [beq_iff_eq, bne_iff_ne, ne_eq, decide_eq_true_eq, decide_eq_false_iff_not, beq_eq_false_iff_ne, bne_eq_false_iff_eq, Bool.not_eq_true', Bool.not_eq_false', Bool.not_eq_eq_eq_not, Bool.not_true, Bool.not_false, gt_iff_lt, ge_iff_le, Int.not_lt, Int.not_le] at h13)
          
          refine wc_skip ?_
          refine wq_seq ?_
          refine wc_seq ?_
          refine wc_block ?_
          refine wc_seq ?_
          have hkl : k < l.length := by omega
          have hle : out.length ≤ 4 * l.length + 1 := by rw [hout]; have := enc_len enc3_le (l.take k); rw [List.length_take] at this; omega
          refine wc_region ?_
          obtain ⟨bv, ov, cv, ev⟩ := RdI.posV (hv _ (HL.right)) (by omega)
          cases ev
          refine wl_val (r_index Try.underlying22 Try.sizeOf21 rfl rfl (by omega)) (ltn rfl) ?_
          refine wl_val (r_load (plain_of Try.underlying21 rfl) rfl (by first | exact RdI.at1n (hv _ (HL.right)) (by omega) | exact RdI.at0 (hv _ (HL.right)) (by omega) | exact RdI.at1 (hv _ (HL.right)) (by omega))) (ltn rfl) ?_
          refine wl_val (r_assign rfl) (ltn rfl) ?_
          refine wl_nil ?_
          refine wq_seq ?_
          refine wc_seq ?_
          refine wc_seq ?_
          refine wc_region ?_
          refine wl_val (r_move rfl) (ltn rfl) ?_
          refine wl_val (r_gtr rfl rfl) (ltn rfl) ?_
          refine wl_split rfl (ltn rfl) (fun h14 => ?_) (fun h14 => ?_)
          · (try simp only [beq_iff_eq, bne_iff_ne, ne_eq, decide_eq_true_eq, decide_eq_false_iff_not, beq_eq_false_iff_ne, bne_eq_false_iff_eq, Bool.not_eq_true', Bool.not_eq_false', Bool.not_eq_eq_eq_not, Bool.not_true, Bool.not_false, gt_iff_lt, ge_iff_le, Int.not_lt, Int.not_le] at h14)
            refine wl_yes rfl rfl ?_
            refine wl_val (r_move rfl) (ltn rfl) ?_
            refine wl_yes rfl rfl ?_
            refine wl_eff (e_call (r_call rfl Try.func33 rfl rfl) (contains_rune_ret HL (by decide) (by decide) (runs_at hl hkl))) (ltn rfl) ?_
            rintro _ w36 ⟨rfl, H36⟩
            rw [back_idx]
            refine wl_val (r_pick_t rfl rfl) (ltn rfl) ?_
            refine wl_nil ?_
            refine wq_seq ?_
            refine wc_cond rfl (fun h15 => ?_) (fun h15 => ?_)
            · (try simp only [beq_iff_eq, bne_iff_ne, ne_eq, decide_eq_true_eq, decide_eq_false_iff_not, beq_eq_false_iff_ne, bne_eq_false_iff_eq, Bool.not_eq_true', Bool.not_eq_false', Bool.not_eq_eq_eq_not, Bool.not_true, Bool.not_false, gt_iff_lt, ge_iff_le, Int.not_lt, Int.not_le] at h15)
              
              have hr : backS (l.getD k 0) = true := by assumption
              refine wc_region ?_
              refine wl_val (r_move rfl) (ltn rfl) ?_
              refine wl_eff (e_lit_ints (k := .i32) (l := [92]) H36 Try.underlying22 Try.sizeOf21 Try.zeroValue21 rfl rfl rfl (by decide)) (ltn rfl) ?_
              rintro l37 w37 H37
              refine wl_eff (e_append_ints H37.f2 ((H37).row_rd) Try.underlying22 (show (Try.prog.info? 21).map (fun i => (i.zero, i.size, i.bytes)) = some (some (.int .i32 0), 1, 4) by kernel_rfl) rfl rfl (by first | omega | (simp only [List.length_append, List.length_nil, List.length_cons]; omega) | (simp; omega)) (by first | omega | (simp only [List.length_append, List.length_nil, List.length_cons]; omega) | (simp; omega))) (ltn rfl) ?_
              rintro l38 w38 H38
              try simp only [List.nil_append] at H38
              refine wl_val (r_assign rfl) (ltn rfl) ?_
              refine wl_nil ?_
              refine wq_seq ?_
              refine wc_region ?_
              refine wl_val (r_move rfl) (ltn rfl) ?_
              refine wl_val (r_move rfl) (ltn rfl) ?_
              refine wl_eff (e_lit_ints (k := .i32) (l := [_]) H38 Try.underlying22 Try.sizeOf21 Try.zeroValue21 rfl rfl rfl (by decide)) (ltn rfl) ?_
              rintro l39 w39 H39
              refine wl_eff (e_append_ints H39.f2 ((H39).row_rd) Try.underlying22 (show (Try.prog.info? 21).map (fun i => (i.zero, i.size, i.bytes)) = some (some (.int .i32 0), 1, 4) by kernel_rfl) rfl rfl (by first | omega | (simp only [List.length_append, List.length_nil, List.length_cons]; omega) | (simp; omega)) (by first | omega | (simp only [List.length_append, List.length_nil, List.length_cons]; omega) | (simp; omega))) (ltn rfl) ?_
              rintro l40 w40 H40
              try simp only [List.nil_append] at H40
              refine wl_val (r_assign rfl) (ltn rfl) ?_
              refine wl_nil ?_
              refine wq_block_normal ?_
              refine wq_seq ?_
              refine wc_region ?_
              refine wl_val (r_add rfl rfl (by omega)) (ltn rfl) ?_
              refine wl_val (r_move rfl) (ltn rfl) ?_
              refine wl_nil ?_
              refine wq_round ((k + 1, l40)) ?_ ?_ ?_ ?_
              · exact (Sub.cons rfl (Sub.cons rfl (Sub.nil _)))
              · exact (Sub.cons rfl (Sub.cons rfl (Sub.cons rfl (Sub.nil _))))
              · (try dsimp only)
                exact ⟨_, ⟨by omega, by subst hout; rw [flat_snoc hkl]; unfold enc3; first | (rw [if_pos hr, hr]; simp; done) | (rw [if_pos hr]; simp; done) | (rw [if_neg hr]; done) | (rw [if_neg hr]; simp; done)⟩, H40.f2.right.f2.right⟩
              · (try dsimp only); omega
            · (try simp only [beq_iff_eq, bne_iff_ne, ne_eq, decide_eq_true_eq, decide_eq_false_iff_not, beq_eq_false_iff_ne, bne_eq_false_iff_eq, Bool.not_eq_true', Bool.not_eq_false', Bool.not_eq_eq_eq_not, Bool.not_true, Bool.not_false, gt_iff_lt, ge_iff_le, Int.not_lt, Int.not_le] at h15)
              have hr : ¬ backS (l.getD k 0) = true := fun q => by have := back_pos q; first | omega | simp_all
              refine wc_skip ?_
              refine wq_seq ?_
              refine wc_region ?_
              refine wl_val (r_move rfl) (ltn rfl) ?_
              refine wl_val (r_move rfl) (ltn rfl) ?_
              refine wl_eff (e_lit_ints (k := .i32) (l := [_]) H36 Try.underlying22 Try.sizeOf21 Try.zeroValue21 rfl rfl rfl (by decide)) (ltn rfl) ?_
              rintro l41 w41 H41
              refine wl_eff (e_append_ints H41.f2 ((H41).row_rd) Try.underlying22 (show (Try.prog.info? 21).map (fun i => (i.zero, i.size, i.bytes)) = some (some (.int .i32 0), 1, 4) by kernel_rfl) rfl rfl (by first | omega | (simp only [List.length_append, List.length_nil, List.length_cons]; omega) | (simp; omega)) (by first | omega | (simp only [List.length_append, List.length_nil, List.length_cons]; omega) | (simp; omega))) (ltn rfl) ?_
              rintro l42 w42 H42
              try simp only [List.nil_append] at H42
              refine wl_val (r_assign rfl) (ltn rfl) ?_
              refine wl_nil ?_
              refine wq_block_normal ?_
              refine wq_seq ?_
              refine wc_region ?_
              refine wl_val (r_add rfl rfl (by omega)) (ltn rfl) ?_
              refine wl_val (r_move rfl) (ltn rfl) ?_
              refine wl_nil ?_
              refine wq_round ((k + 1, l42)) ?_ ?_ ?_ ?_
              · exact (Sub.cons rfl (Sub.cons rfl (Sub.nil _)))
              · exact (Sub.cons rfl (Sub.cons rfl (Sub.cons rfl (Sub.nil _))))
              · (try dsimp only)
                exact ⟨_, ⟨by omega, by subst hout; rw [flat_snoc hkl]; unfold enc3; first | (rw [if_pos hr, hr]; simp; done) | (rw [if_pos hr]; simp; done) | (rw [if_neg hr]; done) | (rw [if_neg hr]; simp; done)⟩, H42.f2.right⟩
              · (try dsimp only); omega
          · (try simp only [beq_iff_eq, bne_iff_ne, ne_eq, decide_eq_true_eq, decide_eq_false_iff_not, beq_eq_false_iff_ne, bne_eq_false_iff_eq, Bool.not_eq_true', Bool.not_eq_false', Bool.not_eq_eq_eq_not, Bool.not_true, Bool.not_false, gt_iff_lt, ge_iff_le, Int.not_lt, Int.not_le] at h14)
            have hr : ¬ backS (l.getD k 0) = true := fun q => by have := back_pos q; omega
            refine wl_no rfl rfl rfl (ltn rfl) ?_
            refine wl_no rfl rfl rfl (ltn rfl) ?_
            refine wl_val (r_pick_f rfl rfl) (ltn rfl) ?_
            refine wl_nil ?_
            refine wq_seq ?_
            refine wc_cond_f rfl ?_
            refine wc_skip ?_
            refine wq_seq ?_
            refine wc_region ?_
            refine wl_val (r_move rfl) (ltn rfl) ?_
            refine wl_val (r_move rfl) (ltn rfl) ?_
            refine wl_eff (e_lit_ints (k := .i32) (l := [_]) HL Try.underlying22 Try.sizeOf21 Try.zeroValue21 rfl rfl rfl (by decide)) (ltn rfl) ?_
            rintro l43 w43 H43
            refine wl_eff (e_append_ints H43.f2 ((H43).row_rd) Try.underlying22 (show (Try.prog.info? 21).map (fun i => (i.zero, i.size, i.bytes)) = some (some (.int .i32 0), 1, 4) by kernel_rfl) rfl rfl (by first | omega | (simp only [List.length_append, List.length_nil, List.length_cons]; omega) | (simp; omega)) (by first | omega | (simp only [List.length_append, List.length_nil, List.length_cons]; omega) | (simp; omega))) (ltn rfl) ?_
            rintro l44 w44 H44
            try simp only [List.nil_append] at H44
            refine wl_val (r_assign rfl) (ltn rfl) ?_
            refine wl_nil ?_
            refine wq_block_normal ?_
            refine wq_seq ?_
            refine wc_region ?_
            refine wl_val (r_add rfl rfl (by omega)) (ltn rfl) ?_
            refine wl_val (r_move rfl) (ltn rfl) ?_
            refine wl_nil ?_
            refine wq_round ((k + 1, l44)) ?_ ?_ ?_ ?_
            · exact (Sub.cons rfl (Sub.cons rfl (Sub.nil _)))
            · exact (Sub.cons rfl (Sub.cons rfl (Sub.cons rfl (Sub.nil _))))
            · (try dsimp only)
              exact ⟨_, ⟨by omega, by subst hout; rw [flat_snoc hkl]; unfold enc3; first | (rw [if_pos hr, hr]; simp; done) | (rw [if_pos hr]; simp; done) | (rw [if_neg hr]; done) | (rw [if_neg hr]; simp; done)⟩, H44.f2.right⟩
            · (try dsimp only); omega
        · (try simp only [beq_iff_eq, bne_iff_ne, ne_eq, decide_eq_true_eq, decide_eq_false_iff_not, beq_eq_false_iff_ne, bne_eq_false_iff_eq, Bool.not_eq_true', Bool.not_eq_false', Bool.not_eq_eq_eq_not, Bool.not_true, Bool.not_false, gt_iff_lt, ge_iff_le, Int.not_lt, Int.not_le] at h13)
          
          refine wc_exit ?_
          refine wq_then_exit ?_
          refine wq_then_exit ?_
          refine wq_block_hit ?_
          refine wq_seq ?_
          refine wc_seq ?_
          refine wc_region ?_
          refine wl_val (r_move rfl) (ltn rfl) ?_
          refine wl_val (r_lenR (hv _ (HL.right)) Try.underlying22 rfl) (ltn rfl) ?_
          refine wl_val (r_eql rfl rfl) (ltn rfl) ?_
          refine wl_nil ?_
          refine wq_seq ?_
          refine wc_cond rfl (fun h16 => ?_) (fun h16 => ?_)
          · (try simp only [beq_iff_eq, bne_iff_ne, ne_eq, decide_eq_true_eq, decide_eq_false_iff_not, beq_eq_false_iff_ne, bne_eq_false_iff_eq, Bool.not_eq_true', Bool.not_eq_false', Bool.not_eq_eq_eq_not, Bool.not_true, Bool.not_false, gt_iff_lt, ge_iff_le, Int.not_lt, Int.not_le] at h16)
            
            refine wc_region ?_
            refine wl_eff (e_call (r_call rfl Try.func34 rfl rfl) (sh_runes_ret HL (l := [39, 39]) (by kernel_rfl) (by decide))) (ltn rfl) ?_
            rintro u45 w45 H45
            refine wl_val (r_assign rfl) (ltn rfl) ?_
            refine wl_nil ?_
            refine wq_block_normal ?_
            refine wq_seq ?_
            refine wc_seq ?_
            refine wc_seq ?_
            obtain ⟨ol, hol, HQ⟩ : ∃ ol, ol = quoteL st l ∧ Holds w0 w45 (RowI 21 .i32 u45 ol • F) := by
              refine ⟨_, ?_, H45.f2.right⟩
              unfold quoteL
              first
                | (rw [if_pos (by omega), hout, show k = l.length by omega, List.take_length]; done)
                | (rw [if_neg (by omega), if_pos (by omega), hout, show k = l.length by omega, List.take_length]; done)
                | (rw [if_neg (by omega), if_neg (by omega), if_pos (List.eq_nil_of_length_eq_zero (by omega))]; done)
                | (rw [if_neg (by omega), if_neg (by omega), if_neg (by intro q; subst q; simp at *), hout, show k = l.length by omega, List.take_length]; done)
            have hst : 1 ≤ st ∧ st ≤ 3 := by omega
            refine wc_region ?_
            refine wl_val (r_move rfl) (ltn rfl) ?_
            refine wl_val (r_lenR ((HQ).row_rd) Try.underlying22 rfl) (ltn rfl) ?_
            refine wl_val (r_gtr rfl rfl) (ltn rfl) ?_
            refine wl_nil ?_
            refine wq_seq ?_
            refine wc_cond rfl (fun h17 => ?_) (fun h17 => ?_)
            · (try simp only [beq_iff_eq, bne_iff_ne, ne_eq, decide_eq_true_eq, decide_eq_false_iff_not, beq_eq_false_iff_ne, bne_eq_false_iff_eq, Bool.not_eq_true', Bool.not_eq_false', Bool.not_eq_eq_eq_not, Bool.not_true, Bool.not_false, gt_iff_lt, ge_iff_le, Int.not_lt, Int.not_le] at h17)
              
              refine wc_seq ?_
              refine wc_region ?_
              refine wl_val (r_assign rfl) (ltn rfl) ?_
              refine wl_val (r_assign rfl) (ltn rfl) ?_
              refine wl_nil ?_
              refine wq_seq ?_
              refine wc_ret ?_
              refine wq_then_ret ?_
              refine wq_end2 (.inl rfl) Try.results16 rfl rfl ?_
              have hq : quoteE st l = 3 := by unfold quoteE; rw [if_neg (by omega), if_pos (by rw [← hol]; omega)]
              refine ⟨_, by rw [hq], ?_⟩
              unfold quoteR; rw [hq, if_neg (by decide)]; exact (HQ.right).row_nil none
            · (try simp only [beq_iff_eq, bne_iff_ne, ne_eq, decide_eq_true_eq, decide_eq_false_iff_not, beq_eq_false_iff_ne, bne_eq_false_iff_eq, Bool.not_eq_true', Bool.not_eq_false', Bool.not_eq_eq_eq_not, Bool.not_true, Bool.not_false, gt_iff_lt, ge_iff_le, Int.not_lt, Int.not_le] at h17)
              
              refine wc_skip ?_
              refine wq_seq ?_
              refine wc_seq ?_
              refine wc_region ?_
              refine wl_val (r_move rfl) (ltn rfl) ?_
              refine wl_val (r_assign rfl) (ltn rfl) ?_
              refine wl_val (r_assign rfl) (ltn rfl) ?_
              refine wl_nil ?_
              refine wq_seq ?_
              refine wc_ret ?_
              refine wq_end2 (.inl rfl) Try.results16 rfl rfl ?_
              have hq : quoteE st l = 0 := by unfold quoteE; rw [if_neg (by omega), if_neg (by rw [← hol]; omega)]
              refine ⟨_, by rw [hq], ?_⟩
              unfold quoteR; rw [hq, if_pos rfl, ← hol]; exact HQ
          · (try simp only [beq_iff_eq, bne_iff_ne, ne_eq, decide_eq_true_eq, decide_eq_false_iff_not, beq_eq_false_iff_ne, bne_eq_false_iff_eq, Bool.not_eq_true', Bool.not_eq_false', Bool.not_eq_eq_eq_not, Bool.not_true, Bool.not_false, gt_iff_lt, ge_iff_le, Int.not_lt, Int.not_le] at h16)
            
            refine wc_skip ?_
            refine wq_block_normal ?_
            refine wq_seq ?_
            refine wc_seq ?_
            refine wc_seq ?_
            obtain ⟨ol, hol, HQ⟩ : ∃ ol, ol = quoteL st l ∧ Holds w0 w35 (RowI 21 .i32 u ol • F) := by
              refine ⟨_, ?_, HL⟩
              unfold quoteL
              first
                | (rw [if_pos (by omega), hout, show k = l.length by omega, List.take_length]; done)
                | (rw [if_neg (by omega), if_pos (by omega), hout, show k = l.length by omega, List.take_length]; done)
                | (rw [if_neg (by omega), if_neg (by omega), if_pos (List.eq_nil_of_length_eq_zero (by omega))]; done)
                | (rw [if_neg (by omega), if_neg (by omega), if_neg (by intro q; subst q; simp at *), hout, show k = l.length by omega, List.take_length]; done)
            have hst : 1 ≤ st ∧ st ≤ 3 := by omega
            refine wc_region ?_
            refine wl_val (r_move rfl) (ltn rfl) ?_
            refine wl_val (r_lenR ((HQ).row_rd) Try.underlying22 rfl) (ltn rfl) ?_
            refine wl_val (r_gtr rfl rfl) (ltn rfl) ?_
            refine wl_nil ?_
            refine wq_seq ?_
            refine wc_cond rfl (fun h18 => ?_) (fun h18 => ?_)
            · (try simp only [beq_iff_eq, bne_iff_ne, ne_eq, decide_eq_true_eq, decide_eq_false_iff_not, beq_eq_false_iff_ne, bne_eq_false_iff_eq, Bool.not_eq_true', Bool.not_eq_false', Bool.not_eq_eq_eq_not, Bool.not_true, Bool.not_false, gt_iff_lt, ge_iff_le, Int.not_lt, Int.not_le] at h18)
              
              refine wc_seq ?_
              refine wc_region ?_
              refine wl_val (r_assign rfl) (ltn rfl) ?_
              refine wl_val (r_assign rfl) (ltn rfl) ?_
              refine wl_nil ?_
              refine wq_seq ?_
              refine wc_ret ?_
              refine wq_then_ret ?_
              refine wq_end2 (.inl rfl) Try.results16 rfl rfl ?_
              have hq : quoteE st l = 3 := by unfold quoteE; rw [if_neg (by omega), if_pos (by rw [← hol]; omega)]
              refine ⟨_, by rw [hq], ?_⟩
              unfold quoteR; rw [hq, if_neg (by decide)]; exact (HQ.right).row_nil none
            · (try simp only [beq_iff_eq, bne_iff_ne, ne_eq, decide_eq_true_eq, decide_eq_false_iff_not, beq_eq_false_iff_ne, bne_eq_false_iff_eq, Bool.not_eq_true', Bool.not_eq_false', Bool.not_eq_eq_eq_not, Bool.not_true, Bool.not_false, gt_iff_lt, ge_iff_le, Int.not_lt, Int.not_le] at h18)
              
              refine wc_skip ?_
              refine wq_seq ?_
              refine wc_seq ?_
              refine wc_region ?_
              refine wl_val (r_move rfl) (ltn rfl) ?_
              refine wl_val (r_assign rfl) (ltn rfl) ?_
              refine wl_val (r_assign rfl) (ltn rfl) ?_
              refine wl_nil ?_
              refine wq_seq ?_
              refine wc_ret ?_
              refine wq_end2 (.inl rfl) Try.results16 rfl rfl ?_
              have hq : quoteE st l = 0 := by unfold quoteE; rw [if_neg (by omega), if_neg (by rw [← hol]; omega)]
              refine ⟨_, by rw [hq], ?_⟩
              unfold quoteR; rw [hq, if_pos rfl, ← hol]; exact HQ
      · (try simp only [beq_iff_eq, bne_iff_ne, ne_eq, decide_eq_true_eq, decide_eq_false_iff_not, beq_eq_false_iff_ne, bne_eq_false_iff_eq, Bool.not_eq_true', Bool.not_eq_false', Bool.not_eq_eq_eq_not, Bool.not_true, Bool.not_false, gt_iff_lt, ge_iff_le, Int.not_lt, Int.not_le] at h12)
        
        refine wc_seq ?_
        refine wc_region ?_
        refine wl_val (r_assign rfl) (ltn rfl) ?_
        refine wl_val (r_assign rfl) (ltn rfl) ?_
        refine wl_nil ?_
        refine wq_seq ?_
        refine wc_ret ?_
        refine wq_block_ret ?_
        refine wq_then_ret ?_
        refine wq_end2 (.inl rfl) Try.results16 rfl rfl ?_
        have hq : quoteE st l = 1 := by unfold quoteE; rw [if_pos (by omega)]
        refine ⟨_, by rw [hq], ?_⟩
        unfold quoteR; rw [hq, if_neg (by decide)]; exact (H).row_nil none
end
end Go.Proofs.Ytgoopiakpbcgoaa
