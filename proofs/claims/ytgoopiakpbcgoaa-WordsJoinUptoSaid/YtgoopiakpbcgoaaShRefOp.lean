/- The document's operators, walked. -/
import Derived.Test.YtgoopiakpbcgoaaShRef
import Derived.Test.YtgoopiakpbcgoaaShOp
set_option linter.unusedSimpArgs false
set_option linter.unusedVariables false
namespace Go.Proofs.Ytgoopiakpbcgoaa
open Go.RowKit Go.Lib
def opsR : List (List Int) := [[60, 60, 45], [60, 60, 60], [38, 62], [60, 60], [60, 62], [62, 62], [62, 38], [60, 38], [62, 124], [38, 38], [124, 124], [59, 59], [59, 38], [124, 38]]
theorem opIn_two (l : List Int) (i : Nat) : ∀ B : List (List Int), (∀ o ∈ B, o.length = 2) → opIn l i B = if B.any (standsS l i) then 2 else 1
  | [], _ => rfl
  | o :: B, h => by
    unfold opIn
    by_cases hs : standsS l i o = true
    · rw [if_pos hs, List.any_cons, hs, h o (by simp)]; rfl
    · rw [if_neg hs, opIn_two l i B (fun x hx => h x (by simp [hx])), List.any_cons]
      simp [hs]
theorem any_perm {B C : List (List Int)} (p : List Int → Bool) (h : ∀ o, o ∈ B ↔ o ∈ C) : B.any p = C.any p := by
  rw [Bool.eq_iff_iff, List.any_eq_true, List.any_eq_true]
  exact ⟨fun ⟨x, a, b⟩ => ⟨x, (h x).1 a, b⟩, fun ⟨x, a, b⟩ => ⟨x, (h x).2 a, b⟩⟩
theorem opsR_eq (l : List Int) (i : Nat) : opIn l i opsR = opS l i := by
  have e1 : opIn l i (opsR.drop 2) = opIn l i (opsL.drop 2) := by
    rw [opIn_two l i _ (by decide), opIn_two l i _ (by decide), any_perm (B := opsR.drop 2) (C := opsL.drop 2) _ (fun o => ?_)]
    simp only [opsR, opsL, List.drop_succ_cons, List.drop_zero, List.mem_cons, List.mem_nil_iff, or_false]
    constructor <;> (rintro (h | h | h | h | h | h | h | h | h | h | h | h) <;> simp [h])
  show (if standsS l i [60, 60, 45] then _ else if standsS l i [60, 60, 60] then _ else opIn l i (opsR.drop 2)) = (if standsS l i [60, 60, 45] then _ else if standsS l i [60, 60, 60] then _ else opIn l i (opsL.drop 2))
  rw [e1]
def opRs : List Value := opsR.map fun o => .string (utf8 o)
theorem opRs_at {k : Nat} (h : k < 14) : opRs.getD k undef = .string (utf8 (opsR.getD k [])) := by
  unfold opRs
  rw [List.getD_eq_getElem?_getD, List.getD_eq_getElem?_getD, List.getElem?_map, List.getElem?_eq_getElem (by exact h)]; rfl
theorem opR_size : ∀ k, k < 14 → (utf8 (opsR.getD k [])).size = (opsR.getD k []).length ∧ (opsR.getD k []).length ≤ 3 := by decide +kernel
theorem opR_byte : ∀ k, k < 14 → ∀ j, j < (opsR.getD k []).length → sb (utf8 (opsR.getD k [])) j = (opsR.getD k []).getD j 0 := by decide +kernel
theorem opRs_lit : ([.string ⟨#[60, 60, 45]⟩, .string ⟨#[60, 60, 60]⟩, .string ⟨#[38, 62]⟩, .string ⟨#[60, 60]⟩, .string ⟨#[60, 62]⟩, .string ⟨#[62, 62]⟩, .string ⟨#[62, 38]⟩, .string ⟨#[60, 38]⟩, .string ⟨#[62, 124]⟩, .string ⟨#[38, 38]⟩, .string ⟨#[124, 124]⟩, .string ⟨#[59, 59]⟩, .string ⟨#[59, 38]⟩, .string ⟨#[124, 38]⟩] : List Value) = opRs := by
  unfold opRs opsR utf8; rfl
theorem opR_drop {k : Nat} (h : k < 14) : opsR.drop k = opsR.getD k [] :: opsR.drop (k + 1) := by
  rw [List.drop_eq_getElem_cons (by exact h), List.getD_eq_getElem?_getD, List.getElem?_eq_getElem (by exact h)]; rfl
theorem stands_iff {l o : List Int} {i : Nat} : standsS l i o = true ↔ (i + o.length ≤ l.length ∧ ∀ j, j < o.length → l.getD (i + j) 0 = o.getD j 0 ∧ quoS l (i + j) = 0) := by
  unfold standsS
  rw [decide_eq_true_eq]
  constructor
  · rintro ⟨a, b, c⟩
    refine ⟨a, fun j hj => ⟨?_, c j hj⟩⟩
    have := congrArg (fun x => x.getD j 0) b
    rw [cut_at hj] at this
    exact this
  · rintro ⟨a, b⟩
    refine ⟨a, List.ext_getElem (by rw [List.length_take, List.length_drop]; omega) fun j h1 h2 => ?_, fun j hj => (b j hj).2⟩
    have := (b j h2).1
    rw [List.getD_eq_getElem?_getD, List.getD_eq_getElem?_getD, List.getElem?_eq_getElem h2, List.getElem?_eq_getElem (by omega)] at this
    rw [List.getElem_take, List.getElem_drop]
    simpa using this
section
variable {w0 w : World} {F : HP} {v u : Value} {l : List Int} {i : Nat}
theorem ref_ops_ret (H : Holds w0 w F) : Ret Try.prog 48 #[] w fun v' w' => Holds w0 w' (Row 9 1 v' 14 opRs • F) := by
  refine ret_enter Try.func48 rfl Try.ntmps48 (Nat.le_of_ble_eq_true rfl) ?_
  dsimp only [slots0, Nat.reduceAdd]
  refine wc_seq ?_
  refine wc_region ?_
  refine wl_val (r_assign rfl) (ltn rfl) ?_
  refine wl_nil ?_
  refine wq_seq ?_
  refine wc_seq ?_
  refine wc_region ?_
  refine wl_eff (e_lit_row (vs := [_, _, _, _, _, _, _, _, _, _, _, _, _, _]) H Try.underlying62 Try.sizeOf9 Try.zeroValue9 rfl rfl rfl (by decide) (ones_cons (by first | rfl | assumption) (ones_cons (by first | rfl | assumption) (ones_cons (by first | rfl | assumption) (ones_cons (by first | rfl | assumption) (ones_cons (by first | rfl | assumption) (ones_cons (by first | rfl | assumption) (ones_cons (by first | rfl | assumption) (ones_cons (by first | rfl | assumption) (ones_cons (by first | rfl | assumption) (ones_cons (by first | rfl | assumption) (ones_cons (by first | rfl | assumption) (ones_cons (by first | rfl | assumption) (ones_cons (by first | rfl | assumption) (ones_cons (by first | rfl | assumption) ones_nil))))))))))))))) (ltn rfl) ?_
  rintro l1 w1 H1
  refine wl_val (r_assign rfl) (ltn rfl) ?_
  refine wl_nil ?_
  refine wq_seq ?_
  refine wc_ret ?_
  refine wq_end1 (.inl rfl) Try.results48 rfl ?_
  rw [← opRs_lit]
  exact H1
theorem ref_starts_ret {o : Nat} (ho : o < 14) (H : Holds w0 w F) (hv : FRdI w0 F .i32 v l) (hu : FRdI w0 F .i64 u (statesS l)) (hL : l.length ≤ 4294967296) (hi : i < l.length) : Ret Try.prog 49 #[v, u, .int .i64 (i : Int), .string (utf8 (opsR.getD o []))] w fun v' w' => v' = .bool (standsS l i (opsR.getD o [])) ∧ Holds w0 w' F := by
  have hsl := statesS_len l
  obtain ⟨os1, os2⟩ := opR_size o ho
  have hby := opR_byte o ho
  refine ret_enter Try.func49 rfl Try.ntmps49 (Nat.le_of_ble_eq_true rfl) ?_
  dsimp only [slots0, Nat.reduceAdd]
  refine wc_seq ?_
  refine wc_region ?_
  refine wl_val (r_assign rfl) (ltn rfl) ?_
  refine wl_nil ?_
  refine wq_seq ?_
  refine wc_seq ?_
  refine wc_seq ?_
  refine wc_region ?_
  refine wl_val (r_move rfl) (ltn rfl) ?_
  refine wl_val (r_len_str Try.underlying9 rfl) (ltn rfl) ?_
  refine wl_val (r_move rfl) (ltn rfl) ?_
  refine wl_val (r_lenR (hv _ (H)) Try.underlying22 rfl) (ltn rfl) ?_
  refine wl_val (r_move rfl) (ltn rfl) ?_
  refine wl_val (r_sub rfl rfl (by omega)) (ltn rfl) ?_
  refine wl_val (r_gtr rfl rfl) (ltn rfl) ?_
  refine wl_nil ?_
  refine wq_seq ?_
  refine wc_cond rfl (fun h1 => ?_) (fun h1 => ?_)
  · (try simp only [beq_iff_eq, bne_iff_ne, ne_eq, decide_eq_true_eq, decide_eq_false_iff_not, beq_eq_false_iff_ne, bne_eq_false_iff_eq, Bool.not_eq_true', Bool.not_eq_false', Bool.not_eq_eq_eq_not, Bool.not_true, Bool.not_false, gt_iff_lt, ge_iff_le, Int.not_lt, Int.not_le] at h1)
    
    refine wc_seq ?_
    refine wc_region ?_
    refine wl_val (r_assign rfl) (ltn rfl) ?_
    refine wl_nil ?_
    refine wq_seq ?_
    refine wc_ret ?_
    refine wq_then_ret ?_
    refine wq_end1 (.inl rfl) Try.results49 rfl ?_
    refine ⟨?_, H⟩; congr 1; symm; rw [Bool.eq_false_iff, ne_eq, stands_iff]; rintro ⟨qa, qb⟩; omega
  · (try simp only [beq_iff_eq, bne_iff_ne, ne_eq, decide_eq_true_eq, decide_eq_false_iff_not, beq_eq_false_iff_ne, bne_eq_false_iff_eq, Bool.not_eq_true', Bool.not_eq_false', Bool.not_eq_eq_eq_not, Bool.not_true, Bool.not_false, gt_iff_lt, ge_iff_le, Int.not_lt, Int.not_le] at h1)
    
    refine wc_skip ?_
    refine wq_seq ?_
    refine wc_seq ?_
    refine wc_seq ?_
    refine wc_region ?_
    refine wl_val (r_assign rfl) (ltn rfl) ?_
    refine wl_nil ?_
    refine wq_seq ?_
    refine wc_block ?_
    refine wc_loop [(0, _), (1, _), (2, _), (3, _)] (fun (k : Nat) => [(9, .int .i64 (k : Int))]) (fun (k : Nat) W => (k ≤ (opsR.getD o []).length ∧ ∀ j, j < k → l.getD (i + j) 0 = (opsR.getD o []).getD j 0 ∧ quoS l (i + j) = 0) ∧ Holds w0 W F) (fun (k : Nat) => (opsR.getD o []).length - k) (0) (Sub.cons rfl (Sub.cons rfl (Sub.cons rfl (Sub.cons rfl (Sub.nil _))))) (Sub.cons rfl (Sub.nil _)) ⟨⟨by omega, fun j hj => absurd hj (Nat.not_lt_zero _)⟩, H⟩ ?_
    rintro k w1 ⟨⟨hk, hj⟩, HL⟩
    dsimp only [List.cons_append, List.nil_append]
    refine wc_seq ?_
    refine wc_seq ?_
    refine wc_region ?_
    refine wl_val (r_move rfl) (ltn rfl) ?_
    refine wl_val (r_move rfl) (ltn rfl) ?_
    refine wl_val (r_len_str Try.underlying9 rfl) (ltn rfl) ?_
    refine wl_val (r_lss rfl rfl) (ltn rfl) ?_
    refine wl_nil ?_
    refine wq_seq ?_
    refine wc_cond rfl (fun h2 => ?_) (fun h2 => ?_)
    · (try simp only [beq_iff_eq, bne_iff_ne, ne_eq, decide_eq_true_eq, decide_eq_false_iff_not, beq_eq_false_iff_ne, bne_eq_false_iff_eq, Bool.not_eq_true', Bool.not_eq_false', Bool.not_eq_eq_eq_not, Bool.not_true, Bool.not_false, gt_iff_lt, ge_iff_le, Int.not_lt, Int.not_le] at h2)
      
      refine wc_skip ?_
      refine wq_seq ?_
      refine wc_seq ?_
      refine wc_block ?_
      refine wc_seq ?_
      have hkl : k < (opsR.getD o []).length := by omega
      have hil : i + (opsR.getD o []).length ≤ l.length := by omega
      have hb9 := sb_in (utf8 (opsR.getD o [])) k
      rw [hby k hkl] at hb9
      have H6d1 := HL.drew
      have hS6d1 := Holds.kp (H6d1)
      refine wd_beginK [5, 8, 17] hS6d1 (by kernel_rfl) (by kernel_rfl) rfl ?_
      refine wd_takeT 0 rfl (by kernel_rfl) (by kernel_rfl) hS6d1 (fun _ => r_move rfl) (ltn rfl) ?_
      refine wd_takeT 1 rfl (by kernel_rfl) (by kernel_rfl) hS6d1 (fun _ => r_move rfl) (ltn rfl) ?_
      refine wd_takeT 2 rfl (by kernel_rfl) (by kernel_rfl) hS6d1 (fun _ => r_move rfl) (ltn rfl) ?_
      refine wd_takeT 3 rfl (by kernel_rfl) (by kernel_rfl) hS6d1 (fun _ => r_as (r_add rfl rfl (by omega)) (show Value.int .i64 ((i : Int) + (k : Int)) = .int .i64 ((i + k : Nat) : Int) by rw [Int.natCast_add])) (ltn rfl) ?_
      obtain ⟨bv, ov, cv, ev⟩ := RdI.posV (hv _ (H6d1)) (by omega)
      cases ev
      refine wd_takeT 4 rfl (by kernel_rfl) (by kernel_rfl) hS6d1 (fun _ => r_index Try.underlying22 Try.sizeOf21 rfl rfl (by omega)) (ltn rfl) ?_
      refine wd_take 5 rfl (by kernel_rfl) (by kernel_rfl) hS6d1 (by decide) (fun W hW => r_load (plain_of Try.underlying21 rfl) rfl (by first | exact RdI.at1n (hv _ ((Kp.h hW))) (by omega) | exact RdI.at0 (hv _ ((Kp.h hW))) (by omega) | exact RdI.at1 (hv _ ((Kp.h hW))) (by omega))) (ltn rfl) ?_
      refine wd_takeT 6 rfl (by kernel_rfl) (by kernel_rfl) hS6d1 (fun _ => r_move rfl) (ltn rfl) ?_
      refine wd_takeT 7 rfl (by kernel_rfl) (by kernel_rfl) hS6d1 (fun _ => r_move rfl) (ltn rfl) ?_
      refine wd_take 8 rfl (by kernel_rfl) (by kernel_rfl) hS6d1 (by decide) (fun W hW => r_as (r_index_str Try.underlying9 rfl rfl (by omega)) (show Value.int .u8 (sb (utf8 (opsR.getD o [])) (k : Int).toNat) = .int .u8 ((opsR.getD o []).getD k 0) by rw [Int.toNat_natCast, hby k hkl])) (ltn rfl) ?_
      refine wd_takeT 9 rfl (by kernel_rfl) (by kernel_rfl) hS6d1 (fun _ => r_conv_int rfl (by rw [Try.underlying5]; rfl) Try.underlying21 (fit_i32 (by omega))) (ltn rfl) ?_
      refine wd_takeT 10 rfl (by kernel_rfl) (by kernel_rfl) hS6d1 (fun _ => r_neq rfl rfl) (ltn rfl) ?_
      refine wd_split 11 rfl rfl (by kernel_rfl) (by kernel_rfl) hS6d1 (ltn rfl) (fun h3 => ?_) (fun h3 => ?_)
      · (try simp only [beq_iff_eq, bne_iff_ne, ne_eq, decide_eq_true_eq, decide_eq_false_iff_not, beq_eq_false_iff_ne, bne_eq_false_iff_eq, Bool.not_eq_true', Bool.not_eq_false', Bool.not_eq_eq_eq_not, Bool.not_true, Bool.not_false, gt_iff_lt, ge_iff_le, Int.not_lt, Int.not_le] at h3)
        refine wd_no 12 rfl rfl rfl rfl (by kernel_rfl) (by kernel_rfl) hS6d1 (ltn rfl) ?_
        refine wd_no 13 rfl rfl rfl rfl (by kernel_rfl) (by kernel_rfl) hS6d1 (ltn rfl) ?_
        refine wd_no 14 rfl rfl rfl rfl (by kernel_rfl) (by kernel_rfl) hS6d1 (ltn rfl) ?_
        refine wd_no 15 rfl rfl rfl rfl (by kernel_rfl) (by kernel_rfl) hS6d1 (ltn rfl) ?_
        refine wd_no 16 rfl rfl rfl rfl (by kernel_rfl) (by kernel_rfl) hS6d1 (ltn rfl) ?_
        refine wd_no 17 rfl rfl rfl rfl (by kernel_rfl) (by kernel_rfl) hS6d1 (ltn rfl) ?_
        refine wd_no 18 rfl rfl rfl rfl (by kernel_rfl) (by kernel_rfl) hS6d1 (ltn rfl) ?_
        refine wd_takeT 19 rfl (by kernel_rfl) (by kernel_rfl) hS6d1 (fun _ => r_pick_t rfl rfl) (ltn rfl) ?_
        refine wd_done (by kernel_rfl) ?_
        refine wq_seq ?_
        refine wc_cond_t rfl ?_
        refine wc_seq ?_
        refine wc_region ?_
        refine wl_val (r_assign rfl) (ltn rfl) ?_
        refine wl_nil ?_
        refine wq_seq ?_
        refine wc_ret ?_
        refine wq_block_ret ?_
        refine wq_then_ret ?_
        refine wq_then_ret ?_
        refine wq_block_ret ?_
        refine wq_then_ret ?_
        refine wq_end1 (.inl rfl) Try.results49 rfl ?_
        refine ⟨?_, H6d1⟩; congr 1; symm; rw [Bool.eq_false_iff, ne_eq, stands_iff]; rintro ⟨qa, qb⟩; have qc := qb k hkl; first | exact absurd qc.1 (by assumption) | exact absurd qc.2 (by assumption)
      · (try simp only [beq_iff_eq, bne_iff_ne, ne_eq, decide_eq_true_eq, decide_eq_false_iff_not, beq_eq_false_iff_ne, bne_eq_false_iff_eq, Bool.not_eq_true', Bool.not_eq_false', Bool.not_eq_eq_eq_not, Bool.not_true, Bool.not_false, gt_iff_lt, ge_iff_le, Int.not_lt, Int.not_le] at h3)
        refine wd_takeT_yes 12 rfl rfl rfl (by kernel_rfl) (by kernel_rfl) hS6d1 (fun _ => r_move rfl) (ltn rfl) ?_
        refine wd_takeT_yes 13 rfl rfl rfl (by kernel_rfl) (by kernel_rfl) hS6d1 (fun _ => r_move rfl) (ltn rfl) ?_
        refine wd_takeT_yes 14 rfl rfl rfl (by kernel_rfl) (by kernel_rfl) hS6d1 (fun _ => r_move rfl) (ltn rfl) ?_
        refine wd_takeT_yes 15 rfl rfl rfl (by kernel_rfl) (by kernel_rfl) hS6d1 (fun _ => r_as (r_add rfl rfl (by omega)) (show Value.int .i64 ((i : Int) + (k : Int)) = .int .i64 ((i + k : Nat) : Int) by rw [Int.natCast_add])) (ltn rfl) ?_
        obtain ⟨bu, ou, cu, eu⟩ := RdI.posV (hu _ (H6d1)) (by omega)
        cases eu
        refine wd_takeT_yes 16 rfl rfl rfl (by kernel_rfl) (by kernel_rfl) hS6d1 (fun _ => r_index Try.underlying47 Try.sizeOf3 rfl rfl (by omega)) (ltn rfl) ?_
        refine wd_take_yes 17 rfl rfl rfl (by kernel_rfl) (by kernel_rfl) hS6d1 (by decide) (fun W hW => r_as (r_load (plain_of Try.underlying3 rfl) rfl (by first | exact RdI.at1n (hu _ ((Kp.h hW))) (by omega) | exact RdI.at0 (hu _ ((Kp.h hW))) (by omega) | exact RdI.at1 (hu _ ((Kp.h hW))) (by omega))) (show Value.int .i64 ((statesS l).getD (i + k) 0) = .int .i64 (quoS l (i + k)) by rw [statesS_at (by omega)])) (ltn rfl) ?_
        refine wd_takeT_yes 18 rfl rfl rfl (by kernel_rfl) (by kernel_rfl) hS6d1 (fun _ => r_neq rfl rfl) (ltn rfl) ?_
        refine wd_takeT 19 rfl (by kernel_rfl) (by kernel_rfl) hS6d1 (fun _ => r_pick_f rfl rfl) (ltn rfl) ?_
        refine wd_done (by kernel_rfl) ?_
        refine wq_seq ?_
        refine wc_cond rfl (fun h4 => ?_) (fun h4 => ?_)
        · (try simp only [beq_iff_eq, bne_iff_ne, ne_eq, decide_eq_true_eq, decide_eq_false_iff_not, beq_eq_false_iff_ne, bne_eq_false_iff_eq, Bool.not_eq_true', Bool.not_eq_false', Bool.not_eq_eq_eq_not, Bool.not_true, Bool.not_false, gt_iff_lt, ge_iff_le, Int.not_lt, Int.not_le] at h4)
          
          refine wc_seq ?_
          refine wc_region ?_
          refine wl_val (r_assign rfl) (ltn rfl) ?_
          refine wl_nil ?_
          refine wq_seq ?_
          refine wc_ret ?_
          refine wq_block_ret ?_
          refine wq_then_ret ?_
          refine wq_then_ret ?_
          refine wq_block_ret ?_
          refine wq_then_ret ?_
          refine wq_end1 (.inl rfl) Try.results49 rfl ?_
          refine ⟨?_, H6d1⟩; congr 1; symm; rw [Bool.eq_false_iff, ne_eq, stands_iff]; rintro ⟨qa, qb⟩; have qc := qb k hkl; first | exact absurd qc.1 (by assumption) | exact absurd qc.2 (by assumption)
        · (try simp only [beq_iff_eq, bne_iff_ne, ne_eq, decide_eq_true_eq, decide_eq_false_iff_not, beq_eq_false_iff_ne, bne_eq_false_iff_eq, Bool.not_eq_true', Bool.not_eq_false', Bool.not_eq_eq_eq_not, Bool.not_true, Bool.not_false, gt_iff_lt, ge_iff_le, Int.not_lt, Int.not_le] at h4)
          
          refine wc_skip ?_
          refine wq_block_normal ?_
          refine wq_seq ?_
          refine wc_region ?_
          refine wl_val (r_move rfl) (ltn rfl) ?_
          refine wl_val (r_add rfl rfl (by omega)) (ltn rfl) ?_
          refine wl_val (r_assign rfl) (ltn rfl) ?_
          refine wl_nil ?_
          refine wq_round (k + 1) ?_ ?_ ?_ ?_
          · exact (Sub.cons rfl (Sub.nil _))
          · exact (Sub.cons rfl (Sub.cons rfl (Sub.cons rfl (Sub.cons rfl (Sub.nil _)))))
          · (try dsimp only)
            exact ⟨⟨by omega, fun j h9 => by rcases Nat.lt_succ_iff_lt_or_eq.1 h9 with h9 | rfl; exact hj j h9; exact ⟨by assumption, by omega⟩⟩, H6d1⟩
          · (try dsimp only); omega
    · (try simp only [beq_iff_eq, bne_iff_ne, ne_eq, decide_eq_true_eq, decide_eq_false_iff_not, beq_eq_false_iff_ne, bne_eq_false_iff_eq, Bool.not_eq_true', Bool.not_eq_false', Bool.not_eq_eq_eq_not, Bool.not_true, Bool.not_false, gt_iff_lt, ge_iff_le, Int.not_lt, Int.not_le] at h2)
      
      refine wc_exit ?_
      refine wq_then_exit ?_
      refine wq_then_exit ?_
      refine wq_block_hit ?_
      refine wq_seq ?_
      refine wc_seq ?_
      refine wc_region ?_
      refine wl_val (r_assign rfl) (ltn rfl) ?_
      refine wl_nil ?_
      refine wq_seq ?_
      refine wc_ret ?_
      refine wq_end1 (.inl rfl) Try.results49 rfl ?_
      refine ⟨?_, HL⟩; congr 1; symm; rw [stands_iff]; exact ⟨by omega, fun j h9 => hj j (by omega)⟩
theorem ref_oper_ret (H : Holds w0 w F) (hv : FRdI w0 F .i32 v l) (hu : FRdI w0 F .i64 u (statesS l)) (hL : l.length ≤ 4294967296) (hi : i < l.length) : Ret Try.prog 43 #[v, u, .int .i64 (i : Int)] w fun v' w' => v' = .int .i64 (opS l i : Nat) ∧ Holds w0 w' F := by
  refine ret_enter Try.func43 rfl Try.ntmps43 (Nat.le_of_ble_eq_true rfl) ?_
  dsimp only [slots0, Nat.reduceAdd]
  refine wc_seq ?_
  refine wc_region ?_
  refine wl_val (r_assign rfl) (ltn rfl) ?_
  refine wl_nil ?_
  refine wq_seq ?_
  refine wc_seq ?_
  refine wc_region ?_
  refine wl_eff (e_call (r_call rfl Try.func48 rfl rfl) (ref_ops_ret H)) (ltn rfl) ?_
  rintro u1 w1 H1
  refine wl_val (r_assign rfl) (ltn rfl) ?_
  refine wl_nil ?_
  refine wq_seq ?_
  refine wc_seq ?_
  refine wc_seq ?_
  refine wc_region ?_
  refine wl_val (r_assign rfl) (ltn rfl) ?_
  refine wl_nil ?_
  refine wq_seq ?_
  refine wc_block ?_
  obtain ⟨au1, cu1, eu1, -⟩ := ((H1).row_rd).form
  subst eu1
  refine wc_loop [(0, _), (1, _), (2, _), (7, _)] (fun (k : Nat) => [(8, .int .i64 (k : Int))]) (fun (k : Nat) W => (k ≤ 14 ∧ opS l i = opIn l i (opsR.drop k)) ∧ Holds w0 W (Row 9 1 (.slice au1 14 cu1) 14 opRs • F)) (fun (k : Nat) => 14 - k) (0) (Sub.cons rfl (Sub.cons rfl (Sub.cons rfl (Sub.cons rfl (Sub.nil _))))) (Sub.cons rfl (Sub.nil _)) ⟨⟨by omega, (opsR_eq l i).symm⟩, H1⟩ ?_
  rintro k w3 ⟨⟨hk, hop⟩, HL⟩
  dsimp only [List.cons_append, List.nil_append]
  refine wc_seq ?_
  refine wc_seq ?_
  refine wc_region ?_
  refine wl_val (r_move rfl) (ltn rfl) ?_
  refine wl_val (r_move rfl) (ltn rfl) ?_
  refine wl_val (r_len Try.underlying62 rfl) (ltn rfl) ?_
  refine wl_val (r_lss rfl rfl) (ltn rfl) ?_
  refine wl_nil ?_
  refine wq_seq ?_
  refine wc_cond rfl (fun h1 => ?_) (fun h1 => ?_)
  · (try simp only [beq_iff_eq, bne_iff_ne, ne_eq, decide_eq_true_eq, decide_eq_false_iff_not, beq_eq_false_iff_ne, bne_eq_false_iff_eq, Bool.not_eq_true', Bool.not_eq_false', Bool.not_eq_eq_eq_not, Bool.not_true, Bool.not_false, gt_iff_lt, ge_iff_le, Int.not_lt, Int.not_le] at h1)
    
    refine wc_skip ?_
    refine wq_seq ?_
    refine wc_seq ?_
    refine wc_block ?_
    refine wc_seq ?_
    have hkl : k < 14 := by omega
    have hos := opR_size k hkl
    refine wc_region ?_
    refine wl_val (r_move rfl) (ltn rfl) ?_
    refine wl_val (r_move rfl) (ltn rfl) ?_
    refine wl_val (r_move rfl) (ltn rfl) ?_
    refine wl_val (r_move rfl) (ltn rfl) ?_
    refine wl_val (r_move rfl) (ltn rfl) ?_
    obtain ⟨bu1, ou1, rfl⟩ := Rd.pos ((HL).row_rd) (by omega)
    refine wl_val (r_index Try.underlying62 Try.sizeOf9 rfl rfl (by omega)) (ltn rfl) ?_
    refine wl_val (r_as (r_load (plain_of Try.underlying9 rfl) rfl (by first | exact Rd.at1n ((HL).row_rd) (by omega) | exact Rd.at0 ((HL).row_rd) (by omega) | exact Rd.at1 ((HL).row_rd) (by omega))) (opRs_at hkl)) (ltn rfl) ?_
    refine wl_eff (e_call (r_call rfl Try.func49 rfl rfl) (ref_starts_ret hkl HL (fun W HW => hv W HW.right) (fun W HW => hu W HW.right) hL hi)) (ltn rfl) ?_
    rintro _ w4 ⟨rfl, H4⟩
    refine wl_nil ?_
    refine wq_seq ?_
    refine wc_cond rfl (fun h2 => ?_) (fun h2 => ?_)
    · (try simp only [beq_iff_eq, bne_iff_ne, ne_eq, decide_eq_true_eq, decide_eq_false_iff_not, beq_eq_false_iff_ne, bne_eq_false_iff_eq, Bool.not_eq_true', Bool.not_eq_false', Bool.not_eq_eq_eq_not, Bool.not_true, Bool.not_false, gt_iff_lt, ge_iff_le, Int.not_lt, Int.not_le] at h2)
      have hyes : standsS l i (opsR.getD k []) = true := h2
      refine wc_seq ?_
      refine wc_region ?_
      refine wl_val (r_move rfl) (ltn rfl) ?_
      refine wl_val (r_move rfl) (ltn rfl) ?_
      refine wl_val (r_index Try.underlying62 Try.sizeOf9 rfl rfl (by omega)) (ltn rfl) ?_
      refine wl_val (r_as (r_load (plain_of Try.underlying9 rfl) rfl (by first | exact Rd.at1n ((H4).row_rd) (by omega) | exact Rd.at0 ((H4).row_rd) (by omega) | exact Rd.at1 ((H4).row_rd) (by omega))) (opRs_at hkl)) (ltn rfl) ?_
      refine wl_val (r_as (r_len_str Try.underlying9 rfl) (show Value.int .i64 ((utf8 (opsR.getD k [])).size : Nat) = .int .i64 ((opsR.getD k []).length : Nat) by rw [hos.1])) (ltn rfl) ?_
      refine wl_val (r_assign rfl) (ltn rfl) ?_
      refine wl_nil ?_
      refine wq_seq ?_
      refine wc_ret ?_
      refine wq_block_ret ?_
      refine wq_then_ret ?_
      refine wq_then_ret ?_
      refine wq_block_ret ?_
      refine wq_then_ret ?_
      refine wq_end1 (.inl rfl) Try.results43 rfl ?_
      refine ⟨?_, H4.right⟩; rw [hop, opR_drop hkl, opIn, if_pos hyes]
    · (try simp only [beq_iff_eq, bne_iff_ne, ne_eq, decide_eq_true_eq, decide_eq_false_iff_not, beq_eq_false_iff_ne, bne_eq_false_iff_eq, Bool.not_eq_true', Bool.not_eq_false', Bool.not_eq_eq_eq_not, Bool.not_true, Bool.not_false, gt_iff_lt, ge_iff_le, Int.not_lt, Int.not_le] at h2)
      have hno : ¬ standsS l i (opsR.getD k []) = true := by simpa using h2
      refine wc_skip ?_
      refine wq_block_normal ?_
      refine wq_seq ?_
      refine wc_region ?_
      refine wl_val (r_move rfl) (ltn rfl) ?_
      refine wl_val (r_add rfl rfl (by omega)) (ltn rfl) ?_
      refine wl_val (r_assign rfl) (ltn rfl) ?_
      refine wl_nil ?_
      refine wq_round (k + 1) ?_ ?_ ?_ ?_
      · exact (Sub.cons rfl (Sub.nil _))
      · exact (Sub.cons rfl (Sub.cons rfl (Sub.cons rfl (Sub.cons rfl (Sub.nil _)))))
      · (try dsimp only)
        exact ⟨⟨by omega, by rw [hop, opR_drop hkl, opIn, if_neg hno]⟩, H4⟩
      · (try dsimp only); omega
  · (try simp only [beq_iff_eq, bne_iff_ne, ne_eq, decide_eq_true_eq, decide_eq_false_iff_not, beq_eq_false_iff_ne, bne_eq_false_iff_eq, Bool.not_eq_true', Bool.not_eq_false', Bool.not_eq_eq_eq_not, Bool.not_true, Bool.not_false, gt_iff_lt, ge_iff_le, Int.not_lt, Int.not_le] at h1)
    
    refine wc_exit ?_
    refine wq_then_exit ?_
    refine wq_then_exit ?_
    refine wq_block_hit ?_
    refine wq_seq ?_
    refine wc_seq ?_
    refine wc_region ?_
    refine wl_val (r_assign rfl) (ltn rfl) ?_
    refine wl_nil ?_
    refine wq_seq ?_
    refine wc_ret ?_
    refine wq_end1 (.inl rfl) Try.results43 rfl ?_
    obtain rfl : k = 14 := by omega
    refine ⟨?_, HL.right⟩; rw [hop]; rfl
end
end Go.Proofs.Ytgoopiakpbcgoaa
