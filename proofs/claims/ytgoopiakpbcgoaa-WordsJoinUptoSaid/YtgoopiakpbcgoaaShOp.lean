/- shwords: digits, operators, walked. -/
import Derived.Test.YtgoopiakpbcgoaaShW2
set_option linter.unusedSimpArgs false
set_option linter.unusedVariables false
namespace Go.Proofs.Ytgoopiakpbcgoaa
open Go.RowKit Go.Lib
theorem utf8_foldl (l : List Int) : ∀ s : ByteArray, (l.foldl (fun s n => s ++ Utf8.encode n) s).data.toList = s.data.toList ++ (l.map fun n => (Utf8.encode n).data.toList).flatten := by
  induction l with
  | nil => intro s; simp
  | cons x l ih => intro s; rw [List.foldl_cons, ih]; simp [ByteArray.data_append]
theorem utf8_list (l : List Int) : (utf8 l).toList = (l.map fun n => (Utf8.encode n).data.toList).flatten := by
  rw [ByteArray.toList_eq]; unfold utf8; exact (utf8_foldl l _).trans (by simp)
theorem enc_small {r : Int} (h : 0 ≤ r ∧ r < 128) : (Utf8.encode r).data.toList = [r.toNat.toUInt8] := by
  have hv : Utf8.valid r = true := by rw [valid_kit, decide_eq_true_eq]; omega
  unfold Utf8.encode
  rw [if_pos hv, if_pos (by omega)]
theorem enc_ne (r : Int) : ∃ b bs, (Utf8.encode r).data.toList = b :: bs ∧ (¬ (0 ≤ r ∧ r < 128) → 128 ≤ b.toNat) := by
  unfold Utf8.encode
  by_cases hv : Utf8.valid r = true
  · rw [if_pos hv]
    rw [valid_kit, decide_eq_true_eq] at hv
    by_cases h : r.toNat < 128
    · rw [if_pos h]; exact ⟨_, _, rfl, fun q => by omega⟩
    · rw [if_neg h]
      split
      · refine ⟨_, _, rfl, fun _ => ?_⟩
        show 128 ≤ (UInt8.ofNat (192 + r.toNat / 64)).toNat
        simp; omega
      · split
        · refine ⟨_, _, rfl, fun _ => ?_⟩
          show 128 ≤ (UInt8.ofNat (224 + r.toNat / 4096)).toNat
          simp; omega
        · refine ⟨_, _, rfl, fun _ => ?_⟩
          show 128 ≤ (UInt8.ofNat (240 + r.toNat / 262144)).toNat
          simp; omega
  · rw [if_neg hv]; exact ⟨_, _, rfl, fun _ => by decide⟩
/-- A text of runes below 128 is no other runes' text. -/
theorem utf8_inj : ∀ {o x : List Int}, (∀ r ∈ o, 0 ≤ r ∧ r < 128) → (x.map fun n => (Utf8.encode n).data.toList).flatten = (o.map fun n => (Utf8.encode n).data.toList).flatten → x = o
  | [], [], _, _ => rfl
  | [], r :: x, _, h => by obtain ⟨b, bs, e, _⟩ := enc_ne r; simp [e] at h
  | r :: o, [], _, h => by obtain ⟨b, bs, e, _⟩ := enc_ne r; simp [e] at h
  | r :: o, y :: x, ho, h => by
    have hr := ho r (by simp)
    simp only [List.map_cons, List.flatten_cons, enc_small hr] at h
    by_cases hy : 0 ≤ y ∧ y < 128
    · rw [enc_small hy] at h
      simp only [List.cons_append, List.nil_append, List.cons.injEq] at h
      have e : y = r := by
        have := congrArg UInt8.toNat h.1
        simp at this; omega
      rw [e, utf8_inj (fun q hq => ho q (by simp [hq])) h.2]
    · obtain ⟨b, bs, e, hb⟩ := enc_ne y
      rw [e] at h
      simp only [List.cons_append, List.nil_append, List.cons.injEq] at h
      have := hb hy
      rw [h.1] at this
      simp at this; omega
theorem utf8_eq {o x : List Int} (ho : ∀ r ∈ o, 0 ≤ r ∧ r < 128) : ((utf8 x).toList == (utf8 o).toList) = decide (x = o) := by
  rw [utf8_list, utf8_list, Bool.eq_iff_iff, beq_iff_eq, decide_eq_true_eq]
  exact ⟨utf8_inj ho, fun h => by rw [h]⟩
theorem ops_small : ∀ o ∈ opsL, ∀ r ∈ o, 0 ≤ r ∧ r < 128 := by decide
theorem ops_mem {k : Nat} (h : k < 14) : opsL.getD k [] ∈ opsL := by
  rw [List.getD_eq_getElem?_getD, List.getElem?_eq_getElem (by exact h)]; exact List.getElem_mem _
def opVs : List Value := opsL.map fun o => .string (utf8 o)
theorem opVs_at {k : Nat} (h : k < 14) : opVs.getD k undef = .string (utf8 (opsL.getD k [])) := by
  unfold opVs
  rw [List.getD_eq_getElem?_getD, List.getD_eq_getElem?_getD, List.getElem?_map, List.getElem?_eq_getElem (by exact h)]; rfl
theorem op_size : ∀ k, k < 14 → (utf8 (opsL.getD k [])).size = (opsL.getD k []).length ∧ (opsL.getD k []).length ≤ 3 := by decide +kernel
theorem opVs_lit : ([.string ⟨#[60, 60, 45]⟩, .string ⟨#[60, 60, 60]⟩, .string ⟨#[38, 62]⟩, .string ⟨#[60, 60]⟩, .string ⟨#[62, 62]⟩, .string ⟨#[62, 38]⟩, .string ⟨#[60, 38]⟩, .string ⟨#[60, 62]⟩, .string ⟨#[62, 124]⟩, .string ⟨#[38, 38]⟩, .string ⟨#[124, 124]⟩, .string ⟨#[59, 59]⟩, .string ⟨#[59, 38]⟩, .string ⟨#[124, 38]⟩] : List Value) = opVs := by
  unfold opVs opsL utf8; rfl
theorem op_drop {k : Nat} (h : k < 14) : opsL.drop k = opsL.getD k [] :: opsL.drop (k + 1) := by
  rw [List.drop_eq_getElem_cons (by exact h), List.getD_eq_getElem?_getD, List.getElem?_eq_getElem (by exact h)]; rfl
section
variable {w0 w : World} {F : HP} {v u : Value} {l : List Int} {i : Nat}
theorem operators_ret (H : Holds w0 w F) : Ret Try.prog 45 #[] w fun v' w' => Holds w0 w' (Row 9 1 v' 14 opVs • F) := by
  refine ret_enter Try.func45 rfl Try.ntmps45 (Nat.le_of_ble_eq_true rfl) ?_
  dsimp only [slots0, Nat.reduceAdd]
  refine wc_seq ?_
  refine wc_region ?_
  refine wl_val (r_assign rfl) (ltn rfl) ?_
  refine wl_nil ?_
  refine wq_seq ?_
  refine wc_seq ?_
  refine wc_region ?_
  refine wl_eff (e_lit_row (vs := [_, _, _, _, _, _, _, _, _, _, _, _, _, _]) H Try.underlying62 Try.sizeOf9 Try.zeroValue9 rfl rfl rfl (by decide) (ones_cons (by first | rfl | assumption) (ones_cons (by first | rfl | assumption) (ones_cons (by first | rfl | assumption) (ones_cons (by first | rfl | assumption) (ones_cons (by first | rfl | assumption) (ones_cons (by first | rfl | assumption) (ones_cons (by first | rfl | assumption) (ones_cons (by first | rfl | assumption) (ones_cons (by first | rfl | assumption) (ones_cons (by first | rfl | assumption) (ones_cons (by first | rfl | assumption) (ones_cons (by first | rfl | assumption) (ones_cons (by first | rfl | assumption) (ones_cons (by first | rfl | assumption) ones_nil))))))))))))))) (ltn rfl) ?_
  rintro l1 w1 H1
  refine wl_val (r_assign rfl) (ltn rfl) ?_
  refine wl_nil ?_
  refine wq_seq ?_
  refine wc_ret ?_
  refine wq_end1 (.inl rfl) Try.results45 rfl ?_
  rw [← opVs_lit]
  exact H1
theorem digits_ret (H : Holds w0 w F) (hv : FRdI w0 F .i32 v l) (hu : FRdI w0 F .i64 u (statesS l)) (hL : l.length ≤ 4294967296) (hi : i ≤ l.length) : Ret Try.prog 28 #[v, u, .int .i64 (i : Int)] w fun v' w' => v' = .int .i64 (digS l i : Nat) ∧ Holds w0 w' F := by
  have hsl := statesS_len l
  refine ret_enter Try.func28 rfl Try.ntmps28 (Nat.le_of_ble_eq_true rfl) ?_
  dsimp only [slots0, Nat.reduceAdd]
  refine wc_seq ?_
  refine wc_region ?_
  refine wl_val (r_assign rfl) (ltn rfl) ?_
  refine wl_nil ?_
  refine wq_seq ?_
  refine wc_seq ?_
  refine wc_region ?_
  refine wl_val (r_assign rfl) (ltn rfl) ?_
  refine wl_nil ?_
  refine wq_seq ?_
  refine wc_seq ?_
  refine wc_block ?_
  refine wc_loop [(0, _), (1, _), (2, _)] (fun (n : Nat) => [(7, .int .i64 (n : Int))]) (fun (n : Nat) W => (n ≤ l.length ∧ i + n ≤ l.length ∧ digN l i = n + digN l (i + n)) ∧ Holds w0 W F) (fun (n : Nat) => l.length - n) (0) (Sub.cons rfl (Sub.cons rfl (Sub.cons rfl (Sub.nil _)))) (Sub.cons rfl (Sub.nil _)) ⟨⟨by omega, by omega, by rw [Nat.add_zero, Nat.zero_add]⟩, H⟩ ?_
  rintro n w1 ⟨⟨hn, hin, hd⟩, HL⟩
  dsimp only [List.cons_append, List.nil_append]
  refine wc_seq ?_
  refine wc_seq ?_
  refine wc_region ?_
  refine wl_val (r_move rfl) (ltn rfl) ?_
  refine wl_val (r_move rfl) (ltn rfl) ?_
  refine wl_val (r_as (r_add rfl rfl (by omega)) (show Value.int .i64 ((i : Int) + (n : Int)) = .int .i64 ((i + n : Nat) : Int) by rw [Int.natCast_add])) (ltn rfl) ?_
  refine wl_val (r_move rfl) (ltn rfl) ?_
  refine wl_val (r_lenR (hv _ (HL)) Try.underlying22 rfl) (ltn rfl) ?_
  refine wl_val (r_lss rfl rfl) (ltn rfl) ?_
  refine wl_split rfl (ltn rfl) (fun h1 => ?_) (fun h1 => ?_)
  · (try simp only [beq_iff_eq, bne_iff_ne, ne_eq, decide_eq_true_eq, decide_eq_false_iff_not, beq_eq_false_iff_ne, bne_eq_false_iff_eq, Bool.not_eq_true', Bool.not_eq_false', Bool.not_eq_eq_eq_not, Bool.not_true, Bool.not_false, gt_iff_lt, ge_iff_le, Int.not_lt, Int.not_le] at h1)
    refine wl_yes rfl rfl ?_
    refine wl_val (r_move rfl) (ltn rfl) ?_
    refine wl_yes rfl rfl ?_
    refine wl_val (r_move rfl) (ltn rfl) ?_
    refine wl_yes rfl rfl ?_
    refine wl_val (r_move rfl) (ltn rfl) ?_
    refine wl_yes rfl rfl ?_
    refine wl_val (r_as (r_add rfl rfl (by omega)) (show Value.int .i64 ((i : Int) + (n : Int)) = .int .i64 ((i + n : Nat) : Int) by rw [Int.natCast_add])) (ltn rfl) ?_
    refine wl_yes rfl rfl ?_
    obtain ⟨bv, ov, cv, ev⟩ := RdI.posV (hv _ (HL)) (by omega)
    cases ev
    refine wl_val (r_index Try.underlying22 Try.sizeOf21 rfl rfl (by omega)) (ltn rfl) ?_
    refine wl_yes rfl rfl ?_
    refine wl_val (r_load (plain_of Try.underlying21 rfl) rfl (by first | exact RdI.at1n (hv _ (HL)) (by omega) | exact RdI.at0 (hv _ (HL)) (by omega) | exact RdI.at1 (hv _ (HL)) (by omega))) (ltn rfl) ?_
    refine wl_yes rfl rfl ?_
    refine wl_val (r_geq rfl rfl) (ltn rfl) ?_
    refine wl_val (r_pick_t rfl rfl) (ltn rfl) ?_
    refine wl_split rfl (ltn rfl) (fun h2 => ?_) (fun h2 => ?_)
    · (try simp only [beq_iff_eq, bne_iff_ne, ne_eq, decide_eq_true_eq, decide_eq_false_iff_not, beq_eq_false_iff_ne, bne_eq_false_iff_eq, Bool.not_eq_true', Bool.not_eq_false', Bool.not_eq_eq_eq_not, Bool.not_true, Bool.not_false, gt_iff_lt, ge_iff_le, Int.not_lt, Int.not_le] at h2)
      refine wl_yes rfl rfl ?_
      refine wl_val (r_move rfl) (ltn rfl) ?_
      refine wl_yes rfl rfl ?_
      refine wl_val (r_move rfl) (ltn rfl) ?_
      refine wl_yes rfl rfl ?_
      refine wl_val (r_move rfl) (ltn rfl) ?_
      refine wl_yes rfl rfl ?_
      refine wl_val (r_as (r_add rfl rfl (by omega)) (show Value.int .i64 ((i : Int) + (n : Int)) = .int .i64 ((i + n : Nat) : Int) by rw [Int.natCast_add])) (ltn rfl) ?_
      refine wl_yes rfl rfl ?_
      refine wl_val (r_index Try.underlying22 Try.sizeOf21 rfl rfl (by omega)) (ltn rfl) ?_
      refine wl_yes rfl rfl ?_
      refine wl_val (r_load (plain_of Try.underlying21 rfl) rfl (by first | exact RdI.at1n (hv _ (HL)) (by omega) | exact RdI.at0 (hv _ (HL)) (by omega) | exact RdI.at1 (hv _ (HL)) (by omega))) (ltn rfl) ?_
      refine wl_yes rfl rfl ?_
      refine wl_val (r_leq rfl rfl) (ltn rfl) ?_
      refine wl_val (r_pick_t rfl rfl) (ltn rfl) ?_
      refine wl_split rfl (ltn rfl) (fun h3 => ?_) (fun h3 => ?_)
      · (try simp only [beq_iff_eq, bne_iff_ne, ne_eq, decide_eq_true_eq, decide_eq_false_iff_not, beq_eq_false_iff_ne, bne_eq_false_iff_eq, Bool.not_eq_true', Bool.not_eq_false', Bool.not_eq_eq_eq_not, Bool.not_true, Bool.not_false, gt_iff_lt, ge_iff_le, Int.not_lt, Int.not_le] at h3)
        refine wl_yes rfl rfl ?_
        refine wl_val (r_move rfl) (ltn rfl) ?_
        refine wl_yes rfl rfl ?_
        refine wl_val (r_move rfl) (ltn rfl) ?_
        refine wl_yes rfl rfl ?_
        refine wl_val (r_move rfl) (ltn rfl) ?_
        refine wl_yes rfl rfl ?_
        refine wl_val (r_as (r_add rfl rfl (by omega)) (show Value.int .i64 ((i : Int) + (n : Int)) = .int .i64 ((i + n : Nat) : Int) by rw [Int.natCast_add])) (ltn rfl) ?_
        refine wl_yes rfl rfl ?_
        obtain ⟨bu, ou, cu, eu⟩ := RdI.posV (hu _ (HL)) (by omega)
        cases eu
        refine wl_val (r_index Try.underlying47 Try.sizeOf3 rfl rfl (by omega)) (ltn rfl) ?_
        refine wl_yes rfl rfl ?_
        refine wl_val (r_as (r_load (plain_of Try.underlying3 rfl) rfl (by first | exact RdI.at1n (hu _ (HL)) (by omega) | exact RdI.at0 (hu _ (HL)) (by omega) | exact RdI.at1 (hu _ (HL)) (by omega))) (show Value.int .i64 ((statesS l).getD (i + n) 0) = .int .i64 (quoS l (i + n)) by rw [statesS_at (by omega)])) (ltn rfl) ?_
        refine wl_yes rfl rfl ?_
        refine wl_val (r_eql rfl rfl) (ltn rfl) ?_
        refine wl_val (r_pick_t rfl rfl) (ltn rfl) ?_
        refine wl_nil ?_
        refine wq_seq ?_
        refine wc_cond rfl (fun h4 => ?_) (fun h4 => ?_)
        · (try simp only [beq_iff_eq, bne_iff_ne, ne_eq, decide_eq_true_eq, decide_eq_false_iff_not, beq_eq_false_iff_ne, bne_eq_false_iff_eq, Bool.not_eq_true', Bool.not_eq_false', Bool.not_eq_eq_eq_not, Bool.not_true, Bool.not_false, gt_iff_lt, ge_iff_le, Int.not_lt, Int.not_le] at h4)
          
          refine wc_skip ?_
          refine wq_seq ?_
          refine wc_block ?_
          have hdg : isDig l (i + n) = true := by unfold isDig; rw [decide_eq_true_eq]; omega
          refine wc_region ?_
          refine wl_val (r_move rfl) (ltn rfl) ?_
          refine wl_val (r_add rfl rfl (by omega)) (ltn rfl) ?_
          refine wl_val (r_assign rfl) (ltn rfl) ?_
          refine wl_nil ?_
          refine wq_block_normal ?_
          refine wq_round (n + 1) ?_ ?_ ?_ ?_
          · exact (Sub.cons rfl (Sub.nil _))
          · exact (Sub.cons rfl (Sub.cons rfl (Sub.cons rfl (Sub.nil _))))
          · (try dsimp only)
            exact ⟨⟨by omega, by omega, by rw [hd, digN_step hdg]; rw [show i + n + 1 = i + (n + 1) by omega]; omega⟩, HL⟩
          · (try dsimp only); omega
        · (try simp only [beq_iff_eq, bne_iff_ne, ne_eq, decide_eq_true_eq, decide_eq_false_iff_not, beq_eq_false_iff_ne, bne_eq_false_iff_eq, Bool.not_eq_true', Bool.not_eq_false', Bool.not_eq_eq_eq_not, Bool.not_true, Bool.not_false, gt_iff_lt, ge_iff_le, Int.not_lt, Int.not_le] at h4)
          
          refine wc_exit ?_
          refine wq_then_exit ?_
          refine wq_then_exit ?_
          refine wq_block_hit ?_
          refine wq_seq ?_
          refine wc_seq ?_
          refine wc_seq ?_
          have hdz : isDig l (i + n) = false := by unfold isDig; rw [decide_eq_false_iff_not]; omega
          rw [digN_stop hdz, Nat.add_zero] at hd
          refine wc_region ?_
          refine wl_val (r_move rfl) (ltn rfl) ?_
          refine wl_val (r_eql rfl rfl) (ltn rfl) ?_
          refine wl_split rfl (ltn rfl) (fun h5 => ?_) (fun h5 => ?_)
          · (try simp only [beq_iff_eq, bne_iff_ne, ne_eq, decide_eq_true_eq, decide_eq_false_iff_not, beq_eq_false_iff_ne, bne_eq_false_iff_eq, Bool.not_eq_true', Bool.not_eq_false', Bool.not_eq_eq_eq_not, Bool.not_true, Bool.not_false, gt_iff_lt, ge_iff_le, Int.not_lt, Int.not_le] at h5)
            refine wl_no rfl rfl rfl (ltn rfl) ?_
            refine wl_no rfl rfl rfl (ltn rfl) ?_
            refine wl_no rfl rfl rfl (ltn rfl) ?_
            refine wl_no rfl rfl rfl (ltn rfl) ?_
            refine wl_no rfl rfl rfl (ltn rfl) ?_
            refine wl_no rfl rfl rfl (ltn rfl) ?_
            refine wl_val (r_pick_t rfl rfl) (ltn rfl) ?_
            refine wl_val (r_move rfl) (ltn rfl) ?_
            refine wl_no rfl rfl rfl (ltn rfl) ?_
            refine wl_no rfl rfl rfl (ltn rfl) ?_
            refine wl_no rfl rfl rfl (ltn rfl) ?_
            refine wl_no rfl rfl rfl (ltn rfl) ?_
            refine wl_no rfl rfl rfl (ltn rfl) ?_
            refine wl_no rfl rfl rfl (ltn rfl) ?_
            refine wl_no rfl rfl rfl (ltn rfl) ?_
            refine wl_val (r_pick_t rfl rfl) (ltn rfl) ?_
            refine wl_val (r_move rfl) (ltn rfl) ?_
            refine wl_no rfl rfl rfl (ltn rfl) ?_
            refine wl_no rfl rfl rfl (ltn rfl) ?_
            refine wl_no rfl rfl rfl (ltn rfl) ?_
            refine wl_no rfl rfl rfl (ltn rfl) ?_
            refine wl_no rfl rfl rfl (ltn rfl) ?_
            refine wl_no rfl rfl rfl (ltn rfl) ?_
            refine wl_no rfl rfl rfl (ltn rfl) ?_
            refine wl_no rfl rfl rfl (ltn rfl) ?_
            refine wl_nou rfl rfl (ltn rfl) ?_
            refine wl_nou rfl rfl (ltn rfl) ?_
            refine wl_nou rfl rfl (ltn rfl) ?_
            refine wl_nou rfl rfl (ltn rfl) ?_
            refine wl_nou rfl rfl (ltn rfl) ?_
            refine wl_nou rfl rfl (ltn rfl) ?_
            refine wl_nou rfl rfl (ltn rfl) ?_
            refine wl_no rfl rfl rfl (ltn rfl) ?_
            refine wl_val (r_pick_t rfl rfl) (ltn rfl) ?_
            refine wl_nil ?_
            refine wq_seq ?_
            refine wc_cond_t rfl ?_
            refine wc_seq ?_
            refine wc_region ?_
            refine wl_val (r_assign rfl) (ltn rfl) ?_
            refine wl_nil ?_
            refine wq_seq ?_
            refine wc_ret ?_
            refine wq_then_ret ?_
            refine wq_end1 (.inl rfl) Try.results28 rfl ?_
            refine ⟨?_, HL⟩; unfold digS; rw [hd, if_pos (by unfold noDig; omega)]; rfl
          · (try simp only [beq_iff_eq, bne_iff_ne, ne_eq, decide_eq_true_eq, decide_eq_false_iff_not, beq_eq_false_iff_ne, bne_eq_false_iff_eq, Bool.not_eq_true', Bool.not_eq_false', Bool.not_eq_eq_eq_not, Bool.not_true, Bool.not_false, gt_iff_lt, ge_iff_le, Int.not_lt, Int.not_le] at h5)
            refine wl_yes rfl rfl ?_
            refine wl_val (r_move rfl) (ltn rfl) ?_
            refine wl_yes rfl rfl ?_
            refine wl_val (r_move rfl) (ltn rfl) ?_
            refine wl_yes rfl rfl ?_
            refine wl_val (r_as (r_add rfl rfl (by omega)) (show Value.int .i64 ((i : Int) + (n : Int)) = .int .i64 ((i + n : Nat) : Int) by rw [Int.natCast_add])) (ltn rfl) ?_
            refine wl_yes rfl rfl ?_
            refine wl_val (r_move rfl) (ltn rfl) ?_
            refine wl_yes rfl rfl ?_
            refine wl_val (r_len Try.underlying22 rfl) (ltn rfl) ?_
            refine wl_yes rfl rfl ?_
            refine wl_val (r_geq rfl rfl) (ltn rfl) ?_
            refine wl_val (r_pick_f rfl rfl) (ltn rfl) ?_
            refine wl_split rfl (ltn rfl) (fun h6 => ?_) (fun h6 => ?_)
            · (try simp only [beq_iff_eq, bne_iff_ne, ne_eq, decide_eq_true_eq, decide_eq_false_iff_not, beq_eq_false_iff_ne, bne_eq_false_iff_eq, Bool.not_eq_true', Bool.not_eq_false', Bool.not_eq_eq_eq_not, Bool.not_true, Bool.not_false, gt_iff_lt, ge_iff_le, Int.not_lt, Int.not_le] at h6)
              refine wl_no rfl rfl rfl (ltn rfl) ?_
              refine wl_no rfl rfl rfl (ltn rfl) ?_
              refine wl_no rfl rfl rfl (ltn rfl) ?_
              refine wl_no rfl rfl rfl (ltn rfl) ?_
              refine wl_no rfl rfl rfl (ltn rfl) ?_
              refine wl_no rfl rfl rfl (ltn rfl) ?_
              refine wl_no rfl rfl rfl (ltn rfl) ?_
              refine wl_val (r_pick_t rfl rfl) (ltn rfl) ?_
              refine wl_val (r_move rfl) (ltn rfl) ?_
              refine wl_no rfl rfl rfl (ltn rfl) ?_
              refine wl_no rfl rfl rfl (ltn rfl) ?_
              refine wl_no rfl rfl rfl (ltn rfl) ?_
              refine wl_no rfl rfl rfl (ltn rfl) ?_
              refine wl_no rfl rfl rfl (ltn rfl) ?_
              refine wl_no rfl rfl rfl (ltn rfl) ?_
              refine wl_no rfl rfl rfl (ltn rfl) ?_
              refine wl_no rfl rfl rfl (ltn rfl) ?_
              refine wl_nou rfl rfl (ltn rfl) ?_
              refine wl_nou rfl rfl (ltn rfl) ?_
              refine wl_nou rfl rfl (ltn rfl) ?_
              refine wl_nou rfl rfl (ltn rfl) ?_
              refine wl_nou rfl rfl (ltn rfl) ?_
              refine wl_nou rfl rfl (ltn rfl) ?_
              refine wl_nou rfl rfl (ltn rfl) ?_
              refine wl_no rfl rfl rfl (ltn rfl) ?_
              refine wl_val (r_pick_t rfl rfl) (ltn rfl) ?_
              refine wl_nil ?_
              refine wq_seq ?_
              refine wc_cond_t rfl ?_
              refine wc_seq ?_
              refine wc_region ?_
              refine wl_val (r_assign rfl) (ltn rfl) ?_
              refine wl_nil ?_
              refine wq_seq ?_
              refine wc_ret ?_
              refine wq_then_ret ?_
              refine wq_end1 (.inl rfl) Try.results28 rfl ?_
              refine ⟨?_, HL⟩; unfold digS; rw [hd, if_pos (by unfold noDig; omega)]; rfl
            · (try simp only [beq_iff_eq, bne_iff_ne, ne_eq, decide_eq_true_eq, decide_eq_false_iff_not, beq_eq_false_iff_ne, bne_eq_false_iff_eq, Bool.not_eq_true', Bool.not_eq_false', Bool.not_eq_eq_eq_not, Bool.not_true, Bool.not_false, gt_iff_lt, ge_iff_le, Int.not_lt, Int.not_le] at h6)
              refine wl_yes rfl rfl ?_
              refine wl_val (r_move rfl) (ltn rfl) ?_
              refine wl_yes rfl rfl ?_
              refine wl_val (r_move rfl) (ltn rfl) ?_
              refine wl_yes rfl rfl ?_
              refine wl_val (r_move rfl) (ltn rfl) ?_
              refine wl_yes rfl rfl ?_
              refine wl_val (r_as (r_add rfl rfl (by omega)) (show Value.int .i64 ((i : Int) + (n : Int)) = .int .i64 ((i + n : Nat) : Int) by rw [Int.natCast_add])) (ltn rfl) ?_
              refine wl_yes rfl rfl ?_
              refine wl_val (r_index Try.underlying47 Try.sizeOf3 rfl rfl (by omega)) (ltn rfl) ?_
              refine wl_yes rfl rfl ?_
              refine wl_val (r_as (r_load (plain_of Try.underlying3 rfl) rfl (by first | exact RdI.at1n (hu _ (HL)) (by omega) | exact RdI.at0 (hu _ (HL)) (by omega) | exact RdI.at1 (hu _ (HL)) (by omega))) (show Value.int .i64 ((statesS l).getD (i + n) 0) = .int .i64 (quoS l (i + n)) by rw [statesS_at (by omega)])) (ltn rfl) ?_
              refine wl_yes rfl rfl ?_
              refine wl_val (r_neq rfl rfl) (ltn rfl) ?_
              refine wl_val (r_pick_f rfl rfl) (ltn rfl) ?_
              refine wl_split rfl (ltn rfl) (fun h7 => ?_) (fun h7 => ?_)
              · (try simp only [beq_iff_eq, bne_iff_ne, ne_eq, decide_eq_true_eq, decide_eq_false_iff_not, beq_eq_false_iff_ne, bne_eq_false_iff_eq, Bool.not_eq_true', Bool.not_eq_false', Bool.not_eq_eq_eq_not, Bool.not_true, Bool.not_false, gt_iff_lt, ge_iff_le, Int.not_lt, Int.not_le] at h7)
                refine wl_no rfl rfl rfl (ltn rfl) ?_
                refine wl_no rfl rfl rfl (ltn rfl) ?_
                refine wl_no rfl rfl rfl (ltn rfl) ?_
                refine wl_no rfl rfl rfl (ltn rfl) ?_
                refine wl_no rfl rfl rfl (ltn rfl) ?_
                refine wl_no rfl rfl rfl (ltn rfl) ?_
                refine wl_no rfl rfl rfl (ltn rfl) ?_
                refine wl_no rfl rfl rfl (ltn rfl) ?_
                refine wl_nou rfl rfl (ltn rfl) ?_
                refine wl_nou rfl rfl (ltn rfl) ?_
                refine wl_nou rfl rfl (ltn rfl) ?_
                refine wl_nou rfl rfl (ltn rfl) ?_
                refine wl_nou rfl rfl (ltn rfl) ?_
                refine wl_nou rfl rfl (ltn rfl) ?_
                refine wl_nou rfl rfl (ltn rfl) ?_
                refine wl_no rfl rfl rfl (ltn rfl) ?_
                refine wl_val (r_pick_t rfl rfl) (ltn rfl) ?_
                refine wl_nil ?_
                refine wq_seq ?_
                refine wc_cond_t rfl ?_
                refine wc_seq ?_
                refine wc_region ?_
                refine wl_val (r_assign rfl) (ltn rfl) ?_
                refine wl_nil ?_
                refine wq_seq ?_
                refine wc_ret ?_
                refine wq_then_ret ?_
                refine wq_end1 (.inl rfl) Try.results28 rfl ?_
                refine ⟨?_, HL⟩; unfold digS; rw [hd, if_pos (by unfold noDig; omega)]; rfl
              · (try simp only [beq_iff_eq, bne_iff_ne, ne_eq, decide_eq_true_eq, decide_eq_false_iff_not, beq_eq_false_iff_ne, bne_eq_false_iff_eq, Bool.not_eq_true', Bool.not_eq_false', Bool.not_eq_eq_eq_not, Bool.not_true, Bool.not_false, gt_iff_lt, ge_iff_le, Int.not_lt, Int.not_le] at h7)
                refine wl_yes rfl rfl ?_
                refine wl_val (r_move rfl) (ltn rfl) ?_
                refine wl_yes rfl rfl ?_
                refine wl_val (r_move rfl) (ltn rfl) ?_
                refine wl_yes rfl rfl ?_
                refine wl_val (r_move rfl) (ltn rfl) ?_
                refine wl_yes rfl rfl ?_
                refine wl_val (r_as (r_add rfl rfl (by omega)) (show Value.int .i64 ((i : Int) + (n : Int)) = .int .i64 ((i + n : Nat) : Int) by rw [Int.natCast_add])) (ltn rfl) ?_
                refine wl_yes rfl rfl ?_
                refine wl_val (r_index Try.underlying22 Try.sizeOf21 rfl rfl (by omega)) (ltn rfl) ?_
                refine wl_yes rfl rfl ?_
                refine wl_val (r_load (plain_of Try.underlying21 rfl) rfl (by first | exact RdI.at1n (hv _ (HL)) (by omega) | exact RdI.at0 (hv _ (HL)) (by omega) | exact RdI.at1 (hv _ (HL)) (by omega))) (ltn rfl) ?_
                refine wl_yes rfl rfl ?_
                refine wl_val (r_neq rfl rfl) (ltn rfl) ?_
                refine wl_yes rfl rfl ?_
                refine wl_split rfl (ltn rfl) (fun h8 => ?_) (fun h8 => ?_)
                · (try simp only [beq_iff_eq, bne_iff_ne, ne_eq, decide_eq_true_eq, decide_eq_false_iff_not, beq_eq_false_iff_ne, bne_eq_false_iff_eq, Bool.not_eq_true', Bool.not_eq_false', Bool.not_eq_eq_eq_not, Bool.not_true, Bool.not_false, gt_iff_lt, ge_iff_le, Int.not_lt, Int.not_le] at h8)
                  refine wl_yes rfl rfl ?_
                  refine wl_val (r_move rfl) (ltn rfl) ?_
                  refine wl_yes rfl rfl ?_
                  refine wl_val (r_move rfl) (ltn rfl) ?_
                  refine wl_yes rfl rfl ?_
                  refine wl_val (r_move rfl) (ltn rfl) ?_
                  refine wl_yes rfl rfl ?_
                  refine wl_val (r_as (r_add rfl rfl (by omega)) (show Value.int .i64 ((i : Int) + (n : Int)) = .int .i64 ((i + n : Nat) : Int) by rw [Int.natCast_add])) (ltn rfl) ?_
                  refine wl_yes rfl rfl ?_
                  refine wl_val (r_index Try.underlying22 Try.sizeOf21 rfl rfl (by omega)) (ltn rfl) ?_
                  refine wl_yes rfl rfl ?_
                  refine wl_val (r_load (plain_of Try.underlying21 rfl) rfl (by first | exact RdI.at1n (hv _ (HL)) (by omega) | exact RdI.at0 (hv _ (HL)) (by omega) | exact RdI.at1 (hv _ (HL)) (by omega))) (ltn rfl) ?_
                  refine wl_yes rfl rfl ?_
                  refine wl_val (r_neq rfl rfl) (ltn rfl) ?_
                  refine wl_yes rfl rfl ?_
                  refine wl_val (r_pick_t rfl rfl) (ltn rfl) ?_
                  refine wl_val (r_pick_f rfl rfl) (ltn rfl) ?_
                  refine wl_nil ?_
                  refine wq_seq ?_
                  refine wc_cond rfl (fun h9 => ?_) (fun h9 => ?_)
                  · (try simp only [beq_iff_eq, bne_iff_ne, ne_eq, decide_eq_true_eq, decide_eq_false_iff_not, beq_eq_false_iff_ne, bne_eq_false_iff_eq, Bool.not_eq_true', Bool.not_eq_false', Bool.not_eq_eq_eq_not, Bool.not_true, Bool.not_false, gt_iff_lt, ge_iff_le, Int.not_lt, Int.not_le] at h9)
                    
                    refine wc_seq ?_
                    refine wc_region ?_
                    refine wl_val (r_assign rfl) (ltn rfl) ?_
                    refine wl_nil ?_
                    refine wq_seq ?_
                    refine wc_ret ?_
                    refine wq_then_ret ?_
                    refine wq_end1 (.inl rfl) Try.results28 rfl ?_
                    refine ⟨?_, HL⟩; unfold digS; rw [hd, if_pos (by unfold noDig; omega)]; rfl
                  · (try simp only [beq_iff_eq, bne_iff_ne, ne_eq, decide_eq_true_eq, decide_eq_false_iff_not, beq_eq_false_iff_ne, bne_eq_false_iff_eq, Bool.not_eq_true', Bool.not_eq_false', Bool.not_eq_eq_eq_not, Bool.not_true, Bool.not_false, gt_iff_lt, ge_iff_le, Int.not_lt, Int.not_le] at h9)
                    
                    refine wc_skip ?_
                    refine wq_seq ?_
                    refine wc_seq ?_
                    refine wc_region ?_
                    refine wl_val (r_move rfl) (ltn rfl) ?_
                    refine wl_val (r_assign rfl) (ltn rfl) ?_
                    refine wl_nil ?_
                    refine wq_seq ?_
                    refine wc_ret ?_
                    refine wq_end1 (.inl rfl) Try.results28 rfl ?_
                    refine ⟨?_, HL⟩; unfold digS; rw [hd, if_neg (by unfold noDig; omega)]
                · (try simp only [beq_iff_eq, bne_iff_ne, ne_eq, decide_eq_true_eq, decide_eq_false_iff_not, beq_eq_false_iff_ne, bne_eq_false_iff_eq, Bool.not_eq_true', Bool.not_eq_false', Bool.not_eq_eq_eq_not, Bool.not_true, Bool.not_false, gt_iff_lt, ge_iff_le, Int.not_lt, Int.not_le] at h8)
                  refine wl_no rfl rfl rfl (ltn rfl) ?_
                  refine wl_no rfl rfl rfl (ltn rfl) ?_
                  refine wl_no rfl rfl rfl (ltn rfl) ?_
                  refine wl_no rfl rfl rfl (ltn rfl) ?_
                  refine wl_no rfl rfl rfl (ltn rfl) ?_
                  refine wl_no rfl rfl rfl (ltn rfl) ?_
                  refine wl_no rfl rfl rfl (ltn rfl) ?_
                  refine wl_yes rfl rfl ?_
                  refine wl_val (r_pick_f rfl rfl) (ltn rfl) ?_
                  refine wl_val (r_pick_f rfl rfl) (ltn rfl) ?_
                  refine wl_nil ?_
                  refine wq_seq ?_
                  refine wc_cond_f rfl ?_
                  refine wc_skip ?_
                  refine wq_seq ?_
                  refine wc_seq ?_
                  refine wc_region ?_
                  refine wl_val (r_move rfl) (ltn rfl) ?_
                  refine wl_val (r_assign rfl) (ltn rfl) ?_
                  refine wl_nil ?_
                  refine wq_seq ?_
                  refine wc_ret ?_
                  refine wq_end1 (.inl rfl) Try.results28 rfl ?_
                  refine ⟨?_, HL⟩; unfold digS; rw [hd, if_neg (by unfold noDig; omega)]
      · (try simp only [beq_iff_eq, bne_iff_ne, ne_eq, decide_eq_true_eq, decide_eq_false_iff_not, beq_eq_false_iff_ne, bne_eq_false_iff_eq, Bool.not_eq_true', Bool.not_eq_false', Bool.not_eq_eq_eq_not, Bool.not_true, Bool.not_false, gt_iff_lt, ge_iff_le, Int.not_lt, Int.not_le] at h3)
        refine wl_no rfl rfl rfl (ltn rfl) ?_
        refine wl_no rfl rfl rfl (ltn rfl) ?_
        refine wl_no rfl rfl rfl (ltn rfl) ?_
        refine wl_no rfl rfl rfl (ltn rfl) ?_
        refine wl_no rfl rfl rfl (ltn rfl) ?_
        refine wl_no rfl rfl rfl (ltn rfl) ?_
        refine wl_no rfl rfl rfl (ltn rfl) ?_
        refine wl_val (r_pick_f rfl rfl) (ltn rfl) ?_
        refine wl_nil ?_
        refine wq_seq ?_
        refine wc_cond_f rfl ?_
        refine wc_exit ?_
        refine wq_then_exit ?_
        refine wq_then_exit ?_
        refine wq_block_hit ?_
        refine wq_seq ?_
        refine wc_seq ?_
        refine wc_seq ?_
        have hdz : isDig l (i + n) = false := by unfold isDig; rw [decide_eq_false_iff_not]; omega
        rw [digN_stop hdz, Nat.add_zero] at hd
        refine wc_region ?_
        refine wl_val (r_move rfl) (ltn rfl) ?_
        refine wl_val (r_eql rfl rfl) (ltn rfl) ?_
        refine wl_split rfl (ltn rfl) (fun h10 => ?_) (fun h10 => ?_)
        · (try simp only [beq_iff_eq, bne_iff_ne, ne_eq, decide_eq_true_eq, decide_eq_false_iff_not, beq_eq_false_iff_ne, bne_eq_false_iff_eq, Bool.not_eq_true', Bool.not_eq_false', Bool.not_eq_eq_eq_not, Bool.not_true, Bool.not_false, gt_iff_lt, ge_iff_le, Int.not_lt, Int.not_le] at h10)
          refine wl_no rfl rfl rfl (ltn rfl) ?_
          refine wl_no rfl rfl rfl (ltn rfl) ?_
          refine wl_no rfl rfl rfl (ltn rfl) ?_
          refine wl_no rfl rfl rfl (ltn rfl) ?_
          refine wl_no rfl rfl rfl (ltn rfl) ?_
          refine wl_no rfl rfl rfl (ltn rfl) ?_
          refine wl_val (r_pick_t rfl rfl) (ltn rfl) ?_
          refine wl_val (r_move rfl) (ltn rfl) ?_
          refine wl_no rfl rfl rfl (ltn rfl) ?_
          refine wl_no rfl rfl rfl (ltn rfl) ?_
          refine wl_no rfl rfl rfl (ltn rfl) ?_
          refine wl_no rfl rfl rfl (ltn rfl) ?_
          refine wl_no rfl rfl rfl (ltn rfl) ?_
          refine wl_no rfl rfl rfl (ltn rfl) ?_
          refine wl_no rfl rfl rfl (ltn rfl) ?_
          refine wl_val (r_pick_t rfl rfl) (ltn rfl) ?_
          refine wl_val (r_move rfl) (ltn rfl) ?_
          refine wl_no rfl rfl rfl (ltn rfl) ?_
          refine wl_no rfl rfl rfl (ltn rfl) ?_
          refine wl_no rfl rfl rfl (ltn rfl) ?_
          refine wl_no rfl rfl rfl (ltn rfl) ?_
          refine wl_no rfl rfl rfl (ltn rfl) ?_
          refine wl_no rfl rfl rfl (ltn rfl) ?_
          refine wl_no rfl rfl rfl (ltn rfl) ?_
          refine wl_no rfl rfl rfl (ltn rfl) ?_
          refine wl_nou rfl rfl (ltn rfl) ?_
          refine wl_nou rfl rfl (ltn rfl) ?_
          refine wl_nou rfl rfl (ltn rfl) ?_
          refine wl_nou rfl rfl (ltn rfl) ?_
          refine wl_nou rfl rfl (ltn rfl) ?_
          refine wl_nou rfl rfl (ltn rfl) ?_
          refine wl_nou rfl rfl (ltn rfl) ?_
          refine wl_no rfl rfl rfl (ltn rfl) ?_
          refine wl_val (r_pick_t rfl rfl) (ltn rfl) ?_
          refine wl_nil ?_
          refine wq_seq ?_
          refine wc_cond_t rfl ?_
          refine wc_seq ?_
          refine wc_region ?_
          refine wl_val (r_assign rfl) (ltn rfl) ?_
          refine wl_nil ?_
          refine wq_seq ?_
          refine wc_ret ?_
          refine wq_then_ret ?_
          refine wq_end1 (.inl rfl) Try.results28 rfl ?_
          refine ⟨?_, HL⟩; unfold digS; rw [hd, if_pos (by unfold noDig; omega)]; rfl
        · (try simp only [beq_iff_eq, bne_iff_ne, ne_eq, decide_eq_true_eq, decide_eq_false_iff_not, beq_eq_false_iff_ne, bne_eq_false_iff_eq, Bool.not_eq_true', Bool.not_eq_false', Bool.not_eq_eq_eq_not, Bool.not_true, Bool.not_false, gt_iff_lt, ge_iff_le, Int.not_lt, Int.not_le] at h10)
          refine wl_yes rfl rfl ?_
          refine wl_val (r_move rfl) (ltn rfl) ?_
          refine wl_yes rfl rfl ?_
          refine wl_val (r_move rfl) (ltn rfl) ?_
          refine wl_yes rfl rfl ?_
          refine wl_val (r_as (r_add rfl rfl (by omega)) (show Value.int .i64 ((i : Int) + (n : Int)) = .int .i64 ((i + n : Nat) : Int) by rw [Int.natCast_add])) (ltn rfl) ?_
          refine wl_yes rfl rfl ?_
          refine wl_val (r_move rfl) (ltn rfl) ?_
          refine wl_yes rfl rfl ?_
          refine wl_val (r_len Try.underlying22 rfl) (ltn rfl) ?_
          refine wl_yes rfl rfl ?_
          refine wl_val (r_geq rfl rfl) (ltn rfl) ?_
          refine wl_val (r_pick_f rfl rfl) (ltn rfl) ?_
          refine wl_split rfl (ltn rfl) (fun h11 => ?_) (fun h11 => ?_)
          · (try simp only [beq_iff_eq, bne_iff_ne, ne_eq, decide_eq_true_eq, decide_eq_false_iff_not, beq_eq_false_iff_ne, bne_eq_false_iff_eq, Bool.not_eq_true', Bool.not_eq_false', Bool.not_eq_eq_eq_not, Bool.not_true, Bool.not_false, gt_iff_lt, ge_iff_le, Int.not_lt, Int.not_le] at h11)
            refine wl_no rfl rfl rfl (ltn rfl) ?_
            refine wl_no rfl rfl rfl (ltn rfl) ?_
            refine wl_no rfl rfl rfl (ltn rfl) ?_
            refine wl_no rfl rfl rfl (ltn rfl) ?_
            refine wl_no rfl rfl rfl (ltn rfl) ?_
            refine wl_no rfl rfl rfl (ltn rfl) ?_
            refine wl_no rfl rfl rfl (ltn rfl) ?_
            refine wl_val (r_pick_t rfl rfl) (ltn rfl) ?_
            refine wl_val (r_move rfl) (ltn rfl) ?_
            refine wl_no rfl rfl rfl (ltn rfl) ?_
            refine wl_no rfl rfl rfl (ltn rfl) ?_
            refine wl_no rfl rfl rfl (ltn rfl) ?_
            refine wl_no rfl rfl rfl (ltn rfl) ?_
            refine wl_no rfl rfl rfl (ltn rfl) ?_
            refine wl_no rfl rfl rfl (ltn rfl) ?_
            refine wl_no rfl rfl rfl (ltn rfl) ?_
            refine wl_no rfl rfl rfl (ltn rfl) ?_
            refine wl_nou rfl rfl (ltn rfl) ?_
            refine wl_nou rfl rfl (ltn rfl) ?_
            refine wl_nou rfl rfl (ltn rfl) ?_
            refine wl_nou rfl rfl (ltn rfl) ?_
            refine wl_nou rfl rfl (ltn rfl) ?_
            refine wl_nou rfl rfl (ltn rfl) ?_
            refine wl_nou rfl rfl (ltn rfl) ?_
            refine wl_no rfl rfl rfl (ltn rfl) ?_
            refine wl_val (r_pick_t rfl rfl) (ltn rfl) ?_
            refine wl_nil ?_
            refine wq_seq ?_
            refine wc_cond_t rfl ?_
            refine wc_seq ?_
            refine wc_region ?_
            refine wl_val (r_assign rfl) (ltn rfl) ?_
            refine wl_nil ?_
            refine wq_seq ?_
            refine wc_ret ?_
            refine wq_then_ret ?_
            refine wq_end1 (.inl rfl) Try.results28 rfl ?_
            refine ⟨?_, HL⟩; unfold digS; rw [hd, if_pos (by unfold noDig; omega)]; rfl
          · (try simp only [beq_iff_eq, bne_iff_ne, ne_eq, decide_eq_true_eq, decide_eq_false_iff_not, beq_eq_false_iff_ne, bne_eq_false_iff_eq, Bool.not_eq_true', Bool.not_eq_false', Bool.not_eq_eq_eq_not, Bool.not_true, Bool.not_false, gt_iff_lt, ge_iff_le, Int.not_lt, Int.not_le] at h11)
            refine wl_yes rfl rfl ?_
            refine wl_val (r_move rfl) (ltn rfl) ?_
            refine wl_yes rfl rfl ?_
            refine wl_val (r_move rfl) (ltn rfl) ?_
            refine wl_yes rfl rfl ?_
            refine wl_val (r_move rfl) (ltn rfl) ?_
            refine wl_yes rfl rfl ?_
            refine wl_val (r_as (r_add rfl rfl (by omega)) (show Value.int .i64 ((i : Int) + (n : Int)) = .int .i64 ((i + n : Nat) : Int) by rw [Int.natCast_add])) (ltn rfl) ?_
            refine wl_yes rfl rfl ?_
            obtain ⟨bu, ou, cu, eu⟩ := RdI.posV (hu _ (HL)) (by omega)
            cases eu
            refine wl_val (r_index Try.underlying47 Try.sizeOf3 rfl rfl (by omega)) (ltn rfl) ?_
            refine wl_yes rfl rfl ?_
            refine wl_val (r_as (r_load (plain_of Try.underlying3 rfl) rfl (by first | exact RdI.at1n (hu _ (HL)) (by omega) | exact RdI.at0 (hu _ (HL)) (by omega) | exact RdI.at1 (hu _ (HL)) (by omega))) (show Value.int .i64 ((statesS l).getD (i + n) 0) = .int .i64 (quoS l (i + n)) by rw [statesS_at (by omega)])) (ltn rfl) ?_
            refine wl_yes rfl rfl ?_
            refine wl_val (r_neq rfl rfl) (ltn rfl) ?_
            refine wl_val (r_pick_f rfl rfl) (ltn rfl) ?_
            refine wl_split rfl (ltn rfl) (fun h12 => ?_) (fun h12 => ?_)
            · (try simp only [beq_iff_eq, bne_iff_ne, ne_eq, decide_eq_true_eq, decide_eq_false_iff_not, beq_eq_false_iff_ne, bne_eq_false_iff_eq, Bool.not_eq_true', Bool.not_eq_false', Bool.not_eq_eq_eq_not, Bool.not_true, Bool.not_false, gt_iff_lt, ge_iff_le, Int.not_lt, Int.not_le] at h12)
              refine wl_no rfl rfl rfl (ltn rfl) ?_
              refine wl_no rfl rfl rfl (ltn rfl) ?_
              refine wl_no rfl rfl rfl (ltn rfl) ?_
              refine wl_no rfl rfl rfl (ltn rfl) ?_
              refine wl_no rfl rfl rfl (ltn rfl) ?_
              refine wl_no rfl rfl rfl (ltn rfl) ?_
              refine wl_no rfl rfl rfl (ltn rfl) ?_
              refine wl_no rfl rfl rfl (ltn rfl) ?_
              refine wl_nou rfl rfl (ltn rfl) ?_
              refine wl_nou rfl rfl (ltn rfl) ?_
              refine wl_nou rfl rfl (ltn rfl) ?_
              refine wl_nou rfl rfl (ltn rfl) ?_
              refine wl_nou rfl rfl (ltn rfl) ?_
              refine wl_nou rfl rfl (ltn rfl) ?_
              refine wl_nou rfl rfl (ltn rfl) ?_
              refine wl_no rfl rfl rfl (ltn rfl) ?_
              refine wl_val (r_pick_t rfl rfl) (ltn rfl) ?_
              refine wl_nil ?_
              refine wq_seq ?_
              refine wc_cond_t rfl ?_
              refine wc_seq ?_
              refine wc_region ?_
              refine wl_val (r_assign rfl) (ltn rfl) ?_
              refine wl_nil ?_
              refine wq_seq ?_
              refine wc_ret ?_
              refine wq_then_ret ?_
              refine wq_end1 (.inl rfl) Try.results28 rfl ?_
              refine ⟨?_, HL⟩; unfold digS; rw [hd, if_pos (by unfold noDig; omega)]; rfl
            · (try simp only [beq_iff_eq, bne_iff_ne, ne_eq, decide_eq_true_eq, decide_eq_false_iff_not, beq_eq_false_iff_ne, bne_eq_false_iff_eq, Bool.not_eq_true', Bool.not_eq_false', Bool.not_eq_eq_eq_not, Bool.not_true, Bool.not_false, gt_iff_lt, ge_iff_le, Int.not_lt, Int.not_le] at h12)
              refine wl_yes rfl rfl ?_
              refine wl_val (r_move rfl) (ltn rfl) ?_
              refine wl_yes rfl rfl ?_
              refine wl_val (r_move rfl) (ltn rfl) ?_
              refine wl_yes rfl rfl ?_
              refine wl_val (r_move rfl) (ltn rfl) ?_
              refine wl_yes rfl rfl ?_
              refine wl_val (r_as (r_add rfl rfl (by omega)) (show Value.int .i64 ((i : Int) + (n : Int)) = .int .i64 ((i + n : Nat) : Int) by rw [Int.natCast_add])) (ltn rfl) ?_
              refine wl_yes rfl rfl ?_
              refine wl_val (r_index Try.underlying22 Try.sizeOf21 rfl rfl (by omega)) (ltn rfl) ?_
              refine wl_yes rfl rfl ?_
              refine wl_val (r_load (plain_of Try.underlying21 rfl) rfl (by first | exact RdI.at1n (hv _ (HL)) (by omega) | exact RdI.at0 (hv _ (HL)) (by omega) | exact RdI.at1 (hv _ (HL)) (by omega))) (ltn rfl) ?_
              refine wl_yes rfl rfl ?_
              refine wl_val (r_neq rfl rfl) (ltn rfl) ?_
              refine wl_yes rfl rfl ?_
              refine wl_split rfl (ltn rfl) (fun h13 => ?_) (fun h13 => ?_)
              · (try simp only [beq_iff_eq, bne_iff_ne, ne_eq, decide_eq_true_eq, decide_eq_false_iff_not, beq_eq_false_iff_ne, bne_eq_false_iff_eq, Bool.not_eq_true', Bool.not_eq_false', Bool.not_eq_eq_eq_not, Bool.not_true, Bool.not_false, gt_iff_lt, ge_iff_le, Int.not_lt, Int.not_le] at h13)
                refine wl_yes rfl rfl ?_
                refine wl_val (r_move rfl) (ltn rfl) ?_
                refine wl_yes rfl rfl ?_
                refine wl_val (r_move rfl) (ltn rfl) ?_
                refine wl_yes rfl rfl ?_
                refine wl_val (r_move rfl) (ltn rfl) ?_
                refine wl_yes rfl rfl ?_
                refine wl_val (r_as (r_add rfl rfl (by omega)) (show Value.int .i64 ((i : Int) + (n : Int)) = .int .i64 ((i + n : Nat) : Int) by rw [Int.natCast_add])) (ltn rfl) ?_
                refine wl_yes rfl rfl ?_
                refine wl_val (r_index Try.underlying22 Try.sizeOf21 rfl rfl (by omega)) (ltn rfl) ?_
                refine wl_yes rfl rfl ?_
                refine wl_val (r_load (plain_of Try.underlying21 rfl) rfl (by first | exact RdI.at1n (hv _ (HL)) (by omega) | exact RdI.at0 (hv _ (HL)) (by omega) | exact RdI.at1 (hv _ (HL)) (by omega))) (ltn rfl) ?_
                refine wl_yes rfl rfl ?_
                refine wl_val (r_neq rfl rfl) (ltn rfl) ?_
                refine wl_yes rfl rfl ?_
                refine wl_val (r_pick_t rfl rfl) (ltn rfl) ?_
                refine wl_val (r_pick_f rfl rfl) (ltn rfl) ?_
                refine wl_nil ?_
                refine wq_seq ?_
                refine wc_cond rfl (fun h14 => ?_) (fun h14 => ?_)
                · (try simp only [beq_iff_eq, bne_iff_ne, ne_eq, decide_eq_true_eq, decide_eq_false_iff_not, beq_eq_false_iff_ne, bne_eq_false_iff_eq, Bool.not_eq_true', Bool.not_eq_false', Bool.not_eq_eq_eq_not, Bool.not_true, Bool.not_false, gt_iff_lt, ge_iff_le, Int.not_lt, Int.not_le] at h14)
                  
                  refine wc_seq ?_
                  refine wc_region ?_
                  refine wl_val (r_assign rfl) (ltn rfl) ?_
                  refine wl_nil ?_
                  refine wq_seq ?_
                  refine wc_ret ?_
                  refine wq_then_ret ?_
                  refine wq_end1 (.inl rfl) Try.results28 rfl ?_
                  refine ⟨?_, HL⟩; unfold digS; rw [hd, if_pos (by unfold noDig; omega)]; rfl
                · (try simp only [beq_iff_eq, bne_iff_ne, ne_eq, decide_eq_true_eq, decide_eq_false_iff_not, beq_eq_false_iff_ne, bne_eq_false_iff_eq, Bool.not_eq_true', Bool.not_eq_false', Bool.not_eq_eq_eq_not, Bool.not_true, Bool.not_false, gt_iff_lt, ge_iff_le, Int.not_lt, Int.not_le] at h14)
                  
                  refine wc_skip ?_
                  refine wq_seq ?_
                  refine wc_seq ?_
                  refine wc_region ?_
                  refine wl_val (r_move rfl) (ltn rfl) ?_
                  refine wl_val (r_assign rfl) (ltn rfl) ?_
                  refine wl_nil ?_
                  refine wq_seq ?_
                  refine wc_ret ?_
                  refine wq_end1 (.inl rfl) Try.results28 rfl ?_
                  refine ⟨?_, HL⟩; unfold digS; rw [hd, if_neg (by unfold noDig; omega)]
              · (try simp only [beq_iff_eq, bne_iff_ne, ne_eq, decide_eq_true_eq, decide_eq_false_iff_not, beq_eq_false_iff_ne, bne_eq_false_iff_eq, Bool.not_eq_true', Bool.not_eq_false', Bool.not_eq_eq_eq_not, Bool.not_true, Bool.not_false, gt_iff_lt, ge_iff_le, Int.not_lt, Int.not_le] at h13)
                refine wl_no rfl rfl rfl (ltn rfl) ?_
                refine wl_no rfl rfl rfl (ltn rfl) ?_
                refine wl_no rfl rfl rfl (ltn rfl) ?_
                refine wl_no rfl rfl rfl (ltn rfl) ?_
                refine wl_no rfl rfl rfl (ltn rfl) ?_
                refine wl_no rfl rfl rfl (ltn rfl) ?_
                refine wl_no rfl rfl rfl (ltn rfl) ?_
                refine wl_yes rfl rfl ?_
                refine wl_val (r_pick_f rfl rfl) (ltn rfl) ?_
                refine wl_val (r_pick_f rfl rfl) (ltn rfl) ?_
                refine wl_nil ?_
                refine wq_seq ?_
                refine wc_cond_f rfl ?_
                refine wc_skip ?_
                refine wq_seq ?_
                refine wc_seq ?_
                refine wc_region ?_
                refine wl_val (r_move rfl) (ltn rfl) ?_
                refine wl_val (r_assign rfl) (ltn rfl) ?_
                refine wl_nil ?_
                refine wq_seq ?_
                refine wc_ret ?_
                refine wq_end1 (.inl rfl) Try.results28 rfl ?_
                refine ⟨?_, HL⟩; unfold digS; rw [hd, if_neg (by unfold noDig; omega)]
    · (try simp only [beq_iff_eq, bne_iff_ne, ne_eq, decide_eq_true_eq, decide_eq_false_iff_not, beq_eq_false_iff_ne, bne_eq_false_iff_eq, Bool.not_eq_true', Bool.not_eq_false', Bool.not_eq_eq_eq_not, Bool.not_true, Bool.not_false, gt_iff_lt, ge_iff_le, Int.not_lt, Int.not_le] at h2)
      refine wl_no rfl rfl rfl (ltn rfl) ?_
      refine wl_no rfl rfl rfl (ltn rfl) ?_
      refine wl_no rfl rfl rfl (ltn rfl) ?_
      refine wl_no rfl rfl rfl (ltn rfl) ?_
      refine wl_no rfl rfl rfl (ltn rfl) ?_
      refine wl_no rfl rfl rfl (ltn rfl) ?_
      refine wl_no rfl rfl rfl (ltn rfl) ?_
      refine wl_val (r_pick_f rfl rfl) (ltn rfl) ?_
      refine wl_val (r_move rfl) (ltn rfl) ?_
      refine wl_no rfl rfl rfl (ltn rfl) ?_
      refine wl_no rfl rfl rfl (ltn rfl) ?_
      refine wl_no rfl rfl rfl (ltn rfl) ?_
      refine wl_no rfl rfl rfl (ltn rfl) ?_
      refine wl_no rfl rfl rfl (ltn rfl) ?_
      refine wl_no rfl rfl rfl (ltn rfl) ?_
      refine wl_no rfl rfl rfl (ltn rfl) ?_
      refine wl_val (r_pick_f rfl rfl) (ltn rfl) ?_
      refine wl_nil ?_
      refine wq_seq ?_
      refine wc_cond_f rfl ?_
      refine wc_exit ?_
      refine wq_then_exit ?_
      refine wq_then_exit ?_
      refine wq_block_hit ?_
      refine wq_seq ?_
      refine wc_seq ?_
      refine wc_seq ?_
      have hdz : isDig l (i + n) = false := by unfold isDig; rw [decide_eq_false_iff_not]; omega
      rw [digN_stop hdz, Nat.add_zero] at hd
      refine wc_region ?_
      refine wl_val (r_move rfl) (ltn rfl) ?_
      refine wl_val (r_eql rfl rfl) (ltn rfl) ?_
      refine wl_split rfl (ltn rfl) (fun h15 => ?_) (fun h15 => ?_)
      · (try simp only [beq_iff_eq, bne_iff_ne, ne_eq, decide_eq_true_eq, decide_eq_false_iff_not, beq_eq_false_iff_ne, bne_eq_false_iff_eq, Bool.not_eq_true', Bool.not_eq_false', Bool.not_eq_eq_eq_not, Bool.not_true, Bool.not_false, gt_iff_lt, ge_iff_le, Int.not_lt, Int.not_le] at h15)
        refine wl_no rfl rfl rfl (ltn rfl) ?_
        refine wl_no rfl rfl rfl (ltn rfl) ?_
        refine wl_no rfl rfl rfl (ltn rfl) ?_
        refine wl_no rfl rfl rfl (ltn rfl) ?_
        refine wl_no rfl rfl rfl (ltn rfl) ?_
        refine wl_no rfl rfl rfl (ltn rfl) ?_
        refine wl_val (r_pick_t rfl rfl) (ltn rfl) ?_
        refine wl_val (r_move rfl) (ltn rfl) ?_
        refine wl_no rfl rfl rfl (ltn rfl) ?_
        refine wl_no rfl rfl rfl (ltn rfl) ?_
        refine wl_no rfl rfl rfl (ltn rfl) ?_
        refine wl_no rfl rfl rfl (ltn rfl) ?_
        refine wl_no rfl rfl rfl (ltn rfl) ?_
        refine wl_no rfl rfl rfl (ltn rfl) ?_
        refine wl_no rfl rfl rfl (ltn rfl) ?_
        refine wl_val (r_pick_t rfl rfl) (ltn rfl) ?_
        refine wl_val (r_move rfl) (ltn rfl) ?_
        refine wl_no rfl rfl rfl (ltn rfl) ?_
        refine wl_no rfl rfl rfl (ltn rfl) ?_
        refine wl_no rfl rfl rfl (ltn rfl) ?_
        refine wl_no rfl rfl rfl (ltn rfl) ?_
        refine wl_no rfl rfl rfl (ltn rfl) ?_
        refine wl_no rfl rfl rfl (ltn rfl) ?_
        refine wl_no rfl rfl rfl (ltn rfl) ?_
        refine wl_no rfl rfl rfl (ltn rfl) ?_
        refine wl_nou rfl rfl (ltn rfl) ?_
        refine wl_nou rfl rfl (ltn rfl) ?_
        refine wl_nou rfl rfl (ltn rfl) ?_
        refine wl_nou rfl rfl (ltn rfl) ?_
        refine wl_nou rfl rfl (ltn rfl) ?_
        refine wl_nou rfl rfl (ltn rfl) ?_
        refine wl_nou rfl rfl (ltn rfl) ?_
        refine wl_no rfl rfl rfl (ltn rfl) ?_
        refine wl_val (r_pick_t rfl rfl) (ltn rfl) ?_
        refine wl_nil ?_
        refine wq_seq ?_
        refine wc_cond_t rfl ?_
        refine wc_seq ?_
        refine wc_region ?_
        refine wl_val (r_assign rfl) (ltn rfl) ?_
        refine wl_nil ?_
        refine wq_seq ?_
        refine wc_ret ?_
        refine wq_then_ret ?_
        refine wq_end1 (.inl rfl) Try.results28 rfl ?_
        refine ⟨?_, HL⟩; unfold digS; rw [hd, if_pos (by unfold noDig; omega)]; rfl
      · (try simp only [beq_iff_eq, bne_iff_ne, ne_eq, decide_eq_true_eq, decide_eq_false_iff_not, beq_eq_false_iff_ne, bne_eq_false_iff_eq, Bool.not_eq_true', Bool.not_eq_false', Bool.not_eq_eq_eq_not, Bool.not_true, Bool.not_false, gt_iff_lt, ge_iff_le, Int.not_lt, Int.not_le] at h15)
        refine wl_yes rfl rfl ?_
        refine wl_val (r_move rfl) (ltn rfl) ?_
        refine wl_yes rfl rfl ?_
        refine wl_val (r_move rfl) (ltn rfl) ?_
        refine wl_yes rfl rfl ?_
        refine wl_val (r_as (r_add rfl rfl (by omega)) (show Value.int .i64 ((i : Int) + (n : Int)) = .int .i64 ((i + n : Nat) : Int) by rw [Int.natCast_add])) (ltn rfl) ?_
        refine wl_yes rfl rfl ?_
        refine wl_val (r_move rfl) (ltn rfl) ?_
        refine wl_yes rfl rfl ?_
        refine wl_val (r_len Try.underlying22 rfl) (ltn rfl) ?_
        refine wl_yes rfl rfl ?_
        refine wl_val (r_geq rfl rfl) (ltn rfl) ?_
        refine wl_val (r_pick_f rfl rfl) (ltn rfl) ?_
        refine wl_split rfl (ltn rfl) (fun h16 => ?_) (fun h16 => ?_)
        · (try simp only [beq_iff_eq, bne_iff_ne, ne_eq, decide_eq_true_eq, decide_eq_false_iff_not, beq_eq_false_iff_ne, bne_eq_false_iff_eq, Bool.not_eq_true', Bool.not_eq_false', Bool.not_eq_eq_eq_not, Bool.not_true, Bool.not_false, gt_iff_lt, ge_iff_le, Int.not_lt, Int.not_le] at h16)
          refine wl_no rfl rfl rfl (ltn rfl) ?_
          refine wl_no rfl rfl rfl (ltn rfl) ?_
          refine wl_no rfl rfl rfl (ltn rfl) ?_
          refine wl_no rfl rfl rfl (ltn rfl) ?_
          refine wl_no rfl rfl rfl (ltn rfl) ?_
          refine wl_no rfl rfl rfl (ltn rfl) ?_
          refine wl_no rfl rfl rfl (ltn rfl) ?_
          refine wl_val (r_pick_t rfl rfl) (ltn rfl) ?_
          refine wl_val (r_move rfl) (ltn rfl) ?_
          refine wl_no rfl rfl rfl (ltn rfl) ?_
          refine wl_no rfl rfl rfl (ltn rfl) ?_
          refine wl_no rfl rfl rfl (ltn rfl) ?_
          refine wl_no rfl rfl rfl (ltn rfl) ?_
          refine wl_no rfl rfl rfl (ltn rfl) ?_
          refine wl_no rfl rfl rfl (ltn rfl) ?_
          refine wl_no rfl rfl rfl (ltn rfl) ?_
          refine wl_no rfl rfl rfl (ltn rfl) ?_
          refine wl_nou rfl rfl (ltn rfl) ?_
          refine wl_nou rfl rfl (ltn rfl) ?_
          refine wl_nou rfl rfl (ltn rfl) ?_
          refine wl_nou rfl rfl (ltn rfl) ?_
          refine wl_nou rfl rfl (ltn rfl) ?_
          refine wl_nou rfl rfl (ltn rfl) ?_
          refine wl_nou rfl rfl (ltn rfl) ?_
          refine wl_no rfl rfl rfl (ltn rfl) ?_
          refine wl_val (r_pick_t rfl rfl) (ltn rfl) ?_
          refine wl_nil ?_
          refine wq_seq ?_
          refine wc_cond_t rfl ?_
          refine wc_seq ?_
          refine wc_region ?_
          refine wl_val (r_assign rfl) (ltn rfl) ?_
          refine wl_nil ?_
          refine wq_seq ?_
          refine wc_ret ?_
          refine wq_then_ret ?_
          refine wq_end1 (.inl rfl) Try.results28 rfl ?_
          refine ⟨?_, HL⟩; unfold digS; rw [hd, if_pos (by unfold noDig; omega)]; rfl
        · (try simp only [beq_iff_eq, bne_iff_ne, ne_eq, decide_eq_true_eq, decide_eq_false_iff_not, beq_eq_false_iff_ne, bne_eq_false_iff_eq, Bool.not_eq_true', Bool.not_eq_false', Bool.not_eq_eq_eq_not, Bool.not_true, Bool.not_false, gt_iff_lt, ge_iff_le, Int.not_lt, Int.not_le] at h16)
          refine wl_yes rfl rfl ?_
          refine wl_val (r_move rfl) (ltn rfl) ?_
          refine wl_yes rfl rfl ?_
          refine wl_val (r_move rfl) (ltn rfl) ?_
          refine wl_yes rfl rfl ?_
          refine wl_val (r_move rfl) (ltn rfl) ?_
          refine wl_yes rfl rfl ?_
          refine wl_val (r_as (r_add rfl rfl (by omega)) (show Value.int .i64 ((i : Int) + (n : Int)) = .int .i64 ((i + n : Nat) : Int) by rw [Int.natCast_add])) (ltn rfl) ?_
          refine wl_yes rfl rfl ?_
          obtain ⟨bu, ou, cu, eu⟩ := RdI.posV (hu _ (HL)) (by omega)
          cases eu
          refine wl_val (r_index Try.underlying47 Try.sizeOf3 rfl rfl (by omega)) (ltn rfl) ?_
          refine wl_yes rfl rfl ?_
          refine wl_val (r_as (r_load (plain_of Try.underlying3 rfl) rfl (by first | exact RdI.at1n (hu _ (HL)) (by omega) | exact RdI.at0 (hu _ (HL)) (by omega) | exact RdI.at1 (hu _ (HL)) (by omega))) (show Value.int .i64 ((statesS l).getD (i + n) 0) = .int .i64 (quoS l (i + n)) by rw [statesS_at (by omega)])) (ltn rfl) ?_
          refine wl_yes rfl rfl ?_
          refine wl_val (r_neq rfl rfl) (ltn rfl) ?_
          refine wl_val (r_pick_f rfl rfl) (ltn rfl) ?_
          refine wl_split rfl (ltn rfl) (fun h17 => ?_) (fun h17 => ?_)
          · (try simp only [beq_iff_eq, bne_iff_ne, ne_eq, decide_eq_true_eq, decide_eq_false_iff_not, beq_eq_false_iff_ne, bne_eq_false_iff_eq, Bool.not_eq_true', Bool.not_eq_false', Bool.not_eq_eq_eq_not, Bool.not_true, Bool.not_false, gt_iff_lt, ge_iff_le, Int.not_lt, Int.not_le] at h17)
            refine wl_no rfl rfl rfl (ltn rfl) ?_
            refine wl_no rfl rfl rfl (ltn rfl) ?_
            refine wl_no rfl rfl rfl (ltn rfl) ?_
            refine wl_no rfl rfl rfl (ltn rfl) ?_
            refine wl_no rfl rfl rfl (ltn rfl) ?_
            refine wl_no rfl rfl rfl (ltn rfl) ?_
            refine wl_no rfl rfl rfl (ltn rfl) ?_
            refine wl_no rfl rfl rfl (ltn rfl) ?_
            refine wl_nou rfl rfl (ltn rfl) ?_
            refine wl_nou rfl rfl (ltn rfl) ?_
            refine wl_nou rfl rfl (ltn rfl) ?_
            refine wl_nou rfl rfl (ltn rfl) ?_
            refine wl_nou rfl rfl (ltn rfl) ?_
            refine wl_nou rfl rfl (ltn rfl) ?_
            refine wl_nou rfl rfl (ltn rfl) ?_
            refine wl_no rfl rfl rfl (ltn rfl) ?_
            refine wl_val (r_pick_t rfl rfl) (ltn rfl) ?_
            refine wl_nil ?_
            refine wq_seq ?_
            refine wc_cond_t rfl ?_
            refine wc_seq ?_
            refine wc_region ?_
            refine wl_val (r_assign rfl) (ltn rfl) ?_
            refine wl_nil ?_
            refine wq_seq ?_
            refine wc_ret ?_
            refine wq_then_ret ?_
            refine wq_end1 (.inl rfl) Try.results28 rfl ?_
            refine ⟨?_, HL⟩; unfold digS; rw [hd, if_pos (by unfold noDig; omega)]; rfl
          · (try simp only [beq_iff_eq, bne_iff_ne, ne_eq, decide_eq_true_eq, decide_eq_false_iff_not, beq_eq_false_iff_ne, bne_eq_false_iff_eq, Bool.not_eq_true', Bool.not_eq_false', Bool.not_eq_eq_eq_not, Bool.not_true, Bool.not_false, gt_iff_lt, ge_iff_le, Int.not_lt, Int.not_le] at h17)
            refine wl_yes rfl rfl ?_
            refine wl_val (r_move rfl) (ltn rfl) ?_
            refine wl_yes rfl rfl ?_
            refine wl_val (r_move rfl) (ltn rfl) ?_
            refine wl_yes rfl rfl ?_
            refine wl_val (r_move rfl) (ltn rfl) ?_
            refine wl_yes rfl rfl ?_
            refine wl_val (r_as (r_add rfl rfl (by omega)) (show Value.int .i64 ((i : Int) + (n : Int)) = .int .i64 ((i + n : Nat) : Int) by rw [Int.natCast_add])) (ltn rfl) ?_
            refine wl_yes rfl rfl ?_
            refine wl_val (r_index Try.underlying22 Try.sizeOf21 rfl rfl (by omega)) (ltn rfl) ?_
            refine wl_yes rfl rfl ?_
            refine wl_val (r_load (plain_of Try.underlying21 rfl) rfl (by first | exact RdI.at1n (hv _ (HL)) (by omega) | exact RdI.at0 (hv _ (HL)) (by omega) | exact RdI.at1 (hv _ (HL)) (by omega))) (ltn rfl) ?_
            refine wl_yes rfl rfl ?_
            refine wl_val (r_neq rfl rfl) (ltn rfl) ?_
            refine wl_yes rfl rfl ?_
            refine wl_split rfl (ltn rfl) (fun h18 => ?_) (fun h18 => ?_)
            · (try simp only [beq_iff_eq, bne_iff_ne, ne_eq, decide_eq_true_eq, decide_eq_false_iff_not, beq_eq_false_iff_ne, bne_eq_false_iff_eq, Bool.not_eq_true', Bool.not_eq_false', Bool.not_eq_eq_eq_not, Bool.not_true, Bool.not_false, gt_iff_lt, ge_iff_le, Int.not_lt, Int.not_le] at h18)
              refine wl_yes rfl rfl ?_
              refine wl_val (r_move rfl) (ltn rfl) ?_
              refine wl_yes rfl rfl ?_
              refine wl_val (r_move rfl) (ltn rfl) ?_
              refine wl_yes rfl rfl ?_
              refine wl_val (r_move rfl) (ltn rfl) ?_
              refine wl_yes rfl rfl ?_
              refine wl_val (r_as (r_add rfl rfl (by omega)) (show Value.int .i64 ((i : Int) + (n : Int)) = .int .i64 ((i + n : Nat) : Int) by rw [Int.natCast_add])) (ltn rfl) ?_
              refine wl_yes rfl rfl ?_
              refine wl_val (r_index Try.underlying22 Try.sizeOf21 rfl rfl (by omega)) (ltn rfl) ?_
              refine wl_yes rfl rfl ?_
              refine wl_val (r_load (plain_of Try.underlying21 rfl) rfl (by first | exact RdI.at1n (hv _ (HL)) (by omega) | exact RdI.at0 (hv _ (HL)) (by omega) | exact RdI.at1 (hv _ (HL)) (by omega))) (ltn rfl) ?_
              refine wl_yes rfl rfl ?_
              refine wl_val (r_neq rfl rfl) (ltn rfl) ?_
              refine wl_yes rfl rfl ?_
              refine wl_val (r_pick_t rfl rfl) (ltn rfl) ?_
              refine wl_val (r_pick_f rfl rfl) (ltn rfl) ?_
              refine wl_nil ?_
              refine wq_seq ?_
              refine wc_cond rfl (fun h19 => ?_) (fun h19 => ?_)
              · (try simp only [beq_iff_eq, bne_iff_ne, ne_eq, decide_eq_true_eq, decide_eq_false_iff_not, beq_eq_false_iff_ne, bne_eq_false_iff_eq, Bool.not_eq_true', Bool.not_eq_false', Bool.not_eq_eq_eq_not, Bool.not_true, Bool.not_false, gt_iff_lt, ge_iff_le, Int.not_lt, Int.not_le] at h19)
                
                refine wc_seq ?_
                refine wc_region ?_
                refine wl_val (r_assign rfl) (ltn rfl) ?_
                refine wl_nil ?_
                refine wq_seq ?_
                refine wc_ret ?_
                refine wq_then_ret ?_
                refine wq_end1 (.inl rfl) Try.results28 rfl ?_
                refine ⟨?_, HL⟩; unfold digS; rw [hd, if_pos (by unfold noDig; omega)]; rfl
              · (try simp only [beq_iff_eq, bne_iff_ne, ne_eq, decide_eq_true_eq, decide_eq_false_iff_not, beq_eq_false_iff_ne, bne_eq_false_iff_eq, Bool.not_eq_true', Bool.not_eq_false', Bool.not_eq_eq_eq_not, Bool.not_true, Bool.not_false, gt_iff_lt, ge_iff_le, Int.not_lt, Int.not_le] at h19)
                
                refine wc_skip ?_
                refine wq_seq ?_
                refine wc_seq ?_
                refine wc_region ?_
                refine wl_val (r_move rfl) (ltn rfl) ?_
                refine wl_val (r_assign rfl) (ltn rfl) ?_
                refine wl_nil ?_
                refine wq_seq ?_
                refine wc_ret ?_
                refine wq_end1 (.inl rfl) Try.results28 rfl ?_
                refine ⟨?_, HL⟩; unfold digS; rw [hd, if_neg (by unfold noDig; omega)]
            · (try simp only [beq_iff_eq, bne_iff_ne, ne_eq, decide_eq_true_eq, decide_eq_false_iff_not, beq_eq_false_iff_ne, bne_eq_false_iff_eq, Bool.not_eq_true', Bool.not_eq_false', Bool.not_eq_eq_eq_not, Bool.not_true, Bool.not_false, gt_iff_lt, ge_iff_le, Int.not_lt, Int.not_le] at h18)
              refine wl_no rfl rfl rfl (ltn rfl) ?_
              refine wl_no rfl rfl rfl (ltn rfl) ?_
              refine wl_no rfl rfl rfl (ltn rfl) ?_
              refine wl_no rfl rfl rfl (ltn rfl) ?_
              refine wl_no rfl rfl rfl (ltn rfl) ?_
              refine wl_no rfl rfl rfl (ltn rfl) ?_
              refine wl_no rfl rfl rfl (ltn rfl) ?_
              refine wl_yes rfl rfl ?_
              refine wl_val (r_pick_f rfl rfl) (ltn rfl) ?_
              refine wl_val (r_pick_f rfl rfl) (ltn rfl) ?_
              refine wl_nil ?_
              refine wq_seq ?_
              refine wc_cond_f rfl ?_
              refine wc_skip ?_
              refine wq_seq ?_
              refine wc_seq ?_
              refine wc_region ?_
              refine wl_val (r_move rfl) (ltn rfl) ?_
              refine wl_val (r_assign rfl) (ltn rfl) ?_
              refine wl_nil ?_
              refine wq_seq ?_
              refine wc_ret ?_
              refine wq_end1 (.inl rfl) Try.results28 rfl ?_
              refine ⟨?_, HL⟩; unfold digS; rw [hd, if_neg (by unfold noDig; omega)]
  · (try simp only [beq_iff_eq, bne_iff_ne, ne_eq, decide_eq_true_eq, decide_eq_false_iff_not, beq_eq_false_iff_ne, bne_eq_false_iff_eq, Bool.not_eq_true', Bool.not_eq_false', Bool.not_eq_eq_eq_not, Bool.not_true, Bool.not_false, gt_iff_lt, ge_iff_le, Int.not_lt, Int.not_le] at h1)
    refine wl_no rfl rfl rfl (ltn rfl) ?_
    refine wl_no rfl rfl rfl (ltn rfl) ?_
    refine wl_no rfl rfl rfl (ltn rfl) ?_
    refine wl_no rfl rfl rfl (ltn rfl) ?_
    refine wl_no rfl rfl rfl (ltn rfl) ?_
    refine wl_no rfl rfl rfl (ltn rfl) ?_
    refine wl_no rfl rfl rfl (ltn rfl) ?_
    refine wl_val (r_pick_f rfl rfl) (ltn rfl) ?_
    refine wl_val (r_move rfl) (ltn rfl) ?_
    refine wl_no rfl rfl rfl (ltn rfl) ?_
    refine wl_no rfl rfl rfl (ltn rfl) ?_
    refine wl_no rfl rfl rfl (ltn rfl) ?_
    refine wl_no rfl rfl rfl (ltn rfl) ?_
    refine wl_no rfl rfl rfl (ltn rfl) ?_
    refine wl_no rfl rfl rfl (ltn rfl) ?_
    refine wl_no rfl rfl rfl (ltn rfl) ?_
    refine wl_val (r_pick_f rfl rfl) (ltn rfl) ?_
    refine wl_val (r_move rfl) (ltn rfl) ?_
    refine wl_no rfl rfl rfl (ltn rfl) ?_
    refine wl_no rfl rfl rfl (ltn rfl) ?_
    refine wl_no rfl rfl rfl (ltn rfl) ?_
    refine wl_no rfl rfl rfl (ltn rfl) ?_
    refine wl_no rfl rfl rfl (ltn rfl) ?_
    refine wl_no rfl rfl rfl (ltn rfl) ?_
    refine wl_no rfl rfl rfl (ltn rfl) ?_
    refine wl_val (r_pick_f rfl rfl) (ltn rfl) ?_
    refine wl_nil ?_
    refine wq_seq ?_
    refine wc_cond_f rfl ?_
    refine wc_exit ?_
    refine wq_then_exit ?_
    refine wq_then_exit ?_
    refine wq_block_hit ?_
    refine wq_seq ?_
    refine wc_seq ?_
    refine wc_seq ?_
    have hdz : isDig l (i + n) = false := by unfold isDig; rw [decide_eq_false_iff_not]; omega
    rw [digN_stop hdz, Nat.add_zero] at hd
    refine wc_region ?_
    refine wl_val (r_move rfl) (ltn rfl) ?_
    refine wl_val (r_eql rfl rfl) (ltn rfl) ?_
    refine wl_split rfl (ltn rfl) (fun h20 => ?_) (fun h20 => ?_)
    · (try simp only [beq_iff_eq, bne_iff_ne, ne_eq, decide_eq_true_eq, decide_eq_false_iff_not, beq_eq_false_iff_ne, bne_eq_false_iff_eq, Bool.not_eq_true', Bool.not_eq_false', Bool.not_eq_eq_eq_not, Bool.not_true, Bool.not_false, gt_iff_lt, ge_iff_le, Int.not_lt, Int.not_le] at h20)
      refine wl_no rfl rfl rfl (ltn rfl) ?_
      refine wl_no rfl rfl rfl (ltn rfl) ?_
      refine wl_no rfl rfl rfl (ltn rfl) ?_
      refine wl_no rfl rfl rfl (ltn rfl) ?_
      refine wl_no rfl rfl rfl (ltn rfl) ?_
      refine wl_no rfl rfl rfl (ltn rfl) ?_
      refine wl_val (r_pick_t rfl rfl) (ltn rfl) ?_
      refine wl_val (r_move rfl) (ltn rfl) ?_
      refine wl_no rfl rfl rfl (ltn rfl) ?_
      refine wl_no rfl rfl rfl (ltn rfl) ?_
      refine wl_no rfl rfl rfl (ltn rfl) ?_
      refine wl_no rfl rfl rfl (ltn rfl) ?_
      refine wl_no rfl rfl rfl (ltn rfl) ?_
      refine wl_no rfl rfl rfl (ltn rfl) ?_
      refine wl_no rfl rfl rfl (ltn rfl) ?_
      refine wl_val (r_pick_t rfl rfl) (ltn rfl) ?_
      refine wl_val (r_move rfl) (ltn rfl) ?_
      refine wl_no rfl rfl rfl (ltn rfl) ?_
      refine wl_no rfl rfl rfl (ltn rfl) ?_
      refine wl_no rfl rfl rfl (ltn rfl) ?_
      refine wl_no rfl rfl rfl (ltn rfl) ?_
      refine wl_no rfl rfl rfl (ltn rfl) ?_
      refine wl_no rfl rfl rfl (ltn rfl) ?_
      refine wl_no rfl rfl rfl (ltn rfl) ?_
      refine wl_no rfl rfl rfl (ltn rfl) ?_
      refine wl_nou rfl rfl (ltn rfl) ?_
      refine wl_nou rfl rfl (ltn rfl) ?_
      refine wl_nou rfl rfl (ltn rfl) ?_
      refine wl_nou rfl rfl (ltn rfl) ?_
      refine wl_nou rfl rfl (ltn rfl) ?_
      refine wl_nou rfl rfl (ltn rfl) ?_
      refine wl_nou rfl rfl (ltn rfl) ?_
      refine wl_no rfl rfl rfl (ltn rfl) ?_
      refine wl_val (r_pick_t rfl rfl) (ltn rfl) ?_
      refine wl_nil ?_
      refine wq_seq ?_
      refine wc_cond_t rfl ?_
      refine wc_seq ?_
      refine wc_region ?_
      refine wl_val (r_assign rfl) (ltn rfl) ?_
      refine wl_nil ?_
      refine wq_seq ?_
      refine wc_ret ?_
      refine wq_then_ret ?_
      refine wq_end1 (.inl rfl) Try.results28 rfl ?_
      refine ⟨?_, HL⟩; unfold digS; rw [hd, if_pos (by unfold noDig; omega)]; rfl
    · (try simp only [beq_iff_eq, bne_iff_ne, ne_eq, decide_eq_true_eq, decide_eq_false_iff_not, beq_eq_false_iff_ne, bne_eq_false_iff_eq, Bool.not_eq_true', Bool.not_eq_false', Bool.not_eq_eq_eq_not, Bool.not_true, Bool.not_false, gt_iff_lt, ge_iff_le, Int.not_lt, Int.not_le] at h20)
      refine wl_yes rfl rfl ?_
      refine wl_val (r_move rfl) (ltn rfl) ?_
      refine wl_yes rfl rfl ?_
      refine wl_val (r_move rfl) (ltn rfl) ?_
      refine wl_yes rfl rfl ?_
      refine wl_val (r_as (r_add rfl rfl (by omega)) (show Value.int .i64 ((i : Int) + (n : Int)) = .int .i64 ((i + n : Nat) : Int) by rw [Int.natCast_add])) (ltn rfl) ?_
      refine wl_yes rfl rfl ?_
      refine wl_val (r_move rfl) (ltn rfl) ?_
      refine wl_yes rfl rfl ?_
      refine wl_val (r_lenR (hv _ (HL)) Try.underlying22 rfl) (ltn rfl) ?_
      refine wl_yes rfl rfl ?_
      refine wl_val (r_geq rfl rfl) (ltn rfl) ?_
      refine wl_val (r_pick_f rfl rfl) (ltn rfl) ?_
      refine wl_split rfl (ltn rfl) (fun h21 => ?_) (fun h21 => ?_)
      · (try simp only [beq_iff_eq, bne_iff_ne, ne_eq, decide_eq_true_eq, decide_eq_false_iff_not, beq_eq_false_iff_ne, bne_eq_false_iff_eq, Bool.not_eq_true', Bool.not_eq_false', Bool.not_eq_eq_eq_not, Bool.not_true, Bool.not_false, gt_iff_lt, ge_iff_le, Int.not_lt, Int.not_le] at h21)
        refine wl_no rfl rfl rfl (ltn rfl) ?_
        refine wl_no rfl rfl rfl (ltn rfl) ?_
        refine wl_no rfl rfl rfl (ltn rfl) ?_
        refine wl_no rfl rfl rfl (ltn rfl) ?_
        refine wl_no rfl rfl rfl (ltn rfl) ?_
        refine wl_no rfl rfl rfl (ltn rfl) ?_
        refine wl_no rfl rfl rfl (ltn rfl) ?_
        refine wl_val (r_pick_t rfl rfl) (ltn rfl) ?_
        refine wl_val (r_move rfl) (ltn rfl) ?_
        refine wl_no rfl rfl rfl (ltn rfl) ?_
        refine wl_no rfl rfl rfl (ltn rfl) ?_
        refine wl_no rfl rfl rfl (ltn rfl) ?_
        refine wl_no rfl rfl rfl (ltn rfl) ?_
        refine wl_no rfl rfl rfl (ltn rfl) ?_
        refine wl_no rfl rfl rfl (ltn rfl) ?_
        refine wl_no rfl rfl rfl (ltn rfl) ?_
        refine wl_no rfl rfl rfl (ltn rfl) ?_
        refine wl_nou rfl rfl (ltn rfl) ?_
        refine wl_nou rfl rfl (ltn rfl) ?_
        refine wl_nou rfl rfl (ltn rfl) ?_
        refine wl_nou rfl rfl (ltn rfl) ?_
        refine wl_nou rfl rfl (ltn rfl) ?_
        refine wl_nou rfl rfl (ltn rfl) ?_
        refine wl_nou rfl rfl (ltn rfl) ?_
        refine wl_no rfl rfl rfl (ltn rfl) ?_
        refine wl_val (r_pick_t rfl rfl) (ltn rfl) ?_
        refine wl_nil ?_
        refine wq_seq ?_
        refine wc_cond_t rfl ?_
        refine wc_seq ?_
        refine wc_region ?_
        refine wl_val (r_assign rfl) (ltn rfl) ?_
        refine wl_nil ?_
        refine wq_seq ?_
        refine wc_ret ?_
        refine wq_then_ret ?_
        refine wq_end1 (.inl rfl) Try.results28 rfl ?_
        refine ⟨?_, HL⟩; unfold digS; rw [hd, if_pos (by unfold noDig; omega)]; rfl
      · (try simp only [beq_iff_eq, bne_iff_ne, ne_eq, decide_eq_true_eq, decide_eq_false_iff_not, beq_eq_false_iff_ne, bne_eq_false_iff_eq, Bool.not_eq_true', Bool.not_eq_false', Bool.not_eq_eq_eq_not, Bool.not_true, Bool.not_false, gt_iff_lt, ge_iff_le, Int.not_lt, Int.not_le] at h21)
        refine wl_yes rfl rfl ?_
        refine wl_val (r_move rfl) (ltn rfl) ?_
        refine wl_yes rfl rfl ?_
        refine wl_val (r_move rfl) (ltn rfl) ?_
        refine wl_yes rfl rfl ?_
        refine wl_val (r_move rfl) (ltn rfl) ?_
        refine wl_yes rfl rfl ?_
        refine wl_val (r_as (r_add rfl rfl (by omega)) (show Value.int .i64 ((i : Int) + (n : Int)) = .int .i64 ((i + n : Nat) : Int) by rw [Int.natCast_add])) (ltn rfl) ?_
        refine wl_yes rfl rfl ?_
        obtain ⟨bu, ou, cu, eu⟩ := RdI.posV (hu _ (HL)) (by omega)
        cases eu
        refine wl_val (r_index Try.underlying47 Try.sizeOf3 rfl rfl (by omega)) (ltn rfl) ?_
        refine wl_yes rfl rfl ?_
        refine wl_val (r_as (r_load (plain_of Try.underlying3 rfl) rfl (by first | exact RdI.at1n (hu _ (HL)) (by omega) | exact RdI.at0 (hu _ (HL)) (by omega) | exact RdI.at1 (hu _ (HL)) (by omega))) (show Value.int .i64 ((statesS l).getD (i + n) 0) = .int .i64 (quoS l (i + n)) by rw [statesS_at (by omega)])) (ltn rfl) ?_
        refine wl_yes rfl rfl ?_
        refine wl_val (r_neq rfl rfl) (ltn rfl) ?_
        refine wl_val (r_pick_f rfl rfl) (ltn rfl) ?_
        refine wl_split rfl (ltn rfl) (fun h22 => ?_) (fun h22 => ?_)
        · (try simp only [beq_iff_eq, bne_iff_ne, ne_eq, decide_eq_true_eq, decide_eq_false_iff_not, beq_eq_false_iff_ne, bne_eq_false_iff_eq, Bool.not_eq_true', Bool.not_eq_false', Bool.not_eq_eq_eq_not, Bool.not_true, Bool.not_false, gt_iff_lt, ge_iff_le, Int.not_lt, Int.not_le] at h22)
          refine wl_no rfl rfl rfl (ltn rfl) ?_
          refine wl_no rfl rfl rfl (ltn rfl) ?_
          refine wl_no rfl rfl rfl (ltn rfl) ?_
          refine wl_no rfl rfl rfl (ltn rfl) ?_
          refine wl_no rfl rfl rfl (ltn rfl) ?_
          refine wl_no rfl rfl rfl (ltn rfl) ?_
          refine wl_no rfl rfl rfl (ltn rfl) ?_
          refine wl_no rfl rfl rfl (ltn rfl) ?_
          refine wl_nou rfl rfl (ltn rfl) ?_
          refine wl_nou rfl rfl (ltn rfl) ?_
          refine wl_nou rfl rfl (ltn rfl) ?_
          refine wl_nou rfl rfl (ltn rfl) ?_
          refine wl_nou rfl rfl (ltn rfl) ?_
          refine wl_nou rfl rfl (ltn rfl) ?_
          refine wl_nou rfl rfl (ltn rfl) ?_
          refine wl_no rfl rfl rfl (ltn rfl) ?_
          refine wl_val (r_pick_t rfl rfl) (ltn rfl) ?_
          refine wl_nil ?_
          refine wq_seq ?_
          refine wc_cond_t rfl ?_
          refine wc_seq ?_
          refine wc_region ?_
          refine wl_val (r_assign rfl) (ltn rfl) ?_
          refine wl_nil ?_
          refine wq_seq ?_
          refine wc_ret ?_
          refine wq_then_ret ?_
          refine wq_end1 (.inl rfl) Try.results28 rfl ?_
          refine ⟨?_, HL⟩; unfold digS; rw [hd, if_pos (by unfold noDig; omega)]; rfl
        · (try simp only [beq_iff_eq, bne_iff_ne, ne_eq, decide_eq_true_eq, decide_eq_false_iff_not, beq_eq_false_iff_ne, bne_eq_false_iff_eq, Bool.not_eq_true', Bool.not_eq_false', Bool.not_eq_eq_eq_not, Bool.not_true, Bool.not_false, gt_iff_lt, ge_iff_le, Int.not_lt, Int.not_le] at h22)
          refine wl_yes rfl rfl ?_
          refine wl_val (r_move rfl) (ltn rfl) ?_
          refine wl_yes rfl rfl ?_
          refine wl_val (r_move rfl) (ltn rfl) ?_
          refine wl_yes rfl rfl ?_
          refine wl_val (r_move rfl) (ltn rfl) ?_
          refine wl_yes rfl rfl ?_
          refine wl_val (r_as (r_add rfl rfl (by omega)) (show Value.int .i64 ((i : Int) + (n : Int)) = .int .i64 ((i + n : Nat) : Int) by rw [Int.natCast_add])) (ltn rfl) ?_
          refine wl_yes rfl rfl ?_
          obtain ⟨bv, ov, cv, ev⟩ := RdI.posV (hv _ (HL)) (by omega)
          cases ev
          refine wl_val (r_index Try.underlying22 Try.sizeOf21 rfl rfl (by omega)) (ltn rfl) ?_
          refine wl_yes rfl rfl ?_
          refine wl_val (r_load (plain_of Try.underlying21 rfl) rfl (by first | exact RdI.at1n (hv _ (HL)) (by omega) | exact RdI.at0 (hv _ (HL)) (by omega) | exact RdI.at1 (hv _ (HL)) (by omega))) (ltn rfl) ?_
          refine wl_yes rfl rfl ?_
          refine wl_val (r_neq rfl rfl) (ltn rfl) ?_
          refine wl_yes rfl rfl ?_
          refine wl_split rfl (ltn rfl) (fun h23 => ?_) (fun h23 => ?_)
          · (try simp only [beq_iff_eq, bne_iff_ne, ne_eq, decide_eq_true_eq, decide_eq_false_iff_not, beq_eq_false_iff_ne, bne_eq_false_iff_eq, Bool.not_eq_true', Bool.not_eq_false', Bool.not_eq_eq_eq_not, Bool.not_true, Bool.not_false, gt_iff_lt, ge_iff_le, Int.not_lt, Int.not_le] at h23)
            refine wl_yes rfl rfl ?_
            refine wl_val (r_move rfl) (ltn rfl) ?_
            refine wl_yes rfl rfl ?_
            refine wl_val (r_move rfl) (ltn rfl) ?_
            refine wl_yes rfl rfl ?_
            refine wl_val (r_move rfl) (ltn rfl) ?_
            refine wl_yes rfl rfl ?_
            refine wl_val (r_as (r_add rfl rfl (by omega)) (show Value.int .i64 ((i : Int) + (n : Int)) = .int .i64 ((i + n : Nat) : Int) by rw [Int.natCast_add])) (ltn rfl) ?_
            refine wl_yes rfl rfl ?_
            refine wl_val (r_index Try.underlying22 Try.sizeOf21 rfl rfl (by omega)) (ltn rfl) ?_
            refine wl_yes rfl rfl ?_
            refine wl_val (r_load (plain_of Try.underlying21 rfl) rfl (by first | exact RdI.at1n (hv _ (HL)) (by omega) | exact RdI.at0 (hv _ (HL)) (by omega) | exact RdI.at1 (hv _ (HL)) (by omega))) (ltn rfl) ?_
            refine wl_yes rfl rfl ?_
            refine wl_val (r_neq rfl rfl) (ltn rfl) ?_
            refine wl_yes rfl rfl ?_
            refine wl_val (r_pick_t rfl rfl) (ltn rfl) ?_
            refine wl_val (r_pick_f rfl rfl) (ltn rfl) ?_
            refine wl_nil ?_
            refine wq_seq ?_
            refine wc_cond rfl (fun h24 => ?_) (fun h24 => ?_)
            · (try simp only [beq_iff_eq, bne_iff_ne, ne_eq, decide_eq_true_eq, decide_eq_false_iff_not, beq_eq_false_iff_ne, bne_eq_false_iff_eq, Bool.not_eq_true', Bool.not_eq_false', Bool.not_eq_eq_eq_not, Bool.not_true, Bool.not_false, gt_iff_lt, ge_iff_le, Int.not_lt, Int.not_le] at h24)
              
              refine wc_seq ?_
              refine wc_region ?_
              refine wl_val (r_assign rfl) (ltn rfl) ?_
              refine wl_nil ?_
              refine wq_seq ?_
              refine wc_ret ?_
              refine wq_then_ret ?_
              refine wq_end1 (.inl rfl) Try.results28 rfl ?_
              refine ⟨?_, HL⟩; unfold digS; rw [hd, if_pos (by unfold noDig; omega)]; rfl
            · (try simp only [beq_iff_eq, bne_iff_ne, ne_eq, decide_eq_true_eq, decide_eq_false_iff_not, beq_eq_false_iff_ne, bne_eq_false_iff_eq, Bool.not_eq_true', Bool.not_eq_false', Bool.not_eq_eq_eq_not, Bool.not_true, Bool.not_false, gt_iff_lt, ge_iff_le, Int.not_lt, Int.not_le] at h24)
              
              refine wc_skip ?_
              refine wq_seq ?_
              refine wc_seq ?_
              refine wc_region ?_
              refine wl_val (r_move rfl) (ltn rfl) ?_
              refine wl_val (r_assign rfl) (ltn rfl) ?_
              refine wl_nil ?_
              refine wq_seq ?_
              refine wc_ret ?_
              refine wq_end1 (.inl rfl) Try.results28 rfl ?_
              refine ⟨?_, HL⟩; unfold digS; rw [hd, if_neg (by unfold noDig; omega)]
          · (try simp only [beq_iff_eq, bne_iff_ne, ne_eq, decide_eq_true_eq, decide_eq_false_iff_not, beq_eq_false_iff_ne, bne_eq_false_iff_eq, Bool.not_eq_true', Bool.not_eq_false', Bool.not_eq_eq_eq_not, Bool.not_true, Bool.not_false, gt_iff_lt, ge_iff_le, Int.not_lt, Int.not_le] at h23)
            refine wl_no rfl rfl rfl (ltn rfl) ?_
            refine wl_no rfl rfl rfl (ltn rfl) ?_
            refine wl_no rfl rfl rfl (ltn rfl) ?_
            refine wl_no rfl rfl rfl (ltn rfl) ?_
            refine wl_no rfl rfl rfl (ltn rfl) ?_
            refine wl_no rfl rfl rfl (ltn rfl) ?_
            refine wl_no rfl rfl rfl (ltn rfl) ?_
            refine wl_yes rfl rfl ?_
            refine wl_val (r_pick_f rfl rfl) (ltn rfl) ?_
            refine wl_val (r_pick_f rfl rfl) (ltn rfl) ?_
            refine wl_nil ?_
            refine wq_seq ?_
            refine wc_cond_f rfl ?_
            refine wc_skip ?_
            refine wq_seq ?_
            refine wc_seq ?_
            refine wc_region ?_
            refine wl_val (r_move rfl) (ltn rfl) ?_
            refine wl_val (r_assign rfl) (ltn rfl) ?_
            refine wl_nil ?_
            refine wq_seq ?_
            refine wc_ret ?_
            refine wq_end1 (.inl rfl) Try.results28 rfl ?_
            refine ⟨?_, HL⟩; unfold digS; rw [hd, if_neg (by unfold noDig; omega)]
theorem operator_ret (H : Holds w0 w F) (hv : FRdI w0 F .i32 v l) (hu : FRdI w0 F .i64 u (statesS l)) (hL : l.length ≤ 4294967296) (hi : i < l.length) : Ret Try.prog 30 #[v, u, .int .i64 (i : Int)] w fun v' w' => v' = .int .i64 (opS l i : Nat) ∧ Holds w0 w' F := by
  have hsl := statesS_len l
  refine ret_enter Try.func30 rfl Try.ntmps30 (Nat.le_of_ble_eq_true rfl) ?_
  dsimp only [slots0, Nat.reduceAdd]
  refine wc_seq ?_
  refine wc_region ?_
  refine wl_val (r_assign rfl) (ltn rfl) ?_
  refine wl_nil ?_
  refine wq_seq ?_
  refine wc_seq ?_
  refine wc_seq ?_
  refine wc_region ?_
  refine wl_eff (e_call (r_call rfl Try.func45 rfl rfl) (operators_ret H)) (ltn rfl) ?_
  rintro u1 w1 H1
  refine wl_val (r_lenS ((H1).row_rd) Try.underlying62 rfl) (ltn rfl) ?_
  refine wl_val (r_move rfl) (ltn rfl) ?_
  refine wl_nil ?_
  refine wq_seq ?_
  refine wc_block ?_
  obtain ⟨au1, cu1, eu1, -⟩ := ((H1).row_rd).form
  subst eu1
  refine wc_loop [(0, _), (1, _), (2, _), (10, _), (11, _)] (fun (k : Nat) => [(12, .int .i64 (k : Int))]) (fun (k : Nat) W => (k ≤ 14 ∧ opS l i = opIn l i (opsL.drop k)) ∧ Holds w0 W (Row 9 1 (.slice au1 14 cu1) 14 opVs • F)) (fun (k : Nat) => 14 - k) (0) (Sub.cons rfl (Sub.cons rfl (Sub.cons rfl (Sub.cons rfl (Sub.cons rfl (Sub.nil _)))))) (Sub.cons rfl (Sub.nil _)) ⟨⟨by omega, rfl⟩, H1⟩ ?_
  rintro k w3 ⟨⟨hk, hop⟩, HL⟩
  dsimp only [List.cons_append, List.nil_append]
  refine wc_seq ?_
  refine wc_region ?_
  refine wl_val (r_lss rfl rfl) (ltn rfl) ?_
  refine wl_nil ?_
  refine wq_seq ?_
  refine wc_seq ?_
  refine wc_cond rfl (fun h1 => ?_) (fun h1 => ?_)
  · (try simp only [beq_iff_eq, bne_iff_ne, ne_eq, decide_eq_true_eq, decide_eq_false_iff_not, beq_eq_false_iff_ne, bne_eq_false_iff_eq, Bool.not_eq_true', Bool.not_eq_false', Bool.not_eq_eq_eq_not, Bool.not_true, Bool.not_false, gt_iff_lt, ge_iff_le, Int.not_lt, Int.not_le] at h1)
    
    refine wc_skip ?_
    refine wq_seq ?_
    refine wc_seq ?_
    refine wc_block ?_
    refine wc_seq ?_
    have hkl : k < 14 := by omega
    have hos := op_size k hkl
    have hii : i + (opsL.getD k []).length - i = (opsL.getD k []).length := by omega
    refine wc_region ?_
    obtain ⟨bu1, ou1, rfl⟩ := Rd.pos ((HL).row_rd) (by omega)
    refine wl_val (r_index Try.underlying62 Try.sizeOf9 rfl rfl (by omega)) (ltn rfl) ?_
    refine wl_val (r_as (r_load (plain_of Try.underlying9 rfl) rfl (by first | exact Rd.at1n ((HL).row_rd) (by omega) | exact Rd.at0 ((HL).row_rd) (by omega) | exact Rd.at1 ((HL).row_rd) (by omega))) (opVs_at hkl)) (ltn rfl) ?_
    refine wl_val (r_assign rfl) (ltn rfl) ?_
    refine wl_nil ?_
    refine wq_seq ?_
    refine wc_seq ?_
    refine wc_region ?_
    refine wl_val (r_move rfl) (ltn rfl) ?_
    refine wl_val (r_as (r_len_str Try.underlying9 rfl) (show Value.int .i64 ((utf8 (opsL.getD k [])).size : Nat) = .int .i64 ((opsL.getD k []).length : Nat) by rw [hos.1])) (ltn rfl) ?_
    refine wl_val (r_assign rfl) (ltn rfl) ?_
    refine wl_nil ?_
    refine wq_seq ?_
    refine wc_seq ?_
    refine wc_region ?_
    refine wl_val (r_move rfl) (ltn rfl) ?_
    refine wl_val (r_move rfl) (ltn rfl) ?_
    refine wl_val (r_as (r_add rfl rfl (by omega)) (show Value.int .i64 ((i : Int) + ((opsL.getD k []).length : Nat)) = .int .i64 ((i + (opsL.getD k []).length : Nat) : Int) by rw [Int.natCast_add])) (ltn rfl) ?_
    refine wl_val (r_move rfl) (ltn rfl) ?_
    refine wl_val (r_lenR (hv _ (HL.right)) Try.underlying22 rfl) (ltn rfl) ?_
    refine wl_val (r_leq rfl rfl) (ltn rfl) ?_
    refine wl_split rfl (ltn rfl) (fun h2 => ?_) (fun h2 => ?_)
    · (try simp only [beq_iff_eq, bne_iff_ne, ne_eq, decide_eq_true_eq, decide_eq_false_iff_not, beq_eq_false_iff_ne, bne_eq_false_iff_eq, Bool.not_eq_true', Bool.not_eq_false', Bool.not_eq_eq_eq_not, Bool.not_true, Bool.not_false, gt_iff_lt, ge_iff_le, Int.not_lt, Int.not_le] at h2)
      refine wl_yes rfl rfl ?_
      refine wl_val (r_move rfl) (ltn rfl) ?_
      refine wl_yes rfl rfl ?_
      refine wl_val (r_move rfl) (ltn rfl) ?_
      refine wl_yes rfl rfl ?_
      refine wl_val (r_move rfl) (ltn rfl) ?_
      refine wl_yes rfl rfl ?_
      refine wl_val (r_move rfl) (ltn rfl) ?_
      refine wl_yes rfl rfl ?_
      refine wl_val (r_as (r_add rfl rfl (by omega)) (show Value.int .i64 ((i : Int) + ((opsL.getD k []).length : Nat)) = .int .i64 ((i + (opsL.getD k []).length : Nat) : Int) by rw [Int.natCast_add])) (ltn rfl) ?_
      refine wl_yes rfl rfl ?_
      refine wl_val (r_sliceS (hv _ (HL.right)) Try.underlying22 Try.sizeOf21 rfl rfl rfl (by omega)) (ltn rfl) ?_
      refine wl_yes rfl rfl ?_
      refine wl_val (r_runes_str Try.underlying22 Try.underlying9 Try.underlying21 rfl (RdI.cut (hv _ (HL.right)) (by omega) (by omega))) (ltn rfl) ?_
      refine wl_yes rfl rfl ?_
      refine wl_val (r_move rfl) (ltn rfl) ?_
      refine wl_yes rfl rfl ?_
      refine wl_val (r_as (r_str_eql rfl rfl) (show Value.bool ((utf8 _).toList == (utf8 _).toList) = .bool (decide ((l.drop i).take (i + (opsL.getD k []).length - i) = opsL.getD k [])) by rw [utf8_eq (ops_small _ (ops_mem hkl))]; rfl)) (ltn rfl) ?_
      refine wl_val (r_pick_t rfl rfl) (ltn rfl) ?_
      refine wl_split rfl (ltn rfl) (fun h3 => ?_) (fun h3 => ?_)
      · (try simp only [beq_iff_eq, bne_iff_ne, ne_eq, decide_eq_true_eq, decide_eq_false_iff_not, beq_eq_false_iff_ne, bne_eq_false_iff_eq, Bool.not_eq_true', Bool.not_eq_false', Bool.not_eq_eq_eq_not, Bool.not_true, Bool.not_false, gt_iff_lt, ge_iff_le, Int.not_lt, Int.not_le] at h3)
        refine wl_yes rfl rfl ?_
        refine wl_val (r_move rfl) (ltn rfl) ?_
        refine wl_yes rfl rfl ?_
        refine wl_val (r_move rfl) (ltn rfl) ?_
        refine wl_yes rfl rfl ?_
        refine wl_val (r_move rfl) (ltn rfl) ?_
        refine wl_yes rfl rfl ?_
        refine wl_val (r_move rfl) (ltn rfl) ?_
        refine wl_yes rfl rfl ?_
        refine wl_val (r_as (r_add rfl rfl (by omega)) (show Value.int .i64 ((i : Int) + ((opsL.getD k []).length : Nat)) = .int .i64 ((i + (opsL.getD k []).length : Nat) : Int) by rw [Int.natCast_add])) (ltn rfl) ?_
        refine wl_yes rfl rfl ?_
        refine wl_eff (e_call (r_call rfl Try.func46 rfl rfl) (free_ret HL (fun W HW => hu W HW.right) (by omega) (by omega))) (ltn rfl) ?_
        rintro _ w4 ⟨fb, rfl, hfb, H4⟩
        refine wl_val (r_pick_t rfl rfl) (ltn rfl) ?_
        refine wl_nil ?_
        refine wq_seq ?_
        refine wc_cond rfl (fun h4 => ?_) (fun h4 => ?_)
        · (try simp only [beq_iff_eq, bne_iff_ne, ne_eq, decide_eq_true_eq, decide_eq_false_iff_not, beq_eq_false_iff_ne, bne_eq_false_iff_eq, Bool.not_eq_true', Bool.not_eq_false', Bool.not_eq_eq_eq_not, Bool.not_true, Bool.not_false, gt_iff_lt, ge_iff_le, Int.not_lt, Int.not_le] at h4)
          have hyes : standsS l i (opsL.getD k []) = true := by unfold standsS; rw [decide_eq_true_eq]; exact ⟨by omega, by rw [hii] at h3; exact h3, fun j hj => by have := (hfb.1 h4) j (by omega); rwa [statesS_at (by omega)] at this⟩
          refine wc_seq ?_
          refine wc_region ?_
          refine wl_val (r_move rfl) (ltn rfl) ?_
          refine wl_val (r_assign rfl) (ltn rfl) ?_
          refine wl_nil ?_
          refine wq_seq ?_
          refine wc_ret ?_
          refine wq_block_ret ?_
          refine wq_then_ret ?_
          refine wq_then_ret ?_
          refine wq_block_ret ?_
          refine wq_then_ret ?_
          refine wq_end1 (.inl rfl) Try.results30 rfl ?_
          refine ⟨?_, H4.right⟩; rw [hop, op_drop hkl, opIn, if_pos hyes]
        · (try simp only [beq_iff_eq, bne_iff_ne, ne_eq, decide_eq_true_eq, decide_eq_false_iff_not, beq_eq_false_iff_ne, bne_eq_false_iff_eq, Bool.not_eq_true', Bool.not_eq_false', Bool.not_eq_eq_eq_not, Bool.not_true, Bool.not_false, gt_iff_lt, ge_iff_le, Int.not_lt, Int.not_le] at h4)
          
          refine wc_skip ?_
          refine wq_block_normal ?_
          refine wq_seq ?_
          refine wc_region ?_
          refine wl_val (r_add rfl rfl (by omega)) (ltn rfl) ?_
          refine wl_val (r_move rfl) (ltn rfl) ?_
          refine wl_nil ?_
          refine wq_round (k + 1) ?_ ?_ ?_ ?_
          · exact (Sub.cons rfl (Sub.nil _))
          · exact (Sub.cons rfl (Sub.cons rfl (Sub.cons rfl (Sub.cons rfl (Sub.cons rfl (Sub.nil _))))))
          · (try dsimp only)
            exact ⟨⟨by omega, by rw [hop, op_drop hkl, opIn, if_neg (by unfold standsS; rw [decide_eq_true_eq]; rintro ⟨qa, qb, qc⟩; first | omega | exact h3 (by rw [hii]; exact qb) | (have := hfb.2 (fun j hj => by rw [statesS_at (by omega)]; exact qc j (by omega)); simp_all))]⟩, H4⟩
          · (try dsimp only); omega
      · (try simp only [beq_iff_eq, bne_iff_ne, ne_eq, decide_eq_true_eq, decide_eq_false_iff_not, beq_eq_false_iff_ne, bne_eq_false_iff_eq, Bool.not_eq_true', Bool.not_eq_false', Bool.not_eq_eq_eq_not, Bool.not_true, Bool.not_false, gt_iff_lt, ge_iff_le, Int.not_lt, Int.not_le] at h3)
        refine wl_no rfl rfl rfl (ltn rfl) ?_
        refine wl_no rfl rfl rfl (ltn rfl) ?_
        refine wl_no rfl rfl rfl (ltn rfl) ?_
        refine wl_no rfl rfl rfl (ltn rfl) ?_
        refine wl_no rfl rfl rfl (ltn rfl) ?_
        refine wl_no rfl rfl rfl (ltn rfl) ?_
        refine wl_val (r_pick_f rfl rfl) (ltn rfl) ?_
        refine wl_nil ?_
        refine wq_seq ?_
        refine wc_cond_f rfl ?_
        refine wc_skip ?_
        refine wq_block_normal ?_
        refine wq_seq ?_
        refine wc_region ?_
        refine wl_val (r_add rfl rfl (by omega)) (ltn rfl) ?_
        refine wl_val (r_move rfl) (ltn rfl) ?_
        refine wl_nil ?_
        refine wq_round (k + 1) ?_ ?_ ?_ ?_
        · exact (Sub.cons rfl (Sub.nil _))
        · exact (Sub.cons rfl (Sub.cons rfl (Sub.cons rfl (Sub.cons rfl (Sub.cons rfl (Sub.nil _))))))
        · (try dsimp only)
          exact ⟨⟨by omega, by rw [hop, op_drop hkl, opIn, if_neg (by unfold standsS; rw [decide_eq_true_eq]; rintro ⟨qa, qb, qc⟩; first | omega | exact h3 (by rw [hii]; exact qb) | (have := hfb.2 (fun j hj => by rw [statesS_at (by omega)]; exact qc j (by omega)); simp_all))]⟩, HL⟩
        · (try dsimp only); omega
    · (try simp only [beq_iff_eq, bne_iff_ne, ne_eq, decide_eq_true_eq, decide_eq_false_iff_not, beq_eq_false_iff_ne, bne_eq_false_iff_eq, Bool.not_eq_true', Bool.not_eq_false', Bool.not_eq_eq_eq_not, Bool.not_true, Bool.not_false, gt_iff_lt, ge_iff_le, Int.not_lt, Int.not_le] at h2)
      refine wl_no rfl rfl rfl (ltn rfl) ?_
      refine wl_no rfl rfl rfl (ltn rfl) ?_
      refine wl_no rfl rfl rfl (ltn rfl) ?_
      refine wl_no rfl rfl rfl (ltn rfl) ?_
      refine wl_no rfl rfl rfl (ltn rfl) ?_
      refine wl_no rfl rfl rfl (ltn rfl) ?_
      refine wl_no rfl rfl rfl (ltn rfl) ?_
      refine wl_no rfl rfl rfl (ltn rfl) ?_
      refine wl_no rfl rfl rfl (ltn rfl) ?_
      refine wl_val (r_pick_f rfl rfl) (ltn rfl) ?_
      refine wl_val (r_move rfl) (ltn rfl) ?_
      refine wl_no rfl rfl rfl (ltn rfl) ?_
      refine wl_no rfl rfl rfl (ltn rfl) ?_
      refine wl_no rfl rfl rfl (ltn rfl) ?_
      refine wl_no rfl rfl rfl (ltn rfl) ?_
      refine wl_no rfl rfl rfl (ltn rfl) ?_
      refine wl_no rfl rfl rfl (ltn rfl) ?_
      refine wl_val (r_pick_f rfl rfl) (ltn rfl) ?_
      refine wl_nil ?_
      refine wq_seq ?_
      refine wc_cond_f rfl ?_
      refine wc_skip ?_
      refine wq_block_normal ?_
      refine wq_seq ?_
      refine wc_region ?_
      refine wl_val (r_add rfl rfl (by omega)) (ltn rfl) ?_
      refine wl_val (r_move rfl) (ltn rfl) ?_
      refine wl_nil ?_
      refine wq_round (k + 1) ?_ ?_ ?_ ?_
      · exact (Sub.cons rfl (Sub.nil _))
      · exact (Sub.cons rfl (Sub.cons rfl (Sub.cons rfl (Sub.cons rfl (Sub.cons rfl (Sub.nil _))))))
      · (try dsimp only)
        exact ⟨⟨by omega, by rw [hop, op_drop hkl, opIn, if_neg (by unfold standsS; rw [decide_eq_true_eq]; rintro ⟨qa, qb, qc⟩; first | omega | exact h3 (by rw [hii]; exact qb) | (have := hfb.2 (fun j hj => by rw [statesS_at (by omega)]; exact qc j (by omega)); simp_all))]⟩, HL⟩
      · (try dsimp only); omega
  · (try simp only [beq_iff_eq, bne_iff_ne, ne_eq, decide_eq_true_eq, decide_eq_false_iff_not, beq_eq_false_iff_ne, bne_eq_false_iff_eq, Bool.not_eq_true', Bool.not_eq_false', Bool.not_eq_eq_eq_not, Bool.not_true, Bool.not_false, gt_iff_lt, ge_iff_le, Int.not_lt, Int.not_le] at h1)
    
    refine wc_exit ?_
    refine wq_then_exit ?_
    refine wq_then_exit ?_
    refine wq_block_hit ?_
    refine wq_seq ?_
    refine wc_seq ?_
    refine wc_region ?_
    refine wl_val (r_assign rfl) (ltn rfl) ?_
    refine wl_nil ?_
    refine wq_seq ?_
    refine wc_ret ?_
    refine wq_end1 (.inl rfl) Try.results30 rfl ?_
    obtain rfl : k = 14 := by omega
    refine ⟨?_, HL.right⟩; rw [hop]; rfl
end
end Go.Proofs.Ytgoopiakpbcgoaa
