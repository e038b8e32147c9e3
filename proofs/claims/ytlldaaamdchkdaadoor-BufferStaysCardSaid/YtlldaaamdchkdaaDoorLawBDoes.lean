/- BufferDoes, walked. -/
import Derived.Test.YtlldaaamdchkdaaDoorDoes
set_option linter.unusedSimpArgs false
set_option linter.unusedVariables false
namespace Go.Proofs.YtlldaaamdchkdaaDoor
open Go.RowKit
/-- An operation. -/
structure BOp where
  kd : Int
  fr : Int
  to : Int
  tx : Value
  text : List Int
  a : Int
  d : Value
  dl : List Int
  i : Value
  il : List Int
instance : Inhabited BOp := ⟨⟨0, 0, 0, .slice none 0 0, [], 0, .slice none 0 0, [], .slice none 0 0, []⟩⟩
def BOp.enc (o : BOp) : List Value := [.int .i64 o.kd, .int .i64 o.fr, .int .i64 o.to, o.tx, .int .i64 o.a, o.d, o.i]
theorem BOp.enc_len (o : BOp) : o.enc.length = 7 := rfl
def BOp.Reads (W : World) (o : BOp) : Prop := (RdI W .i32 o.tx o.text ∧ o.text.length ≤ 140737488355328) ∧ (RdI W .i32 o.d o.dl ∧ o.dl.length ≤ 140737488355328) ∧ (RdI W .i32 o.i o.il ∧ o.il.length ≤ 140737488355328)
theorem bops_of {W : World} {H : Type} {enc : TypeId × Value → H} {cs : List Value} (h : In enc Tryd.prog W 59 cs) : ∃ (v : Value) (ops : List BOp), cs = [v] ∧ Rd W 7 v ops.length (ops.flatMap BOp.enc) ∧ ∀ k, k < ops.length → (ops.getD k default).Reads W := by
  obtain ⟨v, n, xs, e1, h1, h2, h3⟩ := h.slice Tryd.underlying59 (by rw [show Tryd.prog.cellsOf 26 = 7 from by kernel_rfl]; decide)
  rw [show Tryd.prog.cellsOf 26 = 7 from by kernel_rfl] at h1 h3
  obtain ⟨l, g1, g2, g3⟩ := rows_of (enc := BOp.enc) (p := fun o => o.Reads W) h1.len (fun k hk => by
    obtain ⟨k, f, t, tx, text, a, d, i, dl, il, e, ⟨gt, bt⟩, ⟨gd, bd⟩, ⟨gi, bi⟩⟩ := op_in (h3 k hk)
    rw [show reachBytes = 140737488351232 from rfl] at bt bd bi
    exact ⟨⟨k, f, t, tx, text, a, d, dl, i, il⟩, e, ⟨gt, by dsimp only; omega⟩, ⟨gd, by dsimp only; omega⟩, ⟨gi, by dsimp only; omega⟩⟩)
  subst g1 g2
  exact ⟨v, l, e1, h1, g3⟩
theorem buffer_does {w : World} {v lv : Value} {l : List Int} {ops : List BOp} (hT : Tabs w) (g1 : RdI w .i32 lv l) (g2 : Rd w 7 v ops.length (ops.flatMap BOp.enc)) (g3 : ∀ k, k < ops.length → (ops.getD k default).Reads w) :
    Ret Tryd.prog 9 #[lv, v] w fun v w' => v = .bool true ∧ Below w.heap.size w w' := by
  obtain ⟨F, H⟩ : ∃ F, Holds w w F := ⟨_, Holds.start w⟩
  have hl : FRdI w F .i32 lv l := FRdI.of_start g1 F
  have hv : FRd w F 7 v ops.length (ops.flatMap BOp.enc) := FRd.of_start g2 F
  have hbl : (ops.length : Int) ≤ 9223372036854775807 := by obtain ⟨_, a, c, _, h1, h2, _⟩ := g2; omega
  rcases Nat.lt_or_ge 1024 l.length with hlong | hshort
  · skip
    refine ret_enter Tryd.func9 rfl Tryd.ntmps9 (Nat.le_of_ble_eq_true rfl) ?_
    dsimp only [slots0, Nat.reduceAdd]
    refine wc_seq ?_
    refine wc_region ?_
    refine wl_val (r_assign rfl) (ltn rfl) ?_
    refine wl_nil ?_
    refine wq_seq ?_
    refine wc_seq ?_
    refine wc_region ?_
    refine wl_val (r_move rfl) (ltn rfl) ?_
    refine wl_eff (e_call (r_call rfl Tryd.func11 rfl rfl) (buf_new_long H (fun W HW => hl _ (HW)) hlong)) (ltn rfl) ?_
    rintro _ _ ⟨rfl, rfl⟩
    refine wl_val (r_move rfl) (ltn rfl) ?_
    refine wl_val (r_extract rfl rfl) (ltn rfl) ?_
    refine wl_val (r_extract rfl rfl) (ltn rfl) ?_
    refine wl_val (r_assign rfl) (ltn rfl) ?_
    refine wl_val (r_assign rfl) (ltn rfl) ?_
    refine wl_nil ?_
    refine wq_seq ?_
    refine wc_seq ?_
    refine wc_region ?_
    refine wl_val (r_move rfl) (ltn rfl) ?_
    refine wl_eff (e_call (r_call rfl Tryd.func16 rfl rfl) (ref_new_long H (fun W HW => hl _ (HW)) hlong)) (ltn rfl) ?_
    rintro _ _ ⟨rfl, rfl⟩
    refine wl_val (r_move rfl) (ltn rfl) ?_
    refine wl_val (r_extract rfl rfl) (ltn rfl) ?_
    refine wl_val (r_extract rfl rfl) (ltn rfl) ?_
    refine wl_val (r_assign rfl) (ltn rfl) ?_
    refine wl_val (r_assign rfl) (ltn rfl) ?_
    refine wl_nil ?_
    refine wq_seq ?_
    refine wc_seq ?_
    refine wc_seq ?_
    refine wc_region ?_
    refine wl_eff (e_call (r_call rfl Tryd.func12 rfl rfl) (live_ret H hT)) (ltn rfl) ?_
    rintro _ w3 ⟨rfl, H3⟩
    refine wl_val (r_not rfl) (ltn rfl) ?_
    refine wl_split rfl (ltn rfl) (fun h1 => ?_) (fun h1 => ?_)
    · (try simp only [beq_iff_eq, bne_iff_ne, ne_eq, decide_eq_true_eq, decide_eq_false_iff_not, beq_eq_false_iff_ne, bne_eq_false_iff_eq, Bool.not_eq_true', Bool.not_eq_false', Bool.not_eq_eq_eq_not, Bool.not_true, Bool.not_false, gt_iff_lt, ge_iff_le, Int.not_lt, Int.not_le] at h1)
      try (exfalso; first | contradiction | omega)
      all_goals
        refine wl_no rfl rfl rfl (ltn rfl) ?_
        refine wl_no rfl rfl rfl (ltn rfl) ?_
        refine wl_no rfl rfl rfl (ltn rfl) ?_
        refine wl_val (r_pick_t rfl rfl) (ltn rfl) ?_
        refine wl_val (r_move rfl) (ltn rfl) ?_
        refine wl_no rfl rfl rfl (ltn rfl) ?_
        refine wl_no rfl rfl rfl (ltn rfl) ?_
        refine wl_no rfl rfl rfl (ltn rfl) ?_
        refine wl_no rfl rfl rfl (ltn rfl) ?_
        refine wl_no rfl rfl rfl (ltn rfl) ?_
        refine wl_val (r_pick_t rfl rfl) (ltn rfl) ?_
        refine wl_nil ?_
        refine wq_seq ?_
        refine wc_cond_t rfl ?_
        refine wc_seq ?_
        refine wc_region ?_
        refine wl_val (r_assign rfl) (ltn rfl) ?_
        refine wl_nil ?_
        refine wq_seq ?_
        refine wc_ret ?_
        refine wq_then_ret ?_
        refine wq_end1 (.inl rfl) Tryd.results9 rfl ?_
        exact ⟨rfl, H3.base⟩
    · (try simp only [beq_iff_eq, bne_iff_ne, ne_eq, decide_eq_true_eq, decide_eq_false_iff_not, beq_eq_false_iff_ne, bne_eq_false_iff_eq, Bool.not_eq_true', Bool.not_eq_false', Bool.not_eq_eq_eq_not, Bool.not_true, Bool.not_false, gt_iff_lt, ge_iff_le, Int.not_lt, Int.not_le] at h1)
      try (exfalso; first | contradiction | omega)
      all_goals
        refine wl_yes rfl rfl ?_
        refine wl_val (r_move rfl) (ltn rfl) ?_
        refine wl_yes rfl rfl ?_
        refine wl_val (r_move rfl) (ltn rfl) ?_
        refine wl_yes rfl rfl ?_
        refine wl_val (r_neq rfl rfl) (ltn rfl) ?_
        refine wl_val (r_pick_f rfl rfl) (ltn rfl) ?_
        refine wl_split rfl (ltn rfl) (fun h => by exfalso; (try simp only [beq_iff_eq, bne_iff_ne, ne_eq, decide_eq_true_eq, decide_eq_false_iff_not, beq_eq_false_iff_ne, bne_eq_false_iff_eq, Bool.not_eq_true', Bool.not_eq_false', Bool.not_eq_eq_eq_not, Bool.not_true, Bool.not_false, gt_iff_lt, ge_iff_le, Int.not_lt, Int.not_le] at h); simp at h) (fun h2 => ?_)
        (try simp only [beq_iff_eq, bne_iff_ne, ne_eq, decide_eq_true_eq, decide_eq_false_iff_not, beq_eq_false_iff_ne, bne_eq_false_iff_eq, Bool.not_eq_true', Bool.not_eq_false', Bool.not_eq_eq_eq_not, Bool.not_true, Bool.not_false, gt_iff_lt, ge_iff_le, Int.not_lt, Int.not_le] at h2)
        refine wl_yes rfl rfl ?_
        refine wl_val (r_move rfl) (ltn rfl) ?_
        refine wl_yes rfl rfl ?_
        refine wl_val (r_ptr_nnil Tryd.underlying27 rfl rfl) (ltn rfl) ?_
        refine wl_yes rfl rfl ?_
        refine wl_val (r_move rfl) (ltn rfl) ?_
        refine wl_yes rfl rfl ?_
        refine wl_val (r_eql rfl rfl) (ltn rfl) ?_
        refine wl_yes rfl rfl ?_
        refine wl_val (r_neq_bool Tryd.underlying4 rfl rfl) (ltn rfl) ?_
        refine wl_val (r_pick_f rfl rfl) (ltn rfl) ?_
        refine wl_nil ?_
        refine wq_seq ?_
        refine wc_cond rfl (fun h => by exfalso; (try simp only [beq_iff_eq, bne_iff_ne, ne_eq, decide_eq_true_eq, decide_eq_false_iff_not, beq_eq_false_iff_ne, bne_eq_false_iff_eq, Bool.not_eq_true', Bool.not_eq_false', Bool.not_eq_eq_eq_not, Bool.not_true, Bool.not_false, gt_iff_lt, ge_iff_le, Int.not_lt, Int.not_le] at h); simp at h) (fun h3 => ?_)
        (try simp only [beq_iff_eq, bne_iff_ne, ne_eq, decide_eq_true_eq, decide_eq_false_iff_not, beq_eq_false_iff_ne, bne_eq_false_iff_eq, Bool.not_eq_true', Bool.not_eq_false', Bool.not_eq_eq_eq_not, Bool.not_true, Bool.not_false, gt_iff_lt, ge_iff_le, Int.not_lt, Int.not_le] at h3)
        refine wc_skip ?_
        refine wq_seq ?_
        refine wc_seq ?_
        refine wc_seq ?_
        refine wc_region ?_
        refine wl_val (r_move rfl) (ltn rfl) ?_
        refine wl_val (r_ptr_nil Tryd.underlying27 rfl rfl) (ltn rfl) ?_
        refine wl_nil ?_
        refine wq_seq ?_
        refine wc_cond rfl (fun h4 => ?_) (fun h => by exfalso; (try simp only [beq_iff_eq, bne_iff_ne, ne_eq, decide_eq_true_eq, decide_eq_false_iff_not, beq_eq_false_iff_ne, bne_eq_false_iff_eq, Bool.not_eq_true', Bool.not_eq_false', Bool.not_eq_eq_eq_not, Bool.not_true, Bool.not_false, gt_iff_lt, ge_iff_le, Int.not_lt, Int.not_le] at h); simp at h)
        (try simp only [beq_iff_eq, bne_iff_ne, ne_eq, decide_eq_true_eq, decide_eq_false_iff_not, beq_eq_false_iff_ne, bne_eq_false_iff_eq, Bool.not_eq_true', Bool.not_eq_false', Bool.not_eq_eq_eq_not, Bool.not_true, Bool.not_false, gt_iff_lt, ge_iff_le, Int.not_lt, Int.not_le] at h4)
        refine wc_seq ?_
        refine wc_region ?_
        refine wl_val (r_assign rfl) (ltn rfl) ?_
        refine wl_nil ?_
        refine wq_seq ?_
        refine wc_ret ?_
        refine wq_then_ret ?_
        refine wq_end1 (.inl rfl) Tryd.results9 rfl ?_
        exact ⟨rfl, H3.base⟩
  · skip
    refine ret_enter Tryd.func9 rfl Tryd.ntmps9 (Nat.le_of_ble_eq_true rfl) ?_
    dsimp only [slots0, Nat.reduceAdd]
    refine wc_seq ?_
    refine wc_region ?_
    refine wl_val (r_assign rfl) (ltn rfl) ?_
    refine wl_nil ?_
    refine wq_seq ?_
    refine wc_seq ?_
    refine wc_region ?_
    refine wl_val (r_move rfl) (ltn rfl) ?_
    refine wl_eff (e_call (r_call rfl Tryd.func11 rfl rfl) (buf_new_ret H (fun W HW => hl _ (HW)) hshort)) (ltn rfl) ?_
    rintro _ w1 ⟨p1, rfl, H1⟩
    refine wl_val (r_move rfl) (ltn rfl) ?_
    refine wl_val (r_extract rfl rfl) (ltn rfl) ?_
    refine wl_val (r_extract rfl rfl) (ltn rfl) ?_
    refine wl_val (r_assign rfl) (ltn rfl) ?_
    refine wl_val (r_assign rfl) (ltn rfl) ?_
    refine wl_nil ?_
    refine wq_seq ?_
    refine wc_seq ?_
    refine wc_region ?_
    refine wl_val (r_move rfl) (ltn rfl) ?_
    refine wl_eff (e_call (r_call rfl Tryd.func16 rfl rfl) (ref_new_ret H1 (fun W HW => hl _ (HW.right)) hshort)) (ltn rfl) ?_
    rintro _ w2 ⟨p2, rfl, H2⟩
    refine wl_val (r_move rfl) (ltn rfl) ?_
    refine wl_val (r_extract rfl rfl) (ltn rfl) ?_
    refine wl_val (r_extract rfl rfl) (ltn rfl) ?_
    refine wl_val (r_assign rfl) (ltn rfl) ?_
    refine wl_val (r_assign rfl) (ltn rfl) ?_
    refine wl_nil ?_
    refine wq_seq ?_
    refine wc_seq ?_
    refine wc_seq ?_
    refine wc_region ?_
    refine wl_eff (e_call (r_call rfl Tryd.func12 rfl rfl) (live_ret H2 hT)) (ltn rfl) ?_
    rintro _ w3 ⟨rfl, H3⟩
    refine wl_val (r_not rfl) (ltn rfl) ?_
    refine wl_split rfl (ltn rfl) (fun h1 => ?_) (fun h1 => ?_)
    · (try simp only [beq_iff_eq, bne_iff_ne, ne_eq, decide_eq_true_eq, decide_eq_false_iff_not, beq_eq_false_iff_ne, bne_eq_false_iff_eq, Bool.not_eq_true', Bool.not_eq_false', Bool.not_eq_eq_eq_not, Bool.not_true, Bool.not_false, gt_iff_lt, ge_iff_le, Int.not_lt, Int.not_le] at h1)
      try (exfalso; first | contradiction | omega)
      all_goals
        refine wl_no rfl rfl rfl (ltn rfl) ?_
        refine wl_no rfl rfl rfl (ltn rfl) ?_
        refine wl_no rfl rfl rfl (ltn rfl) ?_
        refine wl_val (r_pick_t rfl rfl) (ltn rfl) ?_
        refine wl_val (r_move rfl) (ltn rfl) ?_
        refine wl_no rfl rfl rfl (ltn rfl) ?_
        refine wl_no rfl rfl rfl (ltn rfl) ?_
        refine wl_no rfl rfl rfl (ltn rfl) ?_
        refine wl_no rfl rfl rfl (ltn rfl) ?_
        refine wl_no rfl rfl rfl (ltn rfl) ?_
        refine wl_val (r_pick_t rfl rfl) (ltn rfl) ?_
        refine wl_nil ?_
        refine wq_seq ?_
        refine wc_cond_t rfl ?_
        refine wc_seq ?_
        refine wc_region ?_
        refine wl_val (r_assign rfl) (ltn rfl) ?_
        refine wl_nil ?_
        refine wq_seq ?_
        refine wc_ret ?_
        refine wq_then_ret ?_
        refine wq_end1 (.inl rfl) Tryd.results9 rfl ?_
        exact ⟨rfl, H3.base⟩
    · (try simp only [beq_iff_eq, bne_iff_ne, ne_eq, decide_eq_true_eq, decide_eq_false_iff_not, beq_eq_false_iff_ne, bne_eq_false_iff_eq, Bool.not_eq_true', Bool.not_eq_false', Bool.not_eq_eq_eq_not, Bool.not_true, Bool.not_false, gt_iff_lt, ge_iff_le, Int.not_lt, Int.not_le] at h1)
      try (exfalso; first | contradiction | omega)
      all_goals
        refine wl_yes rfl rfl ?_
        refine wl_val (r_move rfl) (ltn rfl) ?_
        refine wl_yes rfl rfl ?_
        refine wl_val (r_move rfl) (ltn rfl) ?_
        refine wl_yes rfl rfl ?_
        refine wl_val (r_neq rfl rfl) (ltn rfl) ?_
        refine wl_val (r_pick_f rfl rfl) (ltn rfl) ?_
        refine wl_split rfl (ltn rfl) (fun h => by exfalso; (try simp only [beq_iff_eq, bne_iff_ne, ne_eq, decide_eq_true_eq, decide_eq_false_iff_not, beq_eq_false_iff_ne, bne_eq_false_iff_eq, Bool.not_eq_true', Bool.not_eq_false', Bool.not_eq_eq_eq_not, Bool.not_true, Bool.not_false, gt_iff_lt, ge_iff_le, Int.not_lt, Int.not_le] at h); simp at h) (fun h2 => ?_)
        (try simp only [beq_iff_eq, bne_iff_ne, ne_eq, decide_eq_true_eq, decide_eq_false_iff_not, beq_eq_false_iff_ne, bne_eq_false_iff_eq, Bool.not_eq_true', Bool.not_eq_false', Bool.not_eq_eq_eq_not, Bool.not_true, Bool.not_false, gt_iff_lt, ge_iff_le, Int.not_lt, Int.not_le] at h2)
        refine wl_yes rfl rfl ?_
        refine wl_val (r_move rfl) (ltn rfl) ?_
        refine wl_yes rfl rfl ?_
        refine wl_val (r_ptr_nnil Tryd.underlying27 rfl rfl) (ltn rfl) ?_
        refine wl_yes rfl rfl ?_
        refine wl_val (r_move rfl) (ltn rfl) ?_
        refine wl_yes rfl rfl ?_
        refine wl_val (r_eql rfl rfl) (ltn rfl) ?_
        refine wl_yes rfl rfl ?_
        refine wl_val (r_neq_bool Tryd.underlying4 rfl rfl) (ltn rfl) ?_
        refine wl_val (r_pick_f rfl rfl) (ltn rfl) ?_
        refine wl_nil ?_
        refine wq_seq ?_
        refine wc_cond rfl (fun h => by exfalso; (try simp only [beq_iff_eq, bne_iff_ne, ne_eq, decide_eq_true_eq, decide_eq_false_iff_not, beq_eq_false_iff_ne, bne_eq_false_iff_eq, Bool.not_eq_true', Bool.not_eq_false', Bool.not_eq_eq_eq_not, Bool.not_true, Bool.not_false, gt_iff_lt, ge_iff_le, Int.not_lt, Int.not_le] at h); simp at h) (fun h3 => ?_)
        (try simp only [beq_iff_eq, bne_iff_ne, ne_eq, decide_eq_true_eq, decide_eq_false_iff_not, beq_eq_false_iff_ne, bne_eq_false_iff_eq, Bool.not_eq_true', Bool.not_eq_false', Bool.not_eq_eq_eq_not, Bool.not_true, Bool.not_false, gt_iff_lt, ge_iff_le, Int.not_lt, Int.not_le] at h3)
        refine wc_skip ?_
        refine wq_seq ?_
        refine wc_seq ?_
        refine wc_seq ?_
        refine wc_region ?_
        refine wl_val (r_move rfl) (ltn rfl) ?_
        refine wl_val (r_ptr_nil Tryd.underlying27 rfl rfl) (ltn rfl) ?_
        refine wl_nil ?_
        refine wq_seq ?_
        refine wc_cond rfl (fun h => by exfalso; (try simp only [beq_iff_eq, bne_iff_ne, ne_eq, decide_eq_true_eq, decide_eq_false_iff_not, beq_eq_false_iff_ne, bne_eq_false_iff_eq, Bool.not_eq_true', Bool.not_eq_false', Bool.not_eq_eq_eq_not, Bool.not_true, Bool.not_false, gt_iff_lt, ge_iff_le, Int.not_lt, Int.not_le] at h); simp at h) (fun h4 => ?_)
        (try simp only [beq_iff_eq, bne_iff_ne, ne_eq, decide_eq_true_eq, decide_eq_false_iff_not, beq_eq_false_iff_ne, bne_eq_false_iff_eq, Bool.not_eq_true', Bool.not_eq_false', Bool.not_eq_eq_eq_not, Bool.not_true, Bool.not_false, gt_iff_lt, ge_iff_le, Int.not_lt, Int.not_le] at h4)
        refine wc_skip ?_
        refine wq_seq ?_
        refine wc_seq ?_
        refine wc_seq ?_
        refine wc_region ?_
        refine wl_val (r_move rfl) (ltn rfl) ?_
        refine wl_val (r_lenS (hv _ (H3.right.right)) Tryd.underlying59 rfl) (ltn rfl) ?_
        refine wl_val (r_move rfl) (ltn rfl) ?_
        refine wl_nil ?_
        refine wq_seq ?_
        refine wc_block ?_
        refine wc_loop [(7, _), (38, _), (39, _)] (fun (⟨k, pl⟩ : Nat × Nat) => [(5, .pointer (some ⟨pl, 0, none⟩)), (40, .int .i64 (k : Int))]) (fun (⟨k, pl⟩ : Nat × Nat) W => k ≤ ops.length ∧ ∃ L pt mk, Holds w W (BufRep pl L pt mk • RefRep p2 L pt mk • F)) (fun (⟨k, pl⟩ : Nat × Nat) => ops.length - k) ((0, p1)) (Sub.cons rfl (Sub.cons rfl (Sub.cons rfl (Sub.nil _)))) (Sub.cons rfl (Sub.cons rfl (Sub.nil _))) ⟨by omega, _, _, _, H3.f2⟩ ?_
        rintro ⟨k, pl⟩ w4 ⟨hk, L, pt, mk, HL⟩
        dsimp only [List.cons_append, List.nil_append]
        refine wc_seq ?_
        refine wc_region ?_
        refine wl_val (r_lss rfl rfl) (ltn rfl) ?_
        refine wl_nil ?_
        refine wq_seq ?_
        refine wc_seq ?_
        refine wc_cond rfl (fun h5 => ?_) (fun h5 => ?_)
        · (try simp only [beq_iff_eq, bne_iff_ne, ne_eq, decide_eq_true_eq, decide_eq_false_iff_not, beq_eq_false_iff_ne, bne_eq_false_iff_eq, Bool.not_eq_true', Bool.not_eq_false', Bool.not_eq_eq_eq_not, Bool.not_true, Bool.not_false, gt_iff_lt, ge_iff_le, Int.not_lt, Int.not_le] at h5)
          try (exfalso; first | contradiction | omega)
          all_goals
            
            refine wc_skip ?_
            refine wq_seq ?_
            refine wc_seq ?_
            refine wc_block ?_
            refine wc_seq ?_
            refine wc_region ?_
            obtain ⟨bv, ov, cv, ev⟩ := Rd.posV (hv _ (HL.right.right)) (by omega)
            cases ev
            refine wl_val (r_index Tryd.underlying59 Tryd.sizeOf26 rfl rfl (by omega)) (ltn rfl) ?_
            refine wl_val (r_load_elem (ys := [_, _, _, _, _, _, _]) (hv _ (HL.right.right)) (by omega) Tryd.underlying26 rfl Tryd.sizeOf26 rfl (flat_elem BOp.enc_len (by omega) default) rfl) (ltn rfl) ?_
            obtain ⟨⟨q1, q2⟩, ⟨q3, q4⟩, ⟨q5, q6⟩⟩ := g3 k (by omega)
            have f1 := FRdI.of_start q1 F
            have f2 := FRdI.of_start q3 F
            have f3 := FRdI.of_start q5 F
            refine wl_eff (e_allocL (l := [_, _, _, _, _, _, _]) HL Tryd.zeroValue26 rfl) (ltn rfl) ?_
            rintro _ w5 ⟨b5, rfl, H5⟩
            refine wl_eff0 (e_storePL 0 (l' := [_, _, _, _, _, _, _]) (us := [_, _, _, _, _, _, _]) H5 Tryd.sizeOf26 rfl rfl rfl (ones_cons (by first | rfl | assumption) (ones_cons (by first | rfl | assumption) (ones_cons (by first | rfl | assumption) (ones_cons (by first | rfl | exact Rd.one (f1 _ (H5.right.right.right))) (ones_cons (by first | rfl | assumption) (ones_cons (by first | rfl | exact Rd.one (f2 _ (H5.right.right.right))) (ones_cons (by first | rfl | exact Rd.one (f3 _ (H5.right.right.right))) ones_nil))))))) rfl rfl) ?_
            rintro _ w6 H6
            refine wl_nil ?_
            refine wq_seq ?_
            refine wc_join [(7, _), (10, _), (38, _), (39, _), (40, _)] (fun (pj : Nat) => [(5, .pointer (some ⟨pj, 0, none⟩))]) (fun (pj : Nat) W => ∃ L pt mk, Holds w W (BufRep pj L pt mk • RefRep p2 L pt mk • blk b5 (.cells (BOp.enc (ops.getD k default)).toArray 26 (0, 0)) • F)) (Sub.cons rfl (Sub.cons rfl (Sub.cons rfl (Sub.cons rfl (Sub.cons rfl (Sub.nil _)))))) ?_ ?_
            · rintro pj w7 ⟨L, pt, mk, HJ⟩
              dsimp only [List.cons_append, List.nil_append]
              refine wc_seq ?_
              refine wc_region ?_
              refine wl_val (r_move rfl) (ltn rfl) ?_
              refine wl_val (r_move rfl) (ltn rfl) ?_
              refine wl_val (r_load_whole Tryd.underlying26 rfl Tryd.sizeOf26 rfl rfl (HJ.f3).get.2) (ltn rfl) ?_
              refine wl_eff (e_call (r_call rfl Tryd.func48 rfl rfl) (does_ret HJ.f2.f2 (fun W HW => f1 _ (HW.right)) (fun W HW => f2 _ (HW.right)) (fun W HW => f3 _ (HW.right)) (by omega) (by omega))) (ltn rfl) ?_
              rintro _ w8 ⟨L8, pt8, mk8, rfl, H8⟩
              refine wl_val (r_not rfl) (ltn rfl) ?_
              refine wl_split rfl (ltn rfl) (fun h6 => ?_) (fun h6 => ?_)
              · (try simp only [beq_iff_eq, bne_iff_ne, ne_eq, decide_eq_true_eq, decide_eq_false_iff_not, beq_eq_false_iff_ne, bne_eq_false_iff_eq, Bool.not_eq_true', Bool.not_eq_false', Bool.not_eq_eq_eq_not, Bool.not_true, Bool.not_false, gt_iff_lt, ge_iff_le, Int.not_lt, Int.not_le] at h6)
                try (exfalso; first | contradiction | omega)
                all_goals
                  refine wl_no rfl rfl rfl (ltn rfl) ?_
                  refine wl_no rfl rfl rfl (ltn rfl) ?_
                  refine wl_no rfl rfl rfl (ltn rfl) ?_
                  refine wl_no rfl rfl rfl (ltn rfl) ?_
                  refine wl_val (r_pick_t rfl rfl) (ltn rfl) ?_
                  refine wl_nil ?_
                  refine wq_seq ?_
                  refine wc_cond_t rfl ?_
                  refine wc_seq ?_
                  refine wc_region ?_
                  refine wl_val (r_assign rfl) (ltn rfl) ?_
                  refine wl_nil ?_
                  refine wq_seq ?_
                  refine wc_ret ?_
                  refine wq_block_ret ?_
                  refine wq_then_ret ?_
                  refine wq_then_ret ?_
                  refine wq_block_ret ?_
                  refine wq_then_ret ?_
                  refine wq_end1 (.inl rfl) Tryd.results9 rfl ?_
                  exact ⟨rfl, H8.base⟩
              · (try simp only [beq_iff_eq, bne_iff_ne, ne_eq, decide_eq_true_eq, decide_eq_false_iff_not, beq_eq_false_iff_ne, bne_eq_false_iff_eq, Bool.not_eq_true', Bool.not_eq_false', Bool.not_eq_eq_eq_not, Bool.not_true, Bool.not_false, gt_iff_lt, ge_iff_le, Int.not_lt, Int.not_le] at h6)
                try (exfalso; first | contradiction | omega)
                all_goals
                  refine wl_yes rfl rfl ?_
                  refine wl_val (r_move rfl) (ltn rfl) ?_
                  refine wl_yes rfl rfl ?_
                  refine wl_val (r_move rfl) (ltn rfl) ?_
                  refine wl_yes rfl rfl ?_
                  refine wl_eff (e_call (r_call rfl Tryd.func22 rfl rfl) (is_keep_ret H8.f2.f2)) (ltn rfl) ?_
                  rintro _ w9 ⟨rfl, H9⟩
                  refine wl_yes rfl rfl ?_
                  refine wl_val (r_not rfl) (ltn rfl) ?_
                  refine wl_val (r_pick_f rfl rfl) (ltn rfl) ?_
                  refine wl_nil ?_
                  refine wq_seq ?_
                  refine wc_cond rfl (fun h7 => ?_) (fun h7 => ?_)
                  · (try simp only [beq_iff_eq, bne_iff_ne, ne_eq, decide_eq_true_eq, decide_eq_false_iff_not, beq_eq_false_iff_ne, bne_eq_false_iff_eq, Bool.not_eq_true', Bool.not_eq_false', Bool.not_eq_eq_eq_not, Bool.not_true, Bool.not_false, gt_iff_lt, ge_iff_le, Int.not_lt, Int.not_le] at h7)
                    try (exfalso; first | contradiction | omega)
                    all_goals
                      
                      refine wc_seq ?_
                      refine wc_region ?_
                      refine wl_val (r_assign rfl) (ltn rfl) ?_
                      refine wl_nil ?_
                      refine wq_seq ?_
                      refine wc_ret ?_
                      refine wq_block_ret ?_
                      refine wq_then_ret ?_
                      refine wq_then_ret ?_
                      refine wq_block_ret ?_
                      refine wq_then_ret ?_
                      refine wq_end1 (.inl rfl) Tryd.results9 rfl ?_
                      exact ⟨rfl, H9.base⟩
                  · (try simp only [beq_iff_eq, bne_iff_ne, ne_eq, decide_eq_true_eq, decide_eq_false_iff_not, beq_eq_false_iff_ne, bne_eq_false_iff_eq, Bool.not_eq_true', Bool.not_eq_false', Bool.not_eq_eq_eq_not, Bool.not_true, Bool.not_false, gt_iff_lt, ge_iff_le, Int.not_lt, Int.not_le] at h7)
                    try (exfalso; first | contradiction | omega)
                    all_goals
                      
                      refine wc_skip ?_
                      refine wq_block_normal ?_
                      refine wq_seq ?_
                      refine wc_region ?_
                      refine wl_val (r_add rfl rfl (by omega)) (ltn rfl) ?_
                      refine wl_val (r_move rfl) (ltn rfl) ?_
                      refine wl_nil ?_
                      refine wq_round ((k + 1, pj)) ?_ ?_ ?_ ?_
                      · exact (Sub.cons rfl (Sub.cons rfl (Sub.nil _)))
                      · exact (Sub.cons rfl (Sub.cons rfl (Sub.cons rfl (Sub.nil _))))
                      · (try dsimp only)
                        exact ⟨by omega, _, _, _, H9.f3.right.f2.f2⟩
                      · (try dsimp only); omega
            · skip
              refine wc_seq ?_
              refine wc_region ?_
              refine wl_val ((by first | exact r_field0 0 Tryd.underlying26 rfl rfl Tryd.sizeOf3 (by decide) rfl | exact r_field 0 Tryd.underlying26 rfl rfl Tryd.sizeOf3 (by decide) rfl)) (ltn rfl) ?_
              refine wl_val (r_load (plain_of Tryd.underlying3 rfl) rfl (cell_of_blk (H6).get.2 rfl)) (ltn rfl) ?_
              refine wl_val (r_eql rfl rfl) (ltn rfl) ?_
              refine wl_nil ?_
              refine wq_seq ?_
              refine wc_cond rfl (fun h8 => ?_) (fun h8 => ?_)
              · (try simp only [beq_iff_eq, bne_iff_ne, ne_eq, decide_eq_true_eq, decide_eq_false_iff_not, beq_eq_false_iff_ne, bne_eq_false_iff_eq, Bool.not_eq_true', Bool.not_eq_false', Bool.not_eq_eq_eq_not, Bool.not_true, Bool.not_false, gt_iff_lt, ge_iff_le, Int.not_lt, Int.not_le] at h8)
                try (exfalso; first | contradiction | omega)
                all_goals
                  
                  refine wc_seq ?_
                  refine wc_region ?_
                  refine wl_val (r_move rfl) (ltn rfl) ?_
                  refine wl_eff (e_call (r_call rfl Tryd.func47 rfl rfl) (buf_clone_ret H6.f2)) (ltn rfl) ?_
                  rintro _ w10 ⟨q10, rfl, H10⟩
                  refine wl_val (r_assign rfl) (ltn rfl) ?_
                  refine wl_nil ?_
                  refine wq_seq ?_
                  refine wc_seq ?_
                  refine wc_seq ?_
                  refine wc_region ?_
                  refine wl_val (r_move rfl) (ltn rfl) ?_
                  refine wl_val (r_ptr_nil Tryd.underlying27 rfl rfl) (ltn rfl) ?_
                  refine wl_nil ?_
                  refine wq_seq ?_
                  refine wc_cond rfl (fun h => by exfalso; (try simp only [beq_iff_eq, bne_iff_ne, ne_eq, decide_eq_true_eq, decide_eq_false_iff_not, beq_eq_false_iff_ne, bne_eq_false_iff_eq, Bool.not_eq_true', Bool.not_eq_false', Bool.not_eq_eq_eq_not, Bool.not_true, Bool.not_false, gt_iff_lt, ge_iff_le, Int.not_lt, Int.not_le] at h); simp at h) (fun h9 => ?_)
                  (try simp only [beq_iff_eq, bne_iff_ne, ne_eq, decide_eq_true_eq, decide_eq_false_iff_not, beq_eq_false_iff_ne, bne_eq_false_iff_eq, Bool.not_eq_true', Bool.not_eq_false', Bool.not_eq_eq_eq_not, Bool.not_true, Bool.not_false, gt_iff_lt, ge_iff_le, Int.not_lt, Int.not_le] at h9)
                  refine wc_skip ?_
                  refine wq_seq ?_
                  refine wc_seq ?_
                  refine wc_region ?_
                  refine wl_val (r_move rfl) (ltn rfl) ?_
                  refine wl_val ((by first | exact r_field0 1 Tryd.underlying26 rfl rfl Tryd.sizeOf3 (by decide) rfl | exact r_field 1 Tryd.underlying26 rfl rfl Tryd.sizeOf3 (by decide) rfl)) (ltn rfl) ?_
                  refine wl_val (r_load (plain_of Tryd.underlying3 rfl) rfl (cell_of_blk (H10.f3).get.2 rfl)) (ltn rfl) ?_
                  refine wl_val ((by first | exact r_field0 2 Tryd.underlying26 rfl rfl Tryd.sizeOf3 (by decide) rfl | exact r_field 2 Tryd.underlying26 rfl rfl Tryd.sizeOf3 (by decide) rfl)) (ltn rfl) ?_
                  refine wl_val (r_load (plain_of Tryd.underlying3 rfl) rfl (cell_of_blk (H10.f3).get.2 rfl)) (ltn rfl) ?_
                  refine wl_val ((by first | exact r_field0 3 Tryd.underlying26 rfl rfl Tryd.sizeOf22 (by decide) rfl | exact r_field 3 Tryd.underlying26 rfl rfl Tryd.sizeOf22 (by decide) rfl)) (ltn rfl) ?_
                  refine wl_val (r_load (plain_of Tryd.underlying22 rfl) rfl (cell_of_blk (H10.f3).get.2 rfl)) (ltn rfl) ?_
                  refine wl_eff (e_call (r_call rfl Tryd.func13 rfl rfl) (buf_replace_ret H10.f2 (fun W HW => f1 _ (HW.right.right.right)))) (ltn rfl) ?_
                  rintro _ w11 ⟨d11, s11, rfl, H11⟩
                  refine wl_nil ?_
                  refine wq_seq ?_
                  refine wc_seq ?_
                  refine wc_region ?_
                  refine wl_val (r_move rfl) (ltn rfl) ?_
                  refine wl_eff (e_call (r_call rfl Tryd.func17 rfl rfl) (buf_move_ret H11.f3)) (ltn rfl) ?_
                  rintro _ w12 ⟨rfl, H12⟩
                  refine wl_nil ?_
                  refine wq_seq ?_
                  refine wc_region ?_
                  refine wl_val (r_move rfl) (ltn rfl) ?_
                  refine wl_val (r_assign rfl) (ltn rfl) ?_
                  refine wl_nil ?_
                  refine wq_join (_) (Sub.cons rfl (Sub.nil _)) (Sub.cons rfl (Sub.cons rfl (Sub.cons rfl (Sub.cons rfl (Sub.cons rfl (Sub.nil _)))))) (by (try dsimp only); exact ⟨_, _, _, H12.right.right.right.f2.f3.f3⟩)
              · (try simp only [beq_iff_eq, bne_iff_ne, ne_eq, decide_eq_true_eq, decide_eq_false_iff_not, beq_eq_false_iff_ne, bne_eq_false_iff_eq, Bool.not_eq_true', Bool.not_eq_false', Bool.not_eq_eq_eq_not, Bool.not_true, Bool.not_false, gt_iff_lt, ge_iff_le, Int.not_lt, Int.not_le] at h8)
                try (exfalso; first | contradiction | omega)
                all_goals
                  
                  refine wc_skip ?_
                  refine wq_join (_) (Sub.cons rfl (Sub.nil _)) (Sub.cons rfl (Sub.cons rfl (Sub.cons rfl (Sub.cons rfl (Sub.cons rfl (Sub.nil _)))))) (by (try dsimp only); exact ⟨_, _, _, H6.f3.f3⟩)
        · (try simp only [beq_iff_eq, bne_iff_ne, ne_eq, decide_eq_true_eq, decide_eq_false_iff_not, beq_eq_false_iff_ne, bne_eq_false_iff_eq, Bool.not_eq_true', Bool.not_eq_false', Bool.not_eq_eq_eq_not, Bool.not_true, Bool.not_false, gt_iff_lt, ge_iff_le, Int.not_lt, Int.not_le] at h5)
          try (exfalso; first | contradiction | omega)
          all_goals
            
            refine wc_exit ?_
            refine wq_then_exit ?_
            refine wq_then_exit ?_
            refine wq_block_hit ?_
            refine wq_seq ?_
            refine wc_seq ?_
            refine wc_region ?_
            refine wl_val (r_assign rfl) (ltn rfl) ?_
            refine wl_nil ?_
            refine wq_seq ?_
            refine wc_ret ?_
            refine wq_end1 (.inl rfl) Tryd.results9 rfl ?_
            exact ⟨rfl, HL.base⟩
end Go.Proofs.YtlldaaamdchkdaaDoor
