/- Undo: a line behind a list of edits. -/
import Derived.Test.YtaabgcfeghcmnaaUList7
set_option linter.unusedSimpArgs false
set_option linter.unusedVariables false
namespace Go.Proofs.Ytaabgcfeghcmnaa
open Go.RowKit
/-- A line behind edits, if each can be done. -/
def doneM : List Int → List EdA → Option (List Int)
  | L, [] => some L
  | L, e :: r => if uE L e.1 e.2.1 e.2.2 = 0 then doneM (uL L e.1 e.2.1 e.2.2) r else none
theorem uL_le {L : List Int} {a : Int} {dl il : List Int} (h : uE L a dl il = 0) : (uL L a dl il).length ≤ 1024 := by
  by_cases hf : uFit L a dl = true
  · have hi := uFit_iff.1 hf
    have hg : ¬ 1024 < (L.length : Int) - dl.length + il.length := fun c => by rw [uE_long hf c] at h; cases h
    rw [uL_ok h]
    simp only [List.length_append, List.length_take, List.length_drop]
    omega
  · rw [uE_bad (by simpa using hf)] at h; cases h
theorem says_drop {es : List BEd} {k : Nat} (hk : k < es.length) : (es.drop k).map BEd.says = (es.getD k default).says :: (es.drop (k + 1)).map BEd.says := by
  rw [List.drop_eq_getElem_cons hk, List.map_cons, List.getD_eq_getElem?_getD, List.getElem?_eq_getElem hk]
  rfl
section
variable {w0 w : World} {F : HP} {v lv : Value} {L L' : List Int} {es : List BEd}
theorem Holds.imm_dup (H : Holds w0 w (immI .i32 v L • F)) : Holds w0 w (immI .i32 v L • immI .i32 v L • F) := H.dup_know
theorem done_ret (H : Holds w0 w (immI .i32 v L • elK lv es • F)) (hd : doneM L (es.map BEd.says) = some L') (hB : ∀ k, k < es.length → EB (es.getD k default).says) (hL : es.length ≤ 16384) (hl : L.length ≤ 35184372087808) :
    Ret Try.prog 31 #[v, lv] w fun v' w' => ∃ u, v' = .tuple #[u, .bool true] ∧ Holds w0 w' (immI .i32 u L' • immI .i32 v L • elK lv es • F) := by
  refine ret_enter Try.func31 rfl Try.ntmps31 (Nat.le_of_ble_eq_true rfl) ?_
  dsimp only [slots0, Nat.reduceAdd]
  refine wc_seq ?_
  refine wc_region ?_
  refine wl_val (r_assign rfl) (ltn rfl) ?_
  refine wl_val (r_assign rfl) (ltn rfl) ?_
  refine wl_nil ?_
  refine wq_seq ?_
  refine wc_seq ?_
  refine wc_seq ?_
  refine wc_region ?_
  refine wl_val (r_move rfl) (ltn rfl) ?_
  refine wl_val (r_lenS ((H.f2).elK_rd) Try.underlying39 rfl) (ltn rfl) ?_
  refine wl_val (r_move rfl) (ltn rfl) ?_
  refine wl_nil ?_
  refine wq_seq ?_
  refine wc_block ?_
  obtain ⟨alv, clv, elv, -⟩ := ((H.f2).elK_rd).form
  subst elv
  refine wc_loop [(10, _), (11, _)] (fun (⟨k, u⟩ : Nat × Value) => [(0, u), (12, .int .i64 (k : Int))]) (fun (⟨k, u⟩ : Nat × Value) W => k ≤ es.length ∧ ∃ L1 : List Int, doneM L1 ((es.drop k).map BEd.says) = some L' ∧ L1.length ≤ 35184372087808 ∧ Holds w0 W (immI .i32 u L1 • immI .i32 v L • elK (.slice alv (es.length) clv) es • F)) (fun (⟨k, u⟩ : Nat × Value) => es.length - k) ((0, v)) (Sub.cons rfl (Sub.cons rfl (Sub.nil _))) (Sub.cons rfl (Sub.cons rfl (Sub.nil _))) ⟨by omega, L, hd, hl, H.imm_dup⟩ ?_
  rintro ⟨k, u⟩ w2 ⟨hk, L1, hd1, hl1, HL⟩
  dsimp only [List.cons_append, List.nil_append]
  refine wc_seq ?_
  refine wc_region ?_
  refine wl_val (r_lss rfl rfl) (ltn rfl) ?_
  refine wl_nil ?_
  refine wq_seq ?_
  refine wc_seq ?_
  refine wc_cond rfl (fun h1 => ?_) (fun h1 => ?_)
  · (try simp only [beq_iff_eq, bne_iff_ne, ne_eq, decide_eq_true_eq, decide_eq_false_iff_not, beq_eq_false_iff_ne, bne_eq_false_iff_eq, Bool.not_eq_true', Bool.not_eq_false', Bool.not_eq_eq_eq_not, Bool.not_true, Bool.not_false, gt_iff_lt, ge_iff_le, Int.not_lt, Int.not_le] at h1)
    
    refine wc_skip ?_
    refine wq_seq ?_
    refine wc_seq ?_
    refine wc_block ?_
    refine wc_seq ?_
    refine wc_region ?_
    obtain ⟨blv, olv, rfl⟩ := Rd.pos ((HL.f3).elK_rd) (by omega)
    refine wl_val (r_index Try.underlying39 Try.sizeOf24 rfl rfl (by omega)) (ltn rfl) ?_
    refine wl_val (r_load_elem (ys := [_, _, _]) ((HL.f3).elK_rd) (by omega) Try.underlying24 rfl Try.sizeOf24 rfl (flat_elem BEd.enc_len (by omega) default) rfl) (ltn rfl) ?_
    have hkl : k < es.length := by omega
    have Hq := (HL.f3).elK_at hkl
    obtain ⟨hb1, hb2⟩ := hB k hkl
    have hb1 : (es.getD k default).dl.length ≤ 35184372087808 := hb1
    have hb2 : (es.getD k default).il.length ≤ 35184372087808 := hb2
    rw [says_drop hkl] at hd1
    have hd2 : (if uE L1 (es.getD k default).a (es.getD k default).dl (es.getD k default).il = 0 then doneM (uL L1 (es.getD k default).a (es.getD k default).dl (es.getD k default).il) ((es.drop (k + 1)).map BEd.says) else none) = some L' := hd1
    have hE : uE L1 (es.getD k default).a (es.getD k default).dl (es.getD k default).il = 0 := Decidable.byContradiction fun c => by rw [if_neg c] at hd2; cases hd2
    rw [if_pos hE] at hd2
    refine wl_eff (e_allocL (l := [_, _, _]) Hq Try.zeroValue24 rfl) (ltn rfl) ?_
    rintro _ w3 ⟨b3, rfl, H3⟩
    refine wl_eff0 (e_storePL 0 (l' := [_, _, _]) (us := [_, _, _]) H3 Try.sizeOf24 rfl rfl rfl (ones_cons (by first | rfl | assumption) (ones_cons (by first | rfl | exact Rd.one ((H3.f2).imm_rd)) (ones_cons (by first | rfl | exact Rd.one ((H3.f3).imm_rd)) ones_nil))) rfl rfl) ?_
    rintro _ w4 H4
    refine wl_nil ?_
    refine wq_seq ?_
    refine wc_seq ?_
    refine wc_region ?_
    refine wl_val (r_move rfl) (ltn rfl) ?_
    refine wl_val (r_load_whole Try.underlying24 rfl Try.sizeOf24 rfl rfl (H4).get.2) (ltn rfl) ?_
    refine wl_eff (e_call (r_call rfl Try.func9 rfl rfl) (undo_apply_ret H4 (fun W HW => (HW.f5).imm_rd) (fun W HW => (HW.f2).imm_rd) (fun W HW => (HW.f3).imm_rd) (by omega) (by omega) (by omega))) (ltn rfl) ?_
    rintro _ w5 ⟨u5, rfl, H5⟩
    rw [hE]
    refine wl_val (r_move rfl) (ltn rfl) ?_
    refine wl_val (r_extract rfl rfl) (ltn rfl) ?_
    refine wl_val (r_extract rfl rfl) (ltn rfl) ?_
    refine wl_val (r_assign rfl) (ltn rfl) ?_
    refine wl_val (r_assign rfl) (ltn rfl) ?_
    refine wl_nil ?_
    refine wq_seq ?_
    refine wc_seq ?_
    refine wc_seq ?_
    refine wc_region ?_
    refine wl_val (r_move rfl) (ltn rfl) ?_
    refine wl_val (r_neq rfl rfl) (ltn rfl) ?_
    refine wl_nil ?_
    refine wq_seq ?_
    refine wc_cond rfl (fun h => by exfalso; (try simp only [beq_iff_eq, bne_iff_ne, ne_eq, decide_eq_true_eq, decide_eq_false_iff_not, beq_eq_false_iff_ne, bne_eq_false_iff_eq, Bool.not_eq_true', Bool.not_eq_false', Bool.not_eq_eq_eq_not, Bool.not_true, Bool.not_false, gt_iff_lt, ge_iff_le, Int.not_lt, Int.not_le] at h); simp at h) (fun h2 => ?_)
    (try simp only [beq_iff_eq, bne_iff_ne, ne_eq, decide_eq_true_eq, decide_eq_false_iff_not, beq_eq_false_iff_ne, bne_eq_false_iff_eq, Bool.not_eq_true', Bool.not_eq_false', Bool.not_eq_eq_eq_not, Bool.not_true, Bool.not_false, gt_iff_lt, ge_iff_le, Int.not_lt, Int.not_le] at h2)
    refine wc_skip ?_
    refine wq_seq ?_
    refine wc_region ?_
    refine wl_val (r_move rfl) (ltn rfl) ?_
    refine wl_val (r_assign rfl) (ltn rfl) ?_
    refine wl_nil ?_
    refine wq_block_normal ?_
    refine wq_seq ?_
    refine wc_region ?_
    refine wl_val (r_add rfl rfl (by omega)) (ltn rfl) ?_
    refine wl_val (r_move rfl) (ltn rfl) ?_
    refine wl_nil ?_
    refine wq_round ((k + 1, u5)) ?_ ?_ ?_ ?_
    · exact (Sub.cons rfl (Sub.cons rfl (Sub.nil _)))
    · exact (Sub.cons rfl (Sub.cons rfl (Sub.nil _)))
    · (try dsimp only)
      exact ⟨by omega, _, hd2, by have := uL_le hE; omega, (H5.f2.right.f2.right.f2.right.f3.right.f2.f3.f3).freezeI⟩
    · (try dsimp only); omega
  · (try simp only [beq_iff_eq, bne_iff_ne, ne_eq, decide_eq_true_eq, decide_eq_false_iff_not, beq_eq_false_iff_ne, bne_eq_false_iff_eq, Bool.not_eq_true', Bool.not_eq_false', Bool.not_eq_eq_eq_not, Bool.not_true, Bool.not_false, gt_iff_lt, ge_iff_le, Int.not_lt, Int.not_le] at h1)
    
    refine wc_exit ?_
    refine wq_then_exit ?_
    refine wq_then_exit ?_
    refine wq_block_hit ?_
    refine wq_seq ?_
    refine wc_seq ?_
    refine wc_region ?_
    refine wl_val (r_move rfl) (ltn rfl) ?_
    refine wl_val (r_assign rfl) (ltn rfl) ?_
    refine wl_val (r_assign rfl) (ltn rfl) ?_
    refine wl_nil ?_
    refine wq_seq ?_
    refine wc_ret ?_
    refine wq_end2 (.inl rfl) Try.results31 rfl rfl ?_
    obtain rfl : k = es.length := by omega
    rw [List.drop_length] at hd1
    obtain rfl : L1 = L' := Option.some.inj hd1
    exact ⟨_, rfl, HL.f3.f3.f3⟩
end
end Go.Proofs.Ytaabgcfeghcmnaa
