/- WordsOwn, walked. -/
import Derived.Test.YtgoopiakpbcgoaaShTexts
import Derived.Test.YtgoopiakpbcgoaaShQ
import Derived.Test.YtgoopiakpbcgoaaShJoin
import Derived.Test.YtgoopiakpbcgoaaShRefWords
set_option linter.unusedSimpArgs false
set_option linter.unusedVariables false
namespace Go.Proofs.Ytgoopiakpbcgoaa
open Go.RowKit Go.Lib
section
variable {w0 w : World} {F : HP} {v u : Value} {ws vs : List Wd}
theorem same_any (H : Holds w0 w F) (hv : FRd w0 F 3 v ws.length (ws.flatMap wdE)) (hu : FRd w0 F 3 u vs.length (vs.flatMap wdE)) :
    Ret Try.prog 15 #[v, u] w fun r w' => r = .bool (decide (ws = vs)) ∧ Holds w0 w' F := by
  obtain ⟨-, _, cv, -, hcv1, hcv2, -⟩ := hv _ H
  refine ret_enter Try.func15 rfl Try.ntmps15 (Nat.le_of_ble_eq_true rfl) ?_
  dsimp only [slots0, Nat.reduceAdd]
  refine wc_seq ?_
  refine wc_region ?_
  refine wl_val (r_assign rfl) (ltn rfl) ?_
  refine wl_nil ?_
  refine wq_seq ?_
  refine wc_seq ?_
  refine wc_seq ?_
  refine wc_region ?_
  refine wl_val (r_move rfl) (ltn rfl) ?_
  refine wl_val (r_lenS (hv _ (H)) Try.underlying24 rfl) (ltn rfl) ?_
  refine wl_val (r_move rfl) (ltn rfl) ?_
  refine wl_val (r_lenS (hu _ (H)) Try.underlying24 rfl) (ltn rfl) ?_
  refine wl_val (r_neq rfl rfl) (ltn rfl) ?_
  refine wl_nil ?_
  refine wq_seq ?_
  refine wc_cond rfl (fun h1 => ?_) (fun h1 => ?_)
  · (try simp only [beq_iff_eq, bne_iff_ne, ne_eq, decide_eq_true_eq, decide_eq_false_iff_not, beq_eq_false_iff_ne, bne_eq_false_iff_eq, Bool.not_eq_true', Bool.not_eq_false', Bool.not_eq_eq_eq_not, Bool.not_true, Bool.not_false, gt_iff_lt, ge_iff_le, Int.not_lt, Int.not_le] at h1)
    have hlen : ¬ ws.length = vs.length := by omega
    refine wc_seq ?_
    refine wc_region ?_
    refine wl_val (r_assign rfl) (ltn rfl) ?_
    refine wl_nil ?_
    refine wq_seq ?_
    refine wc_ret ?_
    refine wq_then_ret ?_
    refine wq_end1 (.inl rfl) Try.results15 rfl ?_
    exact ⟨by rw [decide_eq_false (fun q => hlen (by rw [q]))], H⟩
  · (try simp only [beq_iff_eq, bne_iff_ne, ne_eq, decide_eq_true_eq, decide_eq_false_iff_not, beq_eq_false_iff_ne, bne_eq_false_iff_eq, Bool.not_eq_true', Bool.not_eq_false', Bool.not_eq_eq_eq_not, Bool.not_true, Bool.not_false, gt_iff_lt, ge_iff_le, Int.not_lt, Int.not_le] at h1)
    have hlen : ws.length = vs.length := by omega
    refine wc_skip ?_
    refine wq_seq ?_
    refine wc_seq ?_
    refine wc_seq ?_
    refine wc_region ?_
    refine wl_val (r_move rfl) (ltn rfl) ?_
    refine wl_val (r_lenS (hv _ (H)) Try.underlying24 rfl) (ltn rfl) ?_
    refine wl_val (r_move rfl) (ltn rfl) ?_
    refine wl_nil ?_
    refine wq_seq ?_
    refine wc_block ?_
    refine wc_loop [(0, _), (1, _), (12, _)] (fun (k : Nat) => [(13, .int .i64 (k : Int))]) (fun (k : Nat) W => (k ≤ ws.length ∧ ∀ j, j < k → ws.getD j (0, 0, 0) = vs.getD j (0, 0, 0)) ∧ Holds w0 W F) (fun (k : Nat) => ws.length - k) (0) (Sub.cons rfl (Sub.cons rfl (Sub.cons rfl (Sub.nil _)))) (Sub.cons rfl (Sub.nil _)) ⟨⟨by omega, fun j hj => absurd hj (Nat.not_lt_zero _)⟩, H⟩ ?_
    rintro k w1 ⟨⟨hk, hj⟩, HL⟩
    dsimp only [List.cons_append, List.nil_append]
    refine wc_seq ?_
    refine wc_region ?_
    refine wl_val (r_lss rfl rfl) (ltn rfl) ?_
    refine wl_nil ?_
    refine wq_seq ?_
    refine wc_seq ?_
    refine wc_cond rfl (fun h2 => ?_) (fun h2 => ?_)
    · (try simp only [beq_iff_eq, bne_iff_ne, ne_eq, decide_eq_true_eq, decide_eq_false_iff_not, beq_eq_false_iff_ne, bne_eq_false_iff_eq, Bool.not_eq_true', Bool.not_eq_false', Bool.not_eq_eq_eq_not, Bool.not_true, Bool.not_false, gt_iff_lt, ge_iff_le, Int.not_lt, Int.not_le] at h2)
      
      refine wc_skip ?_
      refine wq_seq ?_
      refine wc_seq ?_
      refine wc_block ?_
      refine wc_seq ?_
      have hkl : k < ws.length := by omega
      refine wc_region ?_
      refine wl_val (r_move rfl) (ltn rfl) ?_
      refine wl_val (r_assign rfl) (ltn rfl) ?_
      refine wl_nil ?_
      refine wq_seq ?_
      refine wc_seq ?_
      have H6d1 := HL.drew
      have hS6d1 := Holds.kp (H6d1)
      refine wd_beginK [3, 7] hS6d1 (by kernel_rfl) (by kernel_rfl) rfl ?_
      refine wd_takeT 0 rfl (by kernel_rfl) (by kernel_rfl) hS6d1 (fun _ => r_move rfl) (ltn rfl) ?_
      refine wd_takeT 1 rfl (by kernel_rfl) (by kernel_rfl) hS6d1 (fun _ => r_move rfl) (ltn rfl) ?_
      obtain ⟨bv, ov, cv, ev⟩ := Rd.posV (hv _ (H6d1)) (by omega)
      cases ev
      refine wd_takeT 2 rfl (by kernel_rfl) (by kernel_rfl) hS6d1 (fun _ => r_index Try.underlying24 Try.sizeOf27 rfl rfl (by omega)) (ltn rfl) ?_
      refine wd_take 3 rfl (by kernel_rfl) (by kernel_rfl) hS6d1 (by decide) (fun W hW => r_load_elem (ys := [_, _, _]) (hv _ ((Kp.h hW))) (by omega) Try.underlying27 rfl Try.sizeOf27 rfl (flat_elem wdE_len (by omega) (0, 0, 0)) rfl) (ltn rfl) ?_
      refine wd_takeT 4 rfl (by kernel_rfl) (by kernel_rfl) hS6d1 (fun _ => r_move rfl) (ltn rfl) ?_
      refine wd_takeT 5 rfl (by kernel_rfl) (by kernel_rfl) hS6d1 (fun _ => r_move rfl) (ltn rfl) ?_
      obtain ⟨bu, ou, cu, eu⟩ := Rd.posV (hu _ (H6d1)) (by omega)
      cases eu
      refine wd_takeT 6 rfl (by kernel_rfl) (by kernel_rfl) hS6d1 (fun _ => r_index Try.underlying24 Try.sizeOf27 rfl rfl (by omega)) (ltn rfl) ?_
      refine wd_take 7 rfl (by kernel_rfl) (by kernel_rfl) hS6d1 (by decide) (fun W hW => r_load_elem (ys := [_, _, _]) (hu _ ((Kp.h hW))) (by omega) Try.underlying27 rfl Try.sizeOf27 rfl (flat_elem wdE_len (by omega) (0, 0, 0)) rfl) (ltn rfl) ?_
      refine wd_takeT 8 rfl (by kernel_rfl) (by kernel_rfl) hS6d1 (fun _ => r_wd_neq rfl rfl) (ltn rfl) ?_
      refine wd_done (by kernel_rfl) ?_
      refine wq_seq ?_
      refine wc_cond rfl (fun h3 => ?_) (fun h3 => ?_)
      · (try simp only [beq_iff_eq, bne_iff_ne, ne_eq, decide_eq_true_eq, decide_eq_false_iff_not, beq_eq_false_iff_ne, bne_eq_false_iff_eq, Bool.not_eq_true', Bool.not_eq_false', Bool.not_eq_eq_eq_not, Bool.not_true, Bool.not_false, gt_iff_lt, ge_iff_le, Int.not_lt, Int.not_le] at h3)
        have hsm : ¬ ws.getD k (0, 0, 0) = vs.getD k (0, 0, 0) := by simpa using h3
        refine wc_seq ?_
        refine wc_region ?_
        refine wl_val (r_assign rfl) (ltn rfl) ?_
        refine wl_nil ?_
        refine wq_seq ?_
        refine wc_ret ?_
        refine wq_block_ret ?_
        refine wq_then_ret ?_
        refine wq_then_ret ?_
        refine wq_block_ret ?_
        refine wq_then_ret ?_
        refine wq_end1 (.inl rfl) Try.results15 rfl ?_
        exact ⟨by rw [decide_eq_false (fun q => hsm (by rw [q]))], H6d1⟩
      · (try simp only [beq_iff_eq, bne_iff_ne, ne_eq, decide_eq_true_eq, decide_eq_false_iff_not, beq_eq_false_iff_ne, bne_eq_false_iff_eq, Bool.not_eq_true', Bool.not_eq_false', Bool.not_eq_eq_eq_not, Bool.not_true, Bool.not_false, gt_iff_lt, ge_iff_le, Int.not_lt, Int.not_le] at h3)
        have hsm : ws.getD k (0, 0, 0) = vs.getD k (0, 0, 0) := by simpa using h3
        refine wc_skip ?_
        refine wq_block_normal ?_
        refine wq_seq ?_
        refine wc_region ?_
        refine wl_val (r_add rfl rfl (by omega)) (ltn rfl) ?_
        refine wl_val (r_move rfl) (ltn rfl) ?_
        refine wl_nil ?_
        refine wq_round (k + 1) ?_ ?_ ?_ ?_
        · exact (Sub.cons rfl (Sub.nil _))
        · exact (Sub.cons rfl (Sub.cons rfl (Sub.cons rfl (Sub.nil _))))
        · (try dsimp only)
          exact ⟨⟨by omega, fun j h9 => by rcases Nat.lt_succ_iff_lt_or_eq.1 h9 with h9 | rfl; exact hj j h9; exact hsm⟩, H6d1⟩
        · (try dsimp only); omega
    · (try simp only [beq_iff_eq, bne_iff_ne, ne_eq, decide_eq_true_eq, decide_eq_false_iff_not, beq_eq_false_iff_ne, bne_eq_false_iff_eq, Bool.not_eq_true', Bool.not_eq_false', Bool.not_eq_eq_eq_not, Bool.not_true, Bool.not_false, gt_iff_lt, ge_iff_le, Int.not_lt, Int.not_le] at h2)
      
      refine wc_exit ?_
      refine wq_then_exit ?_
      refine wq_then_exit ?_
      refine wq_block_hit ?_
      refine wq_seq ?_
      refine wc_seq ?_
      refine wc_region ?_
      refine wl_val (r_assign rfl) (ltn rfl) ?_
      refine wl_nil ?_
      refine wq_seq ?_
      refine wc_ret ?_
      refine wq_end1 (.inl rfl) Try.results15 rfl ?_
      refine ⟨?_, HL⟩
      obtain rfl : k = ws.length := by omega
      rw [decide_eq_true]
      refine List.ext_getElem hlen fun j h1 h2 => ?_
      have h9 := hj j h1
      rw [List.getD_eq_getElem?_getD, List.getD_eq_getElem?_getD, List.getElem?_eq_getElem h1, List.getElem?_eq_getElem h2] at h9
      simpa using h9
end
abbrev wdL (l : List Int) : Nat := (wordsS l).length
set_option maxHeartbeats 2000000
theorem words_own {w : World} {v : Value} {l : List Int} {st : Int} (g : RdI w .i32 v l) (hl : Rn32 l) (hL : l.length ≤ 1073741824) : Ret Try.prog 7 #[v, .int .i64 st] w fun v w' => v = .bool true ∧ Below w.heap.size w w' := by
  obtain ⟨F, H⟩ : ∃ F, Holds w w F := ⟨_, Holds.start w⟩
  have hv : FRdI w F .i32 v l := FRdI.of_start g F
  have htl := textsS_len l
  have hwl := wordsS_len l
  have hTe : ∀ k, k < (textsS l).length → ((textsS l).getD k []).length ≤ 4294967296 := fun k hk => by have := textsS_le hk; omega
  have hjs := joinS_len [l]
  refine ret_enter Try.func7 rfl Try.ntmps7 (Nat.le_of_ble_eq_true rfl) ?_
  dsimp only [slots0, Nat.reduceAdd]
  refine wc_seq ?_
  refine wc_region ?_
  refine wl_val (r_assign rfl) (ltn rfl) ?_
  refine wl_nil ?_
  refine wq_seq ?_
  refine wc_seq ?_
  refine wc_seq ?_
  refine wc_region ?_
  refine wl_eff (e_call (r_call rfl Try.func8 rfl rfl) (sh_begun_ret H)) (ltn rfl) ?_
  rintro _ w1 ⟨rfl, H1⟩
  refine wl_val (r_not rfl) (ltn rfl) ?_
  refine wl_nil ?_
  refine wq_seq ?_
  refine wc_cond rfl (fun h => by exfalso; (try simp only [beq_iff_eq, bne_iff_ne, ne_eq, decide_eq_true_eq, decide_eq_false_iff_not, beq_eq_false_iff_ne, bne_eq_false_iff_eq, Bool.not_eq_true', Bool.not_eq_false', Bool.not_eq_eq_eq_not, Bool.not_true, Bool.not_false, gt_iff_lt, ge_iff_le, Int.not_lt, Int.not_le] at h); simp at h) (fun h1 => ?_)
  (try simp only [beq_iff_eq, bne_iff_ne, ne_eq, decide_eq_true_eq, decide_eq_false_iff_not, beq_eq_false_iff_ne, bne_eq_false_iff_eq, Bool.not_eq_true', Bool.not_eq_false', Bool.not_eq_eq_eq_not, Bool.not_true, Bool.not_false, gt_iff_lt, ge_iff_le, Int.not_lt, Int.not_le] at h1)
  refine wc_skip ?_
  refine wq_seq ?_
  refine wc_seq ?_
  refine wc_region ?_
  refine wl_val (r_move rfl) (ltn rfl) ?_
  refine wl_eff (e_append_ints (l := []) (H1.row_nil none) (hv _ (H1)) Try.underlying22 (show (Try.prog.info? 21).map (fun i => (i.zero, i.size, i.bytes)) = some (some (.int .i32 0), 1, 4) by kernel_rfl) rfl rfl (by first | omega | (simp only [List.length_append, List.length_nil, List.length_cons]; omega) | (simp; omega)) (by first | omega | (simp only [List.length_append, List.length_nil, List.length_cons]; omega) | (simp; omega))) (ltn rfl) ?_
  rintro l2 w2 H2
  try simp only [List.nil_append] at H2
  refine wl_val (r_assign rfl) (ltn rfl) ?_
  refine wl_nil ?_
  refine wq_seq ?_
  refine wc_seq ?_
  refine wc_region ?_
  refine wl_val (r_move rfl) (ltn rfl) ?_
  refine wl_val (r_move rfl) (ltn rfl) ?_
  refine wl_eff (e_call (r_call rfl Try.func16 rfl rfl) (sh_quote_ret H2 (fun W HW => hv _ (HW.right)) (by assumption) (by omega))) (ltn rfl) ?_
  rintro _ w3 ⟨u3, rfl, H3⟩
  refine wl_val (r_move rfl) (ltn rfl) ?_
  refine wl_val (r_extract rfl rfl) (ltn rfl) ?_
  refine wl_val (r_extract rfl rfl) (ltn rfl) ?_
  refine wl_val (r_assign rfl) (ltn rfl) ?_
  refine wl_val (r_assign rfl) (ltn rfl) ?_
  refine wl_nil ?_
  refine wq_seq ?_
  refine wc_seq ?_
  refine wc_seq ?_
  refine wc_region ?_
  refine wl_val (r_move rfl) (ltn rfl) ?_
  refine wl_val (r_lenR ((H3).row_rd) Try.underlying22 rfl) (ltn rfl) ?_
  refine wl_val (r_move rfl) (ltn rfl) ?_
  refine wl_nil ?_
  refine wq_seq ?_
  refine wc_block ?_
  obtain ⟨n4, R4, ⟨hn4, hb4⟩, hR4, m4, hm4, HR4⟩ := Holds.hideI (H3)
  refine wc_loop [(0, _), (5, _), (6, _), (29, _)] (fun (i : Nat) => [(30, .int .i64 (i : Int))]) (fun (i : Nat) W => i ≤ n4 ∧ ∃ m, m.length = n4 ∧ Holds w W (RowI 21 .i32 u3 m • R4)) (fun (i : Nat) => n4 - i) (0) (Sub.cons rfl (Sub.cons rfl (Sub.cons rfl (Sub.cons rfl (Sub.nil _))))) (Sub.cons rfl (Sub.nil _)) ⟨by omega, m4, by omega, HR4⟩ ?_
  rintro i w5 ⟨hi, m, hm, HL⟩
  dsimp only [List.cons_append, List.nil_append]
  refine wc_seq ?_
  refine wc_region ?_
  refine wl_val (r_lss rfl rfl) (ltn rfl) ?_
  refine wl_nil ?_
  refine wq_seq ?_
  refine wc_seq ?_
  refine wc_cond rfl (fun h2 => ?_) (fun h2 => ?_)
  · (try simp only [beq_iff_eq, bne_iff_ne, ne_eq, decide_eq_true_eq, decide_eq_false_iff_not, beq_eq_false_iff_ne, bne_eq_false_iff_eq, Bool.not_eq_true', Bool.not_eq_false', Bool.not_eq_eq_eq_not, Bool.not_true, Bool.not_false, gt_iff_lt, ge_iff_le, Int.not_lt, Int.not_le] at h2)
    
    refine wc_skip ?_
    refine wq_seq ?_
    refine wc_seq ?_
    refine wc_block ?_
    refine wc_seq ?_
    refine wc_region ?_
    refine wl_val (r_move rfl) (ltn rfl) ?_
    refine wl_val (r_assign rfl) (ltn rfl) ?_
    refine wl_nil ?_
    refine wq_seq ?_
    refine wc_region ?_
    refine wl_val (r_move rfl) (ltn rfl) ?_
    refine wl_val (r_move rfl) (ltn rfl) ?_
    obtain ⟨bu3, ou3, cu3, eu3⟩ := RdI.posV ((HL).row_rd) (by omega)
    cases eu3
    refine wl_val (r_index Try.underlying22 Try.sizeOf21 rfl rfl (by omega)) (ltn rfl) ?_
    refine wl_eff0 (e_store_elem HL Try.sizeOf21 rfl rfl (by first | exact rfl | omega | simp) (by omega)) ?_
    rintro _ w6 H6
    refine wl_nil ?_
    refine wq_block_normal ?_
    refine wq_seq ?_
    refine wc_region ?_
    refine wl_val (r_add rfl rfl (by omega)) (ltn rfl) ?_
    refine wl_val (r_move rfl) (ltn rfl) ?_
    refine wl_nil ?_
    refine wq_round (i + 1) ?_ ?_ ?_ ?_
    · exact (Sub.cons rfl (Sub.nil _))
    · exact (Sub.cons rfl (Sub.cons rfl (Sub.cons rfl (Sub.cons rfl (Sub.nil _)))))
    · (try dsimp only)
      exact ⟨by omega, _, by simp [hm], H6⟩
    · (try dsimp only); omega
  · (try simp only [beq_iff_eq, bne_iff_ne, ne_eq, decide_eq_true_eq, decide_eq_false_iff_not, beq_eq_false_iff_ne, bne_eq_false_iff_eq, Bool.not_eq_true', Bool.not_eq_false', Bool.not_eq_eq_eq_not, Bool.not_true, Bool.not_false, gt_iff_lt, ge_iff_le, Int.not_lt, Int.not_le] at h2)
    
    refine wc_exit ?_
    refine wq_then_exit ?_
    subst hR4
    refine wq_then_exit ?_
    refine wq_block_hit ?_
    refine wq_seq ?_
    refine wc_seq ?_
    refine wc_region ?_
    refine wl_val (r_move rfl) (ltn rfl) ?_
    refine wl_eff (e_call (r_call rfl Try.func17 rfl rfl) (sh_strip_ret HL (fun W HW => hv _ (HW.right.right)) (by omega))) (ltn rfl) ?_
    rintro u7 w7 H7
    refine wl_val (r_assign rfl) (ltn rfl) ?_
    refine wl_nil ?_
    refine wq_seq ?_
    refine wc_seq ?_
    refine wc_seq ?_
    refine wc_region ?_
    refine wl_val (r_move rfl) (ltn rfl) ?_
    refine wl_val (r_lenR ((H7).row_rd) Try.underlying22 rfl) (ltn rfl) ?_
    refine wl_val (r_move rfl) (ltn rfl) ?_
    refine wl_nil ?_
    refine wq_seq ?_
    refine wc_block ?_
    obtain ⟨n8, R8, ⟨hn8, hb8⟩, hR8, m8, hm8, HR8⟩ := Holds.hideI (H7)
    refine wc_loop [(0, _), (5, _), (9, _), (40, _)] (fun (i : Nat) => [(41, .int .i64 (i : Int))]) (fun (i : Nat) W => i ≤ n8 ∧ ∃ m, m.length = n8 ∧ Holds w W (RowI 21 .i32 u7 m • R8)) (fun (i : Nat) => n8 - i) (0) (Sub.cons rfl (Sub.cons rfl (Sub.cons rfl (Sub.cons rfl (Sub.nil _))))) (Sub.cons rfl (Sub.nil _)) ⟨by omega, m8, by omega, HR8⟩ ?_
    rintro i w9 ⟨hi, m, hm, HL⟩
    dsimp only [List.cons_append, List.nil_append]
    refine wc_seq ?_
    refine wc_region ?_
    refine wl_val (r_lss rfl rfl) (ltn rfl) ?_
    refine wl_nil ?_
    refine wq_seq ?_
    refine wc_seq ?_
    refine wc_cond rfl (fun h3 => ?_) (fun h3 => ?_)
    · (try simp only [beq_iff_eq, bne_iff_ne, ne_eq, decide_eq_true_eq, decide_eq_false_iff_not, beq_eq_false_iff_ne, bne_eq_false_iff_eq, Bool.not_eq_true', Bool.not_eq_false', Bool.not_eq_eq_eq_not, Bool.not_true, Bool.not_false, gt_iff_lt, ge_iff_le, Int.not_lt, Int.not_le] at h3)
      
      refine wc_skip ?_
      refine wq_seq ?_
      refine wc_seq ?_
      refine wc_block ?_
      refine wc_seq ?_
      refine wc_region ?_
      refine wl_val (r_move rfl) (ltn rfl) ?_
      refine wl_val (r_assign rfl) (ltn rfl) ?_
      refine wl_nil ?_
      refine wq_seq ?_
      refine wc_region ?_
      refine wl_val (r_move rfl) (ltn rfl) ?_
      refine wl_val (r_move rfl) (ltn rfl) ?_
      obtain ⟨bu7, ou7, cu7, eu7⟩ := RdI.posV ((HL).row_rd) (by omega)
      cases eu7
      refine wl_val (r_index Try.underlying22 Try.sizeOf21 rfl rfl (by omega)) (ltn rfl) ?_
      refine wl_eff0 (e_store_elem HL Try.sizeOf21 rfl rfl (by first | exact rfl | omega | simp) (by omega)) ?_
      rintro _ w10 H10
      refine wl_nil ?_
      refine wq_block_normal ?_
      refine wq_seq ?_
      refine wc_region ?_
      refine wl_val (r_add rfl rfl (by omega)) (ltn rfl) ?_
      refine wl_val (r_move rfl) (ltn rfl) ?_
      refine wl_nil ?_
      refine wq_round (i + 1) ?_ ?_ ?_ ?_
      · exact (Sub.cons rfl (Sub.nil _))
      · exact (Sub.cons rfl (Sub.cons rfl (Sub.cons rfl (Sub.cons rfl (Sub.nil _)))))
      · (try dsimp only)
        exact ⟨by omega, _, by simp [hm], H10⟩
      · (try dsimp only); omega
    · (try simp only [beq_iff_eq, bne_iff_ne, ne_eq, decide_eq_true_eq, decide_eq_false_iff_not, beq_eq_false_iff_ne, bne_eq_false_iff_eq, Bool.not_eq_true', Bool.not_eq_false', Bool.not_eq_eq_eq_not, Bool.not_true, Bool.not_false, gt_iff_lt, ge_iff_le, Int.not_lt, Int.not_le] at h3)
      
      refine wc_exit ?_
      refine wq_then_exit ?_
      subst hR8
      refine wq_then_exit ?_
      refine wq_block_hit ?_
      refine wq_seq ?_
      refine wc_seq ?_
      refine wc_region ?_
      refine wl_val (r_move rfl) (ltn rfl) ?_
      refine wl_eff (e_lit_row (vs := [_]) HL Try.underlying30 Try.sizeOf22 Try.zeroValue22 rfl rfl rfl (by decide) (ones_cons (by first | rfl | exact Rd.one (hv _ (HL.right.right.right))) ones_nil)) (ltn rfl) ?_
      rintro l11 w11 H11
      refine wl_eff (e_call (r_call rfl Try.func13 rfl rfl) (sh_join_ret (ls := [l]) (vs := [_]) H11 (fun W HW => HW.row_rd) (fun k hk => by obtain rfl : k = 0 := (by simpa using hk); exact (fun W HW => hv _ (HW.right.right.right.right))) (by simp; omega))) (ltn rfl) ?_
      rintro j9 w12 H12
      refine wl_val (r_assign rfl) (ltn rfl) ?_
      refine wl_nil ?_
      refine wq_seq ?_
      refine wc_seq ?_
      refine wc_seq ?_
      refine wc_region ?_
      refine wl_val (r_move rfl) (ltn rfl) ?_
      refine wl_val (r_lenR ((H12).row_rd) Try.underlying22 rfl) (ltn rfl) ?_
      refine wl_val (r_move rfl) (ltn rfl) ?_
      refine wl_nil ?_
      refine wq_seq ?_
      refine wc_block ?_
      obtain ⟨n13, R13, ⟨hn13, hb13⟩, hR13, m13, hm13, HR13⟩ := Holds.hideI (H12)
      refine wc_loop [(0, _), (5, _), (11, _), (52, _)] (fun (i : Nat) => [(53, .int .i64 (i : Int))]) (fun (i : Nat) W => i ≤ n13 ∧ ∃ m, m.length = n13 ∧ Holds w W (RowI 21 .i32 j9 m • R13)) (fun (i : Nat) => n13 - i) (0) (Sub.cons rfl (Sub.cons rfl (Sub.cons rfl (Sub.cons rfl (Sub.nil _))))) (Sub.cons rfl (Sub.nil _)) ⟨by omega, m13, by omega, HR13⟩ ?_
      rintro i w14 ⟨hi, m, hm, HL⟩
      dsimp only [List.cons_append, List.nil_append]
      refine wc_seq ?_
      refine wc_region ?_
      refine wl_val (r_lss rfl rfl) (ltn rfl) ?_
      refine wl_nil ?_
      refine wq_seq ?_
      refine wc_seq ?_
      refine wc_cond rfl (fun h4 => ?_) (fun h4 => ?_)
      · (try simp only [beq_iff_eq, bne_iff_ne, ne_eq, decide_eq_true_eq, decide_eq_false_iff_not, beq_eq_false_iff_ne, bne_eq_false_iff_eq, Bool.not_eq_true', Bool.not_eq_false', Bool.not_eq_eq_eq_not, Bool.not_true, Bool.not_false, gt_iff_lt, ge_iff_le, Int.not_lt, Int.not_le] at h4)
        
        refine wc_skip ?_
        refine wq_seq ?_
        refine wc_seq ?_
        refine wc_block ?_
        refine wc_seq ?_
        refine wc_region ?_
        refine wl_val (r_move rfl) (ltn rfl) ?_
        refine wl_val (r_assign rfl) (ltn rfl) ?_
        refine wl_nil ?_
        refine wq_seq ?_
        refine wc_region ?_
        refine wl_val (r_move rfl) (ltn rfl) ?_
        refine wl_val (r_move rfl) (ltn rfl) ?_
        obtain ⟨bj9, oj9, cj9, ej9⟩ := RdI.posV ((HL).row_rd) (by omega)
        cases ej9
        refine wl_val (r_index Try.underlying22 Try.sizeOf21 rfl rfl (by omega)) (ltn rfl) ?_
        refine wl_eff0 (e_store_elem HL Try.sizeOf21 rfl rfl (by first | exact rfl | omega | simp) (by omega)) ?_
        rintro _ w15 H15
        refine wl_nil ?_
        refine wq_block_normal ?_
        refine wq_seq ?_
        refine wc_region ?_
        refine wl_val (r_add rfl rfl (by omega)) (ltn rfl) ?_
        refine wl_val (r_move rfl) (ltn rfl) ?_
        refine wl_nil ?_
        refine wq_round (i + 1) ?_ ?_ ?_ ?_
        · exact (Sub.cons rfl (Sub.nil _))
        · exact (Sub.cons rfl (Sub.cons rfl (Sub.cons rfl (Sub.cons rfl (Sub.nil _)))))
        · (try dsimp only)
          exact ⟨by omega, _, by simp [hm], H15⟩
        · (try dsimp only); omega
      · (try simp only [beq_iff_eq, bne_iff_ne, ne_eq, decide_eq_true_eq, decide_eq_false_iff_not, beq_eq_false_iff_ne, bne_eq_false_iff_eq, Bool.not_eq_true', Bool.not_eq_false', Bool.not_eq_eq_eq_not, Bool.not_true, Bool.not_false, gt_iff_lt, ge_iff_le, Int.not_lt, Int.not_le] at h4)
        
        refine wc_exit ?_
        refine wq_then_exit ?_
        subst hR13
        refine wq_then_exit ?_
        refine wq_block_hit ?_
        refine wq_seq ?_
        refine wc_seq ?_
        refine wc_seq ?_
        refine wc_region ?_
        refine wl_val (r_move rfl) (ltn rfl) ?_
        refine wl_eff (e_call (r_call rfl Try.func12 rfl rfl) (sh_texts_ret HL (fun W HW => hv _ (HW.right.right.right.right.right)) (by assumption) (by omega))) (ltn rfl) ?_
        rintro _ w16 ⟨b16, rfl, H16⟩
        refine wl_nil ?_
        refine wq_seq ?_
        refine wc_block ?_
        obtain ⟨R17, hR17, HR17⟩ := Holds.hide1 (H16)
        refine wc_rangeFunc rfl (texts_iter b16 hTe (by omega)) (fun j => R17) (fact False) (fun _ => fact False) (HR17.comm) (by rfl) ?_ ?_ ?_ ?_
        · rintro l18 j hkR0 vs18 A18 ⟨x18, rfl, rfl⟩ G18 w18 H18
          try simp only [sep_assoc, emp_sep, sep_emp] at H18
          refine ⟨rfl, ?_⟩
          dsimp only [zipL]
          refine wc_region ?_
          refine wl_val (r_assign rfl) (ltn rfl) ?_
          refine wl_nil ?_
          refine wq_mid (H18.g2) ?_
          intro G19 w19 H19
          try simp only [sep_assoc] at H19
          refine wc_block ?_
          refine wc_seq ?_
          refine wc_region ?_
          refine wl_val (r_move rfl) (ltn rfl) ?_
          refine wl_val (r_lenR ((H19).row_rd) Try.underlying22 rfl) (ltn rfl) ?_
          refine wl_val (r_move rfl) (ltn rfl) ?_
          refine wl_nil ?_
          refine wq_seq ?_
          refine wc_block ?_
          obtain ⟨n20, R20, ⟨hn20, hb20⟩, hR20, m20, hm20, HR20⟩ := Holds.hideI (H19)
          refine wc_loop [(14, _), (65, _)] (fun (i : Nat) => [(66, .int .i64 (i : Int))]) (fun (i : Nat) W => i ≤ n20 ∧ ∃ m, m.length = n20 ∧ Holds w W (RowI 21 .i32 x18 m • R20)) (fun (i : Nat) => n20 - i) (0) (Sub.cons rfl (Sub.cons rfl (Sub.nil _))) (Sub.cons rfl (Sub.nil _)) ⟨by omega, m20, by omega, HR20⟩ ?_
          rintro i w21 ⟨hi, m, hm, HL⟩
          dsimp only [List.cons_append, List.nil_append]
          refine wc_seq ?_
          refine wc_region ?_
          refine wl_val (r_lss rfl rfl) (ltn rfl) ?_
          refine wl_nil ?_
          refine wq_seq ?_
          refine wc_seq ?_
          refine wc_cond rfl (fun h5 => ?_) (fun h5 => ?_)
          · (try simp only [beq_iff_eq, bne_iff_ne, ne_eq, decide_eq_true_eq, decide_eq_false_iff_not, beq_eq_false_iff_ne, bne_eq_false_iff_eq, Bool.not_eq_true', Bool.not_eq_false', Bool.not_eq_eq_eq_not, Bool.not_true, Bool.not_false, gt_iff_lt, ge_iff_le, Int.not_lt, Int.not_le] at h5)
            
            refine wc_skip ?_
            refine wq_seq ?_
            refine wc_seq ?_
            refine wc_block ?_
            refine wc_seq ?_
            refine wc_region ?_
            refine wl_val (r_move rfl) (ltn rfl) ?_
            refine wl_val (r_assign rfl) (ltn rfl) ?_
            refine wl_nil ?_
            refine wq_seq ?_
            refine wc_region ?_
            refine wl_val (r_move rfl) (ltn rfl) ?_
            refine wl_val (r_move rfl) (ltn rfl) ?_
            obtain ⟨bx18, ox18, cx18, ex18⟩ := RdI.posV ((HL).row_rd) (by omega)
            cases ex18
            refine wl_val (r_index Try.underlying22 Try.sizeOf21 rfl rfl (by omega)) (ltn rfl) ?_
            refine wl_eff0 (e_store_elem HL Try.sizeOf21 rfl rfl (by first | exact rfl | omega | simp) (by omega)) ?_
            rintro _ w22 H22
            refine wl_nil ?_
            refine wq_block_normal ?_
            refine wq_seq ?_
            refine wc_region ?_
            refine wl_val (r_add rfl rfl (by omega)) (ltn rfl) ?_
            refine wl_val (r_move rfl) (ltn rfl) ?_
            refine wl_nil ?_
            refine wq_round (i + 1) ?_ ?_ ?_ ?_
            · exact (Sub.cons rfl (Sub.nil _))
            · exact (Sub.cons rfl (Sub.cons rfl (Sub.nil _)))
            · (try dsimp only)
              exact ⟨by omega, _, by simp [hm], H22⟩
            · (try dsimp only); omega
          · (try simp only [beq_iff_eq, bne_iff_ne, ne_eq, decide_eq_true_eq, decide_eq_false_iff_not, beq_eq_false_iff_ne, bne_eq_false_iff_eq, Bool.not_eq_true', Bool.not_eq_false', Bool.not_eq_eq_eq_not, Bool.not_true, Bool.not_false, gt_iff_lt, ge_iff_le, Int.not_lt, Int.not_le] at h5)
            
            refine wc_exit ?_
            refine wq_then_exit ?_
            subst hR20
            refine wq_then_exit ?_
            refine wq_block_hit ?_
            refine wq_block_normal ?_
            refine wq_rnormal ?_
            exact HL.right
        · rintro D23 w23 H23
          have H23d := H23.ed
          try simp only [sep_assoc, emp_sep, sep_emp] at H23d
          have H23m := H23d.mark1
          subst hR17
          refine wq_block_normal ?_
          refine wq_seq ?_
          refine wc_seq ?_
          refine wc_region ?_
          refine wl_val (r_move rfl) (ltn rfl) ?_
          refine wl_eff (e_call (r_call rfl Try.func9 rfl rfl) (sh_words_ret H23m (fun W HW => hv _ (HW.right.right.right.right.right.right.right)) (by assumption) (by omega))) (ltn rfl) ?_
          rintro u24 w24 H24
          refine wl_val (r_assign rfl) (ltn rfl) ?_
          refine wl_nil ?_
          refine wq_seq ?_
          refine wc_seq ?_
          refine wc_seq ?_
          refine wc_region ?_
          refine wl_val (r_move rfl) (ltn rfl) ?_
          refine wl_val (r_lenS ((H24).row_rd) Try.underlying24 rfl) (ltn rfl) ?_
          refine wl_val (r_move rfl) (ltn rfl) ?_
          refine wl_nil ?_
          refine wq_seq ?_
          refine wc_block ?_
          obtain ⟨R25, hR25, HR25⟩ := Holds.hide1 (H24)
          obtain ⟨au24, cu24, eu24, -⟩ := ((HR25).row_rd).form
          subst eu24
          refine wc_loop [(0, _), (5, _), (16, _), (76, _)] (fun (i : Nat) => [(77, .int .i64 (i : Int))]) (fun (i : Nat) W => i ≤ (wordsS l).length ∧ ∃ xs, Holds w W (Row 27 3 (.slice au24 (wordsS l).length cu24) (wordsS l).length xs • R25)) (fun (i : Nat) => (wordsS l).length - i) (0) (Sub.cons rfl (Sub.cons rfl (Sub.cons rfl (Sub.cons rfl (Sub.nil _))))) (Sub.cons rfl (Sub.nil _)) ⟨by omega, _, HR25⟩ ?_
          rintro i w27 ⟨hi, xs, HL⟩
          dsimp only [List.cons_append, List.nil_append]
          refine wc_seq ?_
          refine wc_region ?_
          refine wl_val (r_lss rfl rfl) (ltn rfl) ?_
          refine wl_nil ?_
          refine wq_seq ?_
          refine wc_seq ?_
          refine wc_cond rfl (fun h6 => ?_) (fun h6 => ?_)
          · (try simp only [beq_iff_eq, bne_iff_ne, ne_eq, decide_eq_true_eq, decide_eq_false_iff_not, beq_eq_false_iff_ne, bne_eq_false_iff_eq, Bool.not_eq_true', Bool.not_eq_false', Bool.not_eq_eq_eq_not, Bool.not_true, Bool.not_false, gt_iff_lt, ge_iff_le, Int.not_lt, Int.not_le] at h6)
            
            refine wc_skip ?_
            refine wq_seq ?_
            refine wc_seq ?_
            refine wc_block ?_
            refine wc_seq ?_
            refine wc_region ?_
            refine wl_val (r_move rfl) (ltn rfl) ?_
            refine wl_val (r_assign rfl) (ltn rfl) ?_
            refine wl_nil ?_
            refine wq_seq ?_
            refine wc_region ?_
            refine wl_val (r_move rfl) (ltn rfl) ?_
            refine wl_val (r_move rfl) (ltn rfl) ?_
            obtain ⟨bu24, ou24, rfl⟩ := Rd.pos ((HL).row_rd) (by omega)
            refine wl_val (r_index Try.underlying24 Try.sizeOf27 rfl rfl (by omega)) (ltn rfl) ?_
            refine wl_val ((by first | exact r_field0 1 Try.underlying27 rfl rfl Try.sizeOf3 (by decide) rfl | exact r_field 1 Try.underlying27 rfl rfl Try.sizeOf3 (by decide) rfl)) (ltn rfl) ?_
            refine wl_eff0 (e_store_rowS 1 HL Try.sizeOf3 rfl rfl (by first | rfl | assumption) (by omega) (by decide)) ?_
            rintro _ w28 H28
            refine wl_nil ?_
            refine wq_block_normal ?_
            refine wq_seq ?_
            refine wc_region ?_
            refine wl_val (r_add rfl rfl (by omega)) (ltn rfl) ?_
            refine wl_val (r_move rfl) (ltn rfl) ?_
            refine wl_nil ?_
            refine wq_round (i + 1) ?_ ?_ ?_ ?_
            · exact (Sub.cons rfl (Sub.nil _))
            · exact (Sub.cons rfl (Sub.cons rfl (Sub.cons rfl (Sub.cons rfl (Sub.nil _)))))
            · (try dsimp only)
              exact ⟨by omega, _, H28⟩
            · (try dsimp only); omega
          · (try simp only [beq_iff_eq, bne_iff_ne, ne_eq, decide_eq_true_eq, decide_eq_false_iff_not, beq_eq_false_iff_ne, bne_eq_false_iff_eq, Bool.not_eq_true', Bool.not_eq_false', Bool.not_eq_eq_eq_not, Bool.not_true, Bool.not_false, gt_iff_lt, ge_iff_le, Int.not_lt, Int.not_le] at h6)
            
            refine wc_exit ?_
            refine wq_then_exit ?_
            subst hR25
            refine wq_then_exit ?_
            refine wq_block_hit ?_
            refine wq_seq ?_
            refine wc_seq ?_
            refine wc_region ?_
            refine wl_val (r_move rfl) (ltn rfl) ?_
            refine wl_val (r_move rfl) (ltn rfl) ?_
            refine wl_eff (e_call (r_call rfl Try.func14 rfl rfl) (same_runes_any HL (fun W HW => hv _ (HW.right.right.right.right.right.right.right.right)) (fun W HW => (HW.f8).row_rd))) (ltn rfl) ?_
            rintro _ w29 ⟨rfl, H29⟩
            refine wl_split rfl (ltn rfl) (fun h7 => ?_) (fun h => by exfalso; (try simp only [beq_iff_eq, bne_iff_ne, ne_eq, decide_eq_true_eq, decide_eq_false_iff_not, beq_eq_false_iff_ne, bne_eq_false_iff_eq, Bool.not_eq_true', Bool.not_eq_false', Bool.not_eq_eq_eq_not, Bool.not_true, Bool.not_false, gt_iff_lt, ge_iff_le, Int.not_lt, Int.not_le] at h); simp at h)
            (try simp only [beq_iff_eq, bne_iff_ne, ne_eq, decide_eq_true_eq, decide_eq_false_iff_not, beq_eq_false_iff_ne, bne_eq_false_iff_eq, Bool.not_eq_true', Bool.not_eq_false', Bool.not_eq_eq_eq_not, Bool.not_true, Bool.not_false, gt_iff_lt, ge_iff_le, Int.not_lt, Int.not_le] at h7)
            refine wl_yes rfl rfl ?_
            refine wl_val (r_move rfl) (ltn rfl) ?_
            refine wl_yes rfl rfl ?_
            refine wl_eff (e_call (r_call rfl Try.func9 rfl rfl) (sh_words_ret H29 (fun W HW => hv _ (HW.right.right.right.right.right.right.right.right)) (by assumption) (by omega))) (ltn rfl) ?_
            rintro u30 w30 H30
            refine wl_yes rfl rfl ?_
            refine wl_val (r_move rfl) (ltn rfl) ?_
            refine wl_yes rfl rfl ?_
            refine wl_eff (e_call (r_call rfl Try.func24 rfl rfl) (ref_words_ret H30 (fun W HW => (HW.f9).row_rd) (by omega))) (ltn rfl) ?_
            rintro u31 w31 H31
            refine wl_yes rfl rfl ?_
            refine wl_eff (e_call (r_call rfl Try.func15 rfl rfl) (same_any H31 (fun W HW => (HW.f2).row_rd) (fun W HW => (HW).row_rd))) (ltn rfl) ?_
            rintro _ w32 ⟨rfl, H32⟩
            refine wl_val (r_known_t (r_pick_t rfl rfl) (by simp)) (ltn rfl) ?_
            refine wl_val (r_assign rfl) (ltn rfl) ?_
            refine wl_nil ?_
            refine wq_seq ?_
            refine wc_ret ?_
            refine wq_endM (.inl rfl) (H32.f4) (fun w33 H33 => ?_)
            refine ⟨_, res1 Try.results7 rfl, ?_⟩
            exact ⟨rfl, H33.base⟩
        · rintro D w H; exact absurd H.swap.fact.1 id
        · rintro id D w H; exact absurd H.swap.fact.1 fun h => h
end Go.Proofs.Ytgoopiakpbcgoaa
