/- WordsJoin, walked. -/
import Derived.Test.YtgoopiakpbcgoaaShCutM
import Derived.Test.YtgoopiakpbcgoaaLawWOwn
set_option linter.unusedSimpArgs false
set_option linter.unusedVariables false
namespace Go.Proofs.Ytgoopiakpbcgoaa
open Go.RowKit Go.Lib
theorem rd_take {w : World} {v : Value} {ws : List Wd} {n : Nat} (h : Rd w 3 v ws.length (ws.flatMap wdE)) (hn : n ≤ ws.length) : Rd w 3 (cutV 3 0 n v) (ws.take n).length ((ws.take n).flatMap wdE) := by
  have h1 := h.cut (Nat.zero_le n) hn
  have e : (((ws.flatMap wdE).drop (0 * 3)).take ((n - 0) * 3)) = (ws.take n).flatMap wdE := by
    rw [Nat.zero_mul, List.drop_zero, Nat.sub_zero]
    have h2 : ws.flatMap wdE = (ws.take n).flatMap wdE ++ (ws.drop n).flatMap wdE := by rw [← List.flatMap_append, List.take_append_drop]
    rw [h2, List.take_left' (by rw [flat_len wdE_len, List.length_take]; omega)]
  rw [e, Nat.sub_zero] at h1
  rwa [List.length_take, Nat.min_eq_left hn]
theorem wd_from {ws : List Wd} {k : Nat} (h : k < ws.length) : (ws.flatMap wdE).getD (k * 3 + 1) undef = .int .i64 ((ws.getD k (0, 0, 0)).2.1 : Nat) := by
  have h1 := flat_elem wdE_len h (0, 0, 0)
  have h2 := congrArg (fun x => x.getD 1 undef) h1
  simp only [List.getD_eq_getElem?_getD, List.getElem?_take, List.getElem?_drop] at h2
  rw [List.getD_eq_getElem?_getD]
  simpa [wdE] using h2
theorem quoted_zero {l : List Int} {c : Int} (h : quotedS l c = 0) (h2 : 0 ≤ c ∧ c < l.length) : quoS l c.toNat = 0 := by unfold quotedS at h; rwa [if_pos h2] at h
theorem join_rn {ls : List (List Int)} (h : ∀ k, k < ls.length → Rn32 (ls.getD k [])) : ∀ k, k ≤ ls.length → Rn32 (joinK ls k)
  | 0, _ => fun x hx => by cases hx
  | k + 1, hk => fun x hx => by
    rw [joinK] at hx
    rcases List.mem_append.1 hx with hx | hx
    · rcases List.mem_append.1 hx with hx | hx
      · exact join_rn h k (by omega) x hx
      · split at hx <;> simp at hx; omega
    · exact h k (by omega) x hx
def selI (ls : List (List Int)) (k : Nat) : List Nat := (List.range k).filter fun j => decide (aloneP (ls.getD j []))
def selL (ls : List (List Int)) (k : Nat) : List (List Int) := (selI ls k).map fun j => ls.getD j []
def selV (ls : List (List Int)) (vs : List Value) (k : Nat) : List Value := (selI ls k).map fun j => vs.getD j undef
theorem selI_succ (ls : List (List Int)) (k : Nat) : selI ls (k + 1) = selI ls k ++ (if aloneP (ls.getD k []) then [k] else []) := by
  unfold selI; rw [List.range_succ, List.filter_append]
  congr 1
  by_cases h : aloneP (ls.getD k [])
  · rw [if_pos h]; simp only [List.filter_cons, List.filter_nil, decide_eq_true h, if_true]
  · rw [if_neg h]; simp only [List.filter_cons, List.filter_nil, decide_eq_false h, Bool.false_eq_true, if_false]
theorem selI_lt {ls : List (List Int)} {k j : Nat} (h : j ∈ selI ls k) : j < k ∧ aloneP (ls.getD j []) := by
  unfold selI at h; have := List.mem_filter.1 h; exact ⟨by simpa using this.1, by simpa using this.2⟩
theorem selL_alone {ls : List (List Int)} {k : Nat} : ∀ w ∈ selL ls k, aloneP w := fun w hw => by
  obtain ⟨j, hj, rfl⟩ := List.mem_map.1 hw; exact (selI_lt hj).2
theorem selL_sum (ls : List (List Int)) : ∀ k, k ≤ ls.length → ((selL ls k).map List.length).sum ≤ ((ls.take k).map List.length).sum ∧ (selL ls k).length ≤ k
  | 0, _ => by simp [selL, selI]
  | k + 1, h => by
    have ih := selL_sum ls k (by omega)
    rw [sum_take_succ (by omega)]
    unfold selL at ih ⊢
    rw [selI_succ, List.map_append, List.map_append, List.sum_append, List.length_append]
    split <;> simp <;> simp at ih <;> omega
theorem sel_get {α : Type} {l : List Nat} {f : Nat → α} {j : Nat} {d : α} (h : j < l.length) : (l.map f).getD j d = f (l.getD j 0) := by
  rw [List.getD_eq_getElem?_getD, List.getD_eq_getElem?_getD, List.getElem?_map, List.getElem?_eq_getElem h]; rfl
theorem selL_in {ls : List (List Int)} {k : Nat} (h : aloneP (ls.getD k [])) : selL ls (k + 1) = selL ls k ++ [ls.getD k []] := by unfold selL; rw [selI_succ, if_pos h, List.map_append]; rfl
theorem selL_out {ls : List (List Int)} {k : Nat} (h : ¬ aloneP (ls.getD k [])) : selL ls (k + 1) = selL ls k := by unfold selL; rw [selI_succ, if_neg h, List.append_nil]
theorem selV_in {ls : List (List Int)} {vs : List Value} {k : Nat} (h : aloneP (ls.getD k [])) : selV ls vs (k + 1) = selV ls vs k ++ [vs.getD k undef] := by unfold selV; rw [selI_succ, if_pos h, List.map_append]; rfl
theorem selV_out {ls : List (List Int)} {vs : List Value} {k : Nat} (h : ¬ aloneP (ls.getD k [])) : selV ls vs (k + 1) = selV ls vs k := by unfold selV; rw [selI_succ, if_neg h, List.append_nil]
theorem selL_len {ls : List (List Int)} {k : Nat} : (selL ls k).length = (selI ls k).length := by simp [selL]
theorem selV_len {ls : List (List Int)} {vs : List Value} {k : Nat} : (selV ls vs k).length = (selL ls k).length := by simp [selL, selV]
theorem sel_at {ls : List (List Int)} {n j : Nat} (h : j < (selL ls n).length) : ∃ i, i < n ∧ (selL ls n).getD j [] = ls.getD i [] ∧ ∀ vs : List Value, (selV ls vs n).getD j undef = vs.getD i undef := by
  rw [selL_len] at h
  have hm : (selI ls n).getD j 0 ∈ selI ls n := by rw [List.getD_eq_getElem?_getD, List.getElem?_eq_getElem h]; exact List.getElem_mem h
  exact ⟨_, (selI_lt hm).1, sel_get h, fun vs => sel_get h⟩
set_option maxHeartbeats 2000000
section
variable {w0 w : World} {F : HP} {v : Value} {l : List Int}
theorem alone_ret (H : Holds w0 w F) (hv : FRdI w0 F .i32 v l) (hl : Rn32 l) (hL : l.length ≤ 1073741824) : Ret Try.prog 11 #[v] w fun r w' => r = .bool (decide (aloneP l)) ∧ Holds w0 w' F := by
  have hone : (wordsS l).length = 1 → wordsS l = [(wordsS l).getD 0 (0, 0, 0)] := fun h => by
    obtain ⟨x, e⟩ := List.length_eq_one_iff.1 h
    rw [e]; rfl
  refine ret_enter Try.func11 rfl Try.ntmps11 (Nat.le_of_ble_eq_true rfl) ?_
  dsimp only [slots0, Nat.reduceAdd]
  refine wc_seq ?_
  refine wc_region ?_
  refine wl_val (r_assign rfl) (ltn rfl) ?_
  refine wl_nil ?_
  refine wq_seq ?_
  refine wc_seq ?_
  refine wc_region ?_
  refine wl_val (r_move rfl) (ltn rfl) ?_
  refine wl_eff (e_call (r_call rfl Try.func9 rfl rfl) (sh_words_ret H (fun W HW => hv _ (HW)) (by assumption) (by omega))) (ltn rfl) ?_
  rintro u1 w1 H1
  refine wl_val (r_assign rfl) (ltn rfl) ?_
  refine wl_nil ?_
  refine wq_seq ?_
  refine wc_seq ?_
  refine wc_region ?_
  refine wl_val (r_move rfl) (ltn rfl) ?_
  refine wl_val (r_lenS ((H1).row_rd) Try.underlying24 rfl) (ltn rfl) ?_
  refine wl_val (r_eql rfl rfl) (ltn rfl) ?_
  refine wl_split rfl (ltn rfl) (fun h1 => ?_) (fun h1 => ?_)
  · (try simp only [beq_iff_eq, bne_iff_ne, ne_eq, decide_eq_true_eq, decide_eq_false_iff_not, beq_eq_false_iff_ne, bne_eq_false_iff_eq, Bool.not_eq_true', Bool.not_eq_false', Bool.not_eq_eq_eq_not, Bool.not_true, Bool.not_false, gt_iff_lt, ge_iff_le, Int.not_lt, Int.not_le] at h1)
    refine wl_yes rfl rfl ?_
    refine wl_val (r_move rfl) (ltn rfl) ?_
    refine wl_yes rfl rfl ?_
    obtain ⟨bu1, ou1, cu1, eu1⟩ := Rd.posV ((H1).row_rd) (by omega)
    cases eu1
    refine wl_val (r_index Try.underlying24 Try.sizeOf27 rfl rfl (by omega)) (ltn rfl) ?_
    refine wl_yes rfl rfl ?_
    refine wl_val (r_load_elem (k := 0) (ys := wdE ((wordsS l).getD 0 (0, 0, 0))) (H1.row_rd) (by omega) Try.underlying27 rfl Try.sizeOf27 rfl (flat_elem wdE_len (by omega) (0, 0, 0)) rfl) (ltn rfl) ?_
    refine wl_yes rfl rfl ?_
    refine wl_val (r_move rfl) (ltn rfl) ?_
    refine wl_yes rfl rfl ?_
    refine wl_val (r_lenR (hv _ (H1.right)) Try.underlying22 rfl) (ltn rfl) ?_
    refine wl_yes rfl rfl ?_
    refine wl_val (r_build (pl := #[(0, 1), (1, 1), (2, 1)]) (_) Try.underlying27 Try.zeroValue27 (fun w => by kernel_rfl) rfl (rfl)) (ltn rfl) ?_
    refine wl_yes rfl rfl ?_
    refine wl_val (r_wd_eql (c := (wordsS l).getD 0 (0, 0, 0)) (d := (0, 0, l.length)) rfl rfl) (ltn rfl) ?_
    refine wl_val (r_pick_t rfl rfl) (ltn rfl) ?_
    refine wl_split rfl (ltn rfl) (fun h2 => ?_) (fun h2 => ?_)
    · (try simp only [beq_iff_eq, bne_iff_ne, ne_eq, decide_eq_true_eq, decide_eq_false_iff_not, beq_eq_false_iff_ne, bne_eq_false_iff_eq, Bool.not_eq_true', Bool.not_eq_false', Bool.not_eq_eq_eq_not, Bool.not_true, Bool.not_false, gt_iff_lt, ge_iff_le, Int.not_lt, Int.not_le] at h2)
      refine wl_yes rfl rfl ?_
      refine wl_val (r_move rfl) (ltn rfl) ?_
      refine wl_yes rfl rfl ?_
      refine wl_eff (e_call (r_call rfl Try.func18 rfl rfl) (sh_open_ret H1 (fun W HW => hv _ (HW.right)) (by omega))) (ltn rfl) ?_
      rintro _ w2 ⟨rfl, H2⟩
      refine wl_yes rfl rfl ?_
      refine wl_val (r_eql rfl rfl) (ltn rfl) ?_
      refine wl_val (r_pick_t rfl rfl) (ltn rfl) ?_
      refine wl_val (r_assign rfl) (ltn rfl) ?_
      refine wl_nil ?_
      refine wq_seq ?_
      refine wc_ret ?_
      refine wq_end1 (.inl rfl) Try.results11 rfl ?_
      refine ⟨?_, H2.right⟩; congr 1; symm; first | exact decide_eq_false (fun q => by have := congrArg List.length q.1; rw [List.length_singleton] at this; omega) | exact decide_eq_false (fun q => absurd (by rw [q.1]; rfl) (by assumption : ¬ (wordsS l).getD 0 (0, 0, 0) = (0, 0, l.length))) | (rw [show (openS l == 0) = decide (openS l = 0) from rfl]; exact decide_eq_decide.2 ⟨fun q => q.2, fun q => ⟨(hone (by omega)).trans (congrArg (fun x => [x]) (by assumption)), q⟩⟩)
    · (try simp only [beq_iff_eq, bne_iff_ne, ne_eq, decide_eq_true_eq, decide_eq_false_iff_not, beq_eq_false_iff_ne, bne_eq_false_iff_eq, Bool.not_eq_true', Bool.not_eq_false', Bool.not_eq_eq_eq_not, Bool.not_true, Bool.not_false, gt_iff_lt, ge_iff_le, Int.not_lt, Int.not_le] at h2)
      refine wl_no rfl rfl rfl (ltn rfl) ?_
      refine wl_no rfl rfl rfl (ltn rfl) ?_
      refine wl_no rfl rfl rfl (ltn rfl) ?_
      refine wl_val (r_pick_f rfl rfl) (ltn rfl) ?_
      refine wl_val (r_assign rfl) (ltn rfl) ?_
      refine wl_nil ?_
      refine wq_seq ?_
      refine wc_ret ?_
      refine wq_end1 (.inl rfl) Try.results11 rfl ?_
      refine ⟨?_, H1.right⟩; congr 1; symm; first | exact decide_eq_false (fun q => by have := congrArg List.length q.1; rw [List.length_singleton] at this; omega) | exact decide_eq_false (fun q => absurd (by rw [q.1]; rfl) (by assumption : ¬ (wordsS l).getD 0 (0, 0, 0) = (0, 0, l.length))) | (rw [show (openS l == 0) = decide (openS l = 0) from rfl]; exact decide_eq_decide.2 ⟨fun q => q.2, fun q => ⟨(hone (by omega)).trans (congrArg (fun x => [x]) (by assumption)), q⟩⟩)
  · (try simp only [beq_iff_eq, bne_iff_ne, ne_eq, decide_eq_true_eq, decide_eq_false_iff_not, beq_eq_false_iff_ne, bne_eq_false_iff_eq, Bool.not_eq_true', Bool.not_eq_false', Bool.not_eq_eq_eq_not, Bool.not_true, Bool.not_false, gt_iff_lt, ge_iff_le, Int.not_lt, Int.not_le] at h1)
    refine wl_no rfl rfl rfl (ltn rfl) ?_
    refine wl_no rfl rfl rfl (ltn rfl) ?_
    refine wl_no rfl rfl rfl (ltn rfl) ?_
    refine wl_no rfl rfl rfl (ltn rfl) ?_
    refine wl_no rfl rfl rfl (ltn rfl) ?_
    refine wl_no rfl rfl rfl (ltn rfl) ?_
    refine wl_no rfl rfl rfl (ltn rfl) ?_
    refine wl_val (r_pick_f rfl rfl) (ltn rfl) ?_
    refine wl_val (r_move rfl) (ltn rfl) ?_
    refine wl_no rfl rfl rfl (ltn rfl) ?_
    refine wl_no rfl rfl rfl (ltn rfl) ?_
    refine wl_no rfl rfl rfl (ltn rfl) ?_
    refine wl_val (r_pick_f rfl rfl) (ltn rfl) ?_
    refine wl_val (r_assign rfl) (ltn rfl) ?_
    refine wl_nil ?_
    refine wq_seq ?_
    refine wc_ret ?_
    refine wq_end1 (.inl rfl) Try.results11 rfl ?_
    refine ⟨?_, H1.right⟩; congr 1; symm; first | exact decide_eq_false (fun q => by have := congrArg List.length q.1; rw [List.length_singleton] at this; omega) | exact decide_eq_false (fun q => absurd (by rw [q.1]; rfl) (by assumption : ¬ (wordsS l).getD 0 (0, 0, 0) = (0, 0, l.length))) | (rw [show (openS l == 0) = decide (openS l = 0) from rfl]; exact decide_eq_decide.2 ⟨fun q => q.2, fun q => ⟨(hone (by omega)).trans (congrArg (fun x => [x]) (by assumption)), q⟩⟩)
end
theorem words_join {w : World} {v t : Value} {l : List Int} {c : Int} {vs : List Value} {ls : List (List Int)} (g : RdI w .i32 v l) (hl : Rn32 l) (hL : l.length ≤ 1073741824)
    (g2 : Rd w 1 t ls.length vs) (g3 : ∀ k, k < ls.length → RdI w .i32 (vs.getD k undef) (ls.getD k []) ∧ Rn32 (ls.getD k []) ∧ (ls.getD k []).length ≤ 1073741824) (hS : (ls.map List.length).sum + ls.length ≤ 2097152) :
    Ret Try.prog 4 #[t, v, .int .i64 c] w fun v w' => v = .bool true ∧ Below w.heap.size w w' := by
  obtain ⟨F, H⟩ : ∃ F, Holds w w F := ⟨_, Holds.start w⟩
  have hv : FRdI w F .i32 v l := FRdI.of_start g F
  have ht : FRd w F 1 t ls.length vs := FRd.of_start g2 F
  have hls : ∀ k, k < ls.length → FRdI w F .i32 (vs.getD k undef) (ls.getD k []) := fun k hk => FRdI.of_start (g3 k hk).1 F
  obtain ⟨-, _, ct, -, hct1, hct2, -⟩ := g2
  have hsum := selL_sum ls ls.length (Nat.le_refl _)
  rw [List.take_length] at hsum
  have hsel : ∀ j, j < (selL ls ls.length).length → FRdI w F .i32 ((selV ls vs ls.length).getD j undef) ((selL ls ls.length).getD j []) := fun j hj => by
    obtain ⟨i, h1, h2, h3⟩ := sel_at hj
    rw [h2, h3]; exact hls i h1
  have hselr : ∀ j, j < (selL ls ls.length).length → Rn32 ((selL ls ls.length).getD j []) := fun j hj => by
    obtain ⟨i, h1, h2, h3⟩ := sel_at hj
    rw [h2]; exact (g3 i h1).2.1
  have hjl := joinS_len (selL ls ls.length)
  have hjr : Rn32 (joinS (selL ls ls.length)) := join_rn hselr _ (Nat.le_refl _)
  have htx := texts_join (selL_alone (ls := ls) (k := ls.length))
  have hTe : ∀ k, k < (selL ls ls.length).length → ((selL ls ls.length).getD k []).length ≤ 4294967296 := fun k hk => by
    obtain ⟨i, h1, h2, h3⟩ := sel_at hk
    rw [h2]; have := (g3 i h1).2.2; omega
  refine ret_enter Try.func4 rfl Try.ntmps4 (Nat.le_of_ble_eq_true rfl) ?_
  dsimp only [slots0, Nat.reduceAdd]
  refine wc_seq ?_
  refine wc_region ?_
  refine wl_eff (e_allocL (l := [_]) H Try.zeroValue4 rfl) (ltn rfl) ?_
  rintro _ w1 ⟨b1, rfl, H1⟩
  refine wl_nil ?_
  refine wq_seq ?_
  refine wc_seq ?_
  refine wc_seq ?_
  refine wc_region ?_
  refine wl_eff (e_call (r_call rfl Try.func8 rfl rfl) (sh_begun_ret H1)) (ltn rfl) ?_
  rintro _ w2 ⟨rfl, H2⟩
  refine wl_val (r_not rfl) (ltn rfl) ?_
  refine wl_nil ?_
  refine wq_seq ?_
  refine wc_cond rfl (fun h => by exfalso; (try simp only [beq_iff_eq, bne_iff_ne, ne_eq, decide_eq_true_eq, decide_eq_false_iff_not, beq_eq_false_iff_ne, bne_eq_false_iff_eq, Bool.not_eq_true', Bool.not_eq_false', Bool.not_eq_eq_eq_not, Bool.not_true, Bool.not_false, gt_iff_lt, ge_iff_le, Int.not_lt, Int.not_le] at h); simp at h) (fun h1 => ?_)
  (try simp only [beq_iff_eq, bne_iff_ne, ne_eq, decide_eq_true_eq, decide_eq_false_iff_not, beq_eq_false_iff_ne, bne_eq_false_iff_eq, Bool.not_eq_true', Bool.not_eq_false', Bool.not_eq_eq_eq_not, Bool.not_true, Bool.not_false, gt_iff_lt, ge_iff_le, Int.not_lt, Int.not_le] at h1)
  refine wc_skip ?_
  refine wq_seq ?_
  refine wc_seq ?_
  refine wc_region ?_
  refine wl_eff (e_allocL (l := [_]) H2 Try.zeroValue30 rfl) (ltn rfl) ?_
  rintro _ w3 ⟨b3, rfl, H3⟩
  refine wl_nil ?_
  refine wq_seq ?_
  refine wc_seq ?_
  refine wc_seq ?_
  refine wc_region ?_
  refine wl_val (r_move rfl) (ltn rfl) ?_
  refine wl_val (r_lenS (ht _ (H3.right.right)) Try.underlying30 rfl) (ltn rfl) ?_
  refine wl_val (r_move rfl) (ltn rfl) ?_
  refine wl_nil ?_
  refine wq_seq ?_
  refine wc_block ?_
  have HS := (H3.f2).row_nil (e := 22) (sz := 1) none
  refine wc_loop [(1, _), (2, _), (6, _), (7, _), (17, _), (18, _)] (fun (k : Nat) => [(19, .int .i64 (k : Int))]) (fun (k : Nat) W => ∃ sv, k ≤ ls.length ∧ Holds w W (blk b1 (.cells #[.bool false] 4 (0, 0)) • blk b3 (.cells #[sv] 30 (0, 0)) • Row 22 1 sv (selL ls k).length (selV ls vs k) • F)) (fun (k : Nat) => ls.length - k) (0) (Sub.cons rfl (Sub.cons rfl (Sub.cons rfl (Sub.cons rfl (Sub.cons rfl (Sub.cons rfl (Sub.nil _))))))) (Sub.cons rfl (Sub.nil _)) ⟨.slice none 0 0, by omega, HS.f3.f3⟩ ?_
  rintro k w4 ⟨sv, hk, HL⟩
  dsimp only [List.cons_append, List.nil_append]
  refine wc_seq ?_
  refine wc_region ?_
  refine wl_val (r_lss rfl rfl) (ltn rfl) ?_
  refine wl_nil ?_
  refine wq_seq ?_
  refine wc_seq ?_
  refine wc_cond rfl (fun h2 => ?_) (fun h2 => ?_)
  · (try simp only [beq_iff_eq, bne_iff_ne, ne_eq, decide_eq_true_eq, decide_eq_false_iff_not, beq_eq_false_iff_ne, bne_eq_false_iff_eq, Bool.not_eq_true', Bool.not_eq_false', Bool.not_eq_eq_eq_not, Bool.not_true, Bool.not_false, gt_iff_lt, ge_iff_le, Int.not_lt, Int.not_le] at h2)
    
    refine wc_skip ?_
    refine wq_seq ?_
    refine wc_seq ?_
    refine wc_block ?_
    refine wc_seq ?_
    have hkl : k < ls.length := by omega
    obtain ⟨hk1, hk2, hk3⟩ := g3 k hkl
    have hsk := selL_sum ls k (by omega)
    refine wc_region ?_
    obtain ⟨bt, ot, ct, et⟩ := Rd.posV (ht _ (HL.right.right.right)) (by omega)
    cases et
    refine wl_val (r_index Try.underlying30 Try.sizeOf22 rfl rfl (by omega)) (ltn rfl) ?_
    refine wl_val (r_load (plain_of Try.underlying22 rfl) rfl (by first | exact Rd.at1n (ht _ (HL.right.right.right)) (by omega) | exact Rd.at0 (ht _ (HL.right.right.right)) (by omega) | exact Rd.at1 (ht _ (HL.right.right.right)) (by omega))) (ltn rfl) ?_
    refine wl_gen (fun x22_5 hx22_5 => ?_)
    refine wl_val (r_assign rfl) (ltn rfl) ?_
    refine wl_nil ?_
    refine wq_seq ?_
    refine wc_seq ?_
    refine wc_region ?_
    refine wl_val (r_move rfl) (ltn rfl) ?_
    refine wl_eff (e_call (r_call rfl Try.func11 rfl rfl) (alone_ret HL (fun W HW => (by rw [hx22_5]; exact hls _ (by omega) _ (HW.right.right.right))) (by assumption) (by omega))) (ltn rfl) ?_
    rintro _ w6 ⟨rfl, H6⟩
    refine wl_nil ?_
    refine wq_seq ?_
    refine wc_cond rfl (fun h3 => ?_) (fun h3 => ?_)
    · (try simp only [beq_iff_eq, bne_iff_ne, ne_eq, decide_eq_true_eq, decide_eq_false_iff_not, beq_eq_false_iff_ne, bne_eq_false_iff_eq, Bool.not_eq_true', Bool.not_eq_false', Bool.not_eq_eq_eq_not, Bool.not_true, Bool.not_false, gt_iff_lt, ge_iff_le, Int.not_lt, Int.not_le] at h3)
      have hal : aloneP (ls.getD k []) := by simpa using h3
      refine wc_region ?_
      refine wl_val (r_load (plain_of Try.underlying30 rfl) rfl (cell_of_blk (H6.f2).get.2 rfl)) (ltn rfl) ?_
      refine wl_val (r_move rfl) (ltn rfl) ?_
      refine wl_eff (e_lit_row (vs := [_]) H6 Try.underlying30 Try.sizeOf22 Try.zeroValue22 rfl rfl rfl (by decide) (ones_cons (by first | rfl | exact Rd.one ((by rw [hx22_5]; exact hls _ (by omega) _ (H6.right.right.right)))) ones_nil)) (ltn rfl) ?_
      rintro l7 w7 H7
      refine wl_eff (e_append H7.f4 Try.underlying30 (show (Try.prog.info? 22).map (fun i => (i.zero, i.size, i.bytes)) = some (some (.slice none 0 0), 1, 24) by kernel_rfl) rfl rfl rfl ((H7).row_rd) (ones_cons (by first | rfl | exact Rd.one ((by rw [hx22_5]; exact hls _ (by omega) _ (H7.right.right.right.right)))) ones_nil) (by omega) (by omega)) (ltn rfl) ?_
      rintro l8 w8 H8
      have Hd9 := H8.f2.right
      refine wl_eff0 (e_storeL 0 (l' := [_]) Hd9.f3 Try.sizeOf30 rfl rfl (by first | rfl | exact Rd.one ((Hd9).row_rd)) rfl rfl) ?_
      rintro _ w10 H10
      refine wl_nil ?_
      refine wq_block_normal ?_
      refine wq_seq ?_
      refine wc_region ?_
      refine wl_val (r_add rfl rfl (by omega)) (ltn rfl) ?_
      refine wl_val (r_move rfl) (ltn rfl) ?_
      refine wl_nil ?_
      refine wq_round (k + 1) ?_ ?_ ?_ ?_
      · exact (Sub.cons rfl (Sub.nil _))
      · exact (Sub.cons rfl (Sub.cons rfl (Sub.cons rfl (Sub.cons rfl (Sub.cons rfl (Sub.cons rfl (Sub.nil _)))))))
      · (try dsimp only)
        exact by first | exact ⟨_, by omega, by rw [selL_in hal, selV_in hal, List.length_append, ← hx22_5]; exact H10.f2.f2.f3⟩ | exact ⟨_, by omega, by rw [selL_out hal, selV_out hal]; exact H10.f2.f2.f3⟩
      · (try dsimp only); omega
    · (try simp only [beq_iff_eq, bne_iff_ne, ne_eq, decide_eq_true_eq, decide_eq_false_iff_not, beq_eq_false_iff_ne, bne_eq_false_iff_eq, Bool.not_eq_true', Bool.not_eq_false', Bool.not_eq_eq_eq_not, Bool.not_true, Bool.not_false, gt_iff_lt, ge_iff_le, Int.not_lt, Int.not_le] at h3)
      have hal : ¬ aloneP (ls.getD k []) := by simpa using h3
      refine wc_skip ?_
      refine wq_block_normal ?_
      refine wq_seq ?_
      refine wc_region ?_
      refine wl_val (r_add rfl rfl (by omega)) (ltn rfl) ?_
      refine wl_val (r_move rfl) (ltn rfl) ?_
      refine wl_nil ?_
      refine wq_round (k + 1) ?_ ?_ ?_ ?_
      · exact (Sub.cons rfl (Sub.nil _))
      · exact (Sub.cons rfl (Sub.cons rfl (Sub.cons rfl (Sub.cons rfl (Sub.cons rfl (Sub.cons rfl (Sub.nil _)))))))
      · (try dsimp only)
        exact by first | exact ⟨_, by omega, by rw [selL_in hal, selV_in hal, List.length_append, ← hx22_5]; exact H6.f3.f3.f3⟩ | exact ⟨_, by omega, by rw [selL_out hal, selV_out hal]; exact H6.f3.f3.f3⟩
      · (try dsimp only); omega
  · (try simp only [beq_iff_eq, bne_iff_ne, ne_eq, decide_eq_true_eq, decide_eq_false_iff_not, beq_eq_false_iff_ne, bne_eq_false_iff_eq, Bool.not_eq_true', Bool.not_eq_false', Bool.not_eq_eq_eq_not, Bool.not_true, Bool.not_false, gt_iff_lt, ge_iff_le, Int.not_lt, Int.not_le] at h2)
    
    refine wc_exit ?_
    refine wq_then_exit ?_
    refine wq_then_exit ?_
    refine wq_block_hit ?_
    refine wq_seq ?_
    refine wc_seq ?_
    obtain rfl : k = ls.length := by omega
    refine wc_region ?_
    refine wl_eff (e_allocL (l := [_]) HL Try.zeroValue3 rfl) (ltn rfl) ?_
    rintro _ w11 ⟨b11, rfl, H11⟩
    refine wl_eff0 (e_storeL 0 (l' := [_]) H11 Try.sizeOf3 rfl rfl (by first | rfl | assumption) rfl rfl) ?_
    rintro _ w12 H12
    refine wl_nil ?_
    refine wq_seq ?_
    refine wc_seq ?_
    refine wc_seq ?_
    refine wc_region ?_
    refine wl_val (r_load (plain_of Try.underlying30 rfl) rfl (cell_of_blk (H12.f3).get.2 rfl)) (ltn rfl) ?_
    refine wl_eff (e_call (r_call rfl Try.func13 rfl rfl) (sh_join_ret H12 (fun W HW => (HW.f4).row_rd) (fun k hk W HW => hsel k hk _ (HW.right.right.right.right)) (by omega))) (ltn rfl) ?_
    rintro u13 w13 H13
    refine wl_eff (e_call (r_call rfl Try.func12 rfl rfl) (sh_texts_ret H13 (fun W HW => (HW).row_rd) hjr (by omega))) (ltn rfl) ?_
    rintro _ w14 ⟨b14, rfl, H14⟩
    rw [htx] at H14
    refine wl_nil ?_
    refine wq_seq ?_
    refine wc_block ?_
    refine wc_rangeFunc rfl (texts_iter b14 hTe (by omega)) (fun j => blk b11 (.cells #[.int .i64 (j : Int)] 3 (0, 0)) • blk b3 (.cells #[sv] 30 (0, 0)) • Row 22 1 sv (selL ls ls.length).length (selV ls vs ls.length) • blk b1 (.cells #[.bool false] 4 (0, 0)) • F) (fact False) (fun _ => fact False) (H14.f2.right.f3.f5.f5.f5.f5.f5.f5.f5.f5.f5.comm) (by rfl) ?_ ?_ ?_ ?_
    · rintro l15 j hkR0 vs15 A15 ⟨x15, rfl, rfl⟩ G15 w15 H15
      try simp only [sep_assoc, emp_sep, sep_emp] at H15
      refine ⟨rfl, ?_⟩
      dsimp only [zipL]
      refine wc_seq ?_
      refine wc_region ?_
      refine wl_val (r_assign rfl) (ltn rfl) ?_
      refine wl_nil ?_
      refine wq_seq ?_
      refine wc_region ?_
      refine wl_val (r_assign rfl) (ltn rfl) ?_
      refine wl_nil ?_
      refine wq_mid (H15.g6) ?_
      intro G16 w16 H16
      try simp only [sep_assoc] at H16
      refine wc_block ?_
      refine wc_seq ?_
      refine wc_seq ?_
      refine wc_region ?_
      refine wl_val (r_move rfl) (ltn rfl) ?_
      refine wl_val (r_load (plain_of Try.underlying30 rfl) rfl (cell_of_blk (H16.f3).get.2 rfl)) (ltn rfl) ?_
      refine wl_val (r_lenS ((H16.f4).row_rd) Try.underlying30 rfl) (ltn rfl) ?_
      refine wl_val (r_geq rfl rfl) (ltn rfl) ?_
      refine wl_split rfl (ltn rfl) (fun h => by exfalso; (try simp only [beq_iff_eq, bne_iff_ne, ne_eq, decide_eq_true_eq, decide_eq_false_iff_not, beq_eq_false_iff_ne, bne_eq_false_iff_eq, Bool.not_eq_true', Bool.not_eq_false', Bool.not_eq_eq_eq_not, Bool.not_true, Bool.not_false, gt_iff_lt, ge_iff_le, Int.not_lt, Int.not_le] at h); omega) (fun h4 => ?_)
      (try simp only [beq_iff_eq, bne_iff_ne, ne_eq, decide_eq_true_eq, decide_eq_false_iff_not, beq_eq_false_iff_ne, bne_eq_false_iff_eq, Bool.not_eq_true', Bool.not_eq_false', Bool.not_eq_eq_eq_not, Bool.not_true, Bool.not_false, gt_iff_lt, ge_iff_le, Int.not_lt, Int.not_le] at h4)
      refine wl_yes rfl rfl ?_
      refine wl_val (r_move rfl) (ltn rfl) ?_
      refine wl_yes rfl rfl ?_
      refine wl_val (r_load (plain_of Try.underlying30 rfl) rfl (cell_of_blk (H16.f3).get.2 rfl)) (ltn rfl) ?_
      refine wl_yes rfl rfl ?_
      refine wl_val (r_move rfl) (ltn rfl) ?_
      refine wl_yes rfl rfl ?_
      obtain ⟨bsv, osv, csv, esv⟩ := Rd.posV ((H16.f4).row_rd) (by omega)
      cases esv
      refine wl_val (r_index Try.underlying30 Try.sizeOf22 rfl rfl (by omega)) (ltn rfl) ?_
      refine wl_yes rfl rfl ?_
      refine wl_val (r_load (plain_of Try.underlying22 rfl) rfl (by first | exact Rd.at1n ((H16.f4).row_rd) (by omega) | exact Rd.at0 ((H16.f4).row_rd) (by omega) | exact Rd.at1 ((H16.f4).row_rd) (by omega))) (ltn rfl) ?_
      refine wl_gen (fun x44_17 hx44_17 => ?_)
      refine wl_yes rfl rfl ?_
      refine wl_eff (e_call (r_call rfl Try.func14 rfl rfl) (same_runes_any H16 (fun W HW => (HW).row_rd) (fun W HW => (by rw [hx44_17]; exact hsel _ (by omega) _ (HW.f6.left))))) (ltn rfl) ?_
      rintro _ w18 ⟨rfl, H18⟩
      refine wl_yes rfl rfl ?_
      refine wl_val (r_not rfl) (ltn rfl) ?_
      refine wl_val (r_pick_f rfl rfl) (ltn rfl) ?_
      refine wl_nil ?_
      refine wq_seq ?_
      refine wc_cond rfl (fun h => by exfalso; (try simp only [beq_iff_eq, bne_iff_ne, ne_eq, decide_eq_true_eq, decide_eq_false_iff_not, beq_eq_false_iff_ne, bne_eq_false_iff_eq, Bool.not_eq_true', Bool.not_eq_false', Bool.not_eq_eq_eq_not, Bool.not_true, Bool.not_false, gt_iff_lt, ge_iff_le, Int.not_lt, Int.not_le] at h); simp at h) (fun h5 => ?_)
      (try simp only [beq_iff_eq, bne_iff_ne, ne_eq, decide_eq_true_eq, decide_eq_false_iff_not, beq_eq_false_iff_ne, bne_eq_false_iff_eq, Bool.not_eq_true', Bool.not_eq_false', Bool.not_eq_eq_eq_not, Bool.not_true, Bool.not_false, gt_iff_lt, ge_iff_le, Int.not_lt, Int.not_le] at h5)
      refine wc_skip ?_
      refine wq_seq ?_
      refine wc_region ?_
      refine wl_val (r_load (plain_of Try.underlying3 rfl) rfl (cell_of_blk (H18.f2).get.2 rfl)) (ltn rfl) ?_
      refine wl_val (r_add rfl rfl (by omega)) (ltn rfl) ?_
      refine wl_eff0 (e_storeL 0 (l' := [_]) H18.f2 Try.sizeOf3 rfl rfl (by first | rfl | assumption) rfl rfl) ?_
      rintro _ w19 H19
      refine wl_nil ?_
      refine wq_block_normal ?_
      refine wq_rnormal ?_
      exact H19.f2.right.f5.f5.f5.f5.f5.g5
    · rintro D20 w20 H20
      have H20d := H20.ed
      try simp only [sep_assoc, emp_sep, sep_emp] at H20d
      have H20m := H20d.mark1
      refine wq_block_normal ?_
      refine wq_seq ?_
      refine wc_seq ?_
      refine wc_seq ?_
      refine wc_region ?_
      refine wl_val (r_load (plain_of Try.underlying3 rfl) rfl (cell_of_blk (H20m.f3).get.2 rfl)) (ltn rfl) ?_
      refine wl_val (r_load (plain_of Try.underlying30 rfl) rfl (cell_of_blk (H20m.f4).get.2 rfl)) (ltn rfl) ?_
      refine wl_val (r_lenS ((H20m.f5).row_rd) Try.underlying30 rfl) (ltn rfl) ?_
      refine wl_val (r_neq rfl rfl) (ltn rfl) ?_
      refine wl_nil ?_
      refine wq_seq ?_
      refine wc_cond rfl (fun h => by exfalso; (try simp only [beq_iff_eq, bne_iff_ne, ne_eq, decide_eq_true_eq, decide_eq_false_iff_not, beq_eq_false_iff_ne, bne_eq_false_iff_eq, Bool.not_eq_true', Bool.not_eq_false', Bool.not_eq_eq_eq_not, Bool.not_true, Bool.not_false, gt_iff_lt, ge_iff_le, Int.not_lt, Int.not_le] at h); simp at h) (fun h6 => ?_)
      (try simp only [beq_iff_eq, bne_iff_ne, ne_eq, decide_eq_true_eq, decide_eq_false_iff_not, beq_eq_false_iff_ne, bne_eq_false_iff_eq, Bool.not_eq_true', Bool.not_eq_false', Bool.not_eq_eq_eq_not, Bool.not_true, Bool.not_false, gt_iff_lt, ge_iff_le, Int.not_lt, Int.not_le] at h6)
      refine wc_skip ?_
      refine wq_seq ?_
      refine wc_seq ?_
      refine wc_seq ?_
      refine wc_region ?_
      refine wl_val (r_move rfl) (ltn rfl) ?_
      refine wl_val (r_lss rfl rfl) (ltn rfl) ?_
      refine wl_split rfl (ltn rfl) (fun h7 => ?_) (fun h7 => ?_)
      · (try simp only [beq_iff_eq, bne_iff_ne, ne_eq, decide_eq_true_eq, decide_eq_false_iff_not, beq_eq_false_iff_ne, bne_eq_false_iff_eq, Bool.not_eq_true', Bool.not_eq_false', Bool.not_eq_eq_eq_not, Bool.not_true, Bool.not_false, gt_iff_lt, ge_iff_le, Int.not_lt, Int.not_le] at h7)
        refine wl_no rfl rfl rfl (ltn rfl) ?_
        refine wl_no rfl rfl rfl (ltn rfl) ?_
        refine wl_no rfl rfl rfl (ltn rfl) ?_
        refine wl_no rfl rfl rfl (ltn rfl) ?_
        refine wl_val (r_pick_t rfl rfl) (ltn rfl) ?_
        refine wl_val (r_move rfl) (ltn rfl) ?_
        refine wl_no rfl rfl rfl (ltn rfl) ?_
        refine wl_no rfl rfl rfl (ltn rfl) ?_
        refine wl_no rfl rfl rfl (ltn rfl) ?_
        refine wl_no rfl rfl rfl (ltn rfl) ?_
        refine wl_no rfl rfl rfl (ltn rfl) ?_
        refine wl_val (r_pick_t rfl rfl) (ltn rfl) ?_
        refine wl_val (r_move rfl) (ltn rfl) ?_
        refine wl_no rfl rfl rfl (ltn rfl) ?_
        refine wl_no rfl rfl rfl (ltn rfl) ?_
        refine wl_no rfl rfl rfl (ltn rfl) ?_
        refine wl_no rfl rfl rfl (ltn rfl) ?_
        refine wl_val (r_pick_t rfl rfl) (ltn rfl) ?_
        refine wl_nil ?_
        refine wq_seq ?_
        refine wc_cond_t rfl ?_
        refine wc_seq ?_
        refine wc_region ?_
        refine wl_eff0 (e_storeL 0 (l' := [_]) H20m.f6 Try.sizeOf4 rfl rfl (by first | rfl | assumption) rfl rfl) ?_
        rintro _ w21 H21
        refine wl_nil ?_
        refine wq_seq ?_
        refine wc_ret ?_
        refine wq_then_ret ?_
        refine wq_endM (.inl rfl) (H21.f2) (fun w22 H22 => ?_)
        refine ⟨_, resC1 Try.results4 rfl (plain_of Try.underlying4 rfl) (cell_of_blk (H22).get.2 rfl), ?_⟩
        exact ⟨rfl, H22.base⟩
      · (try simp only [beq_iff_eq, bne_iff_ne, ne_eq, decide_eq_true_eq, decide_eq_false_iff_not, beq_eq_false_iff_ne, bne_eq_false_iff_eq, Bool.not_eq_true', Bool.not_eq_false', Bool.not_eq_eq_eq_not, Bool.not_true, Bool.not_false, gt_iff_lt, ge_iff_le, Int.not_lt, Int.not_le] at h7)
        refine wl_yes rfl rfl ?_
        refine wl_val (r_move rfl) (ltn rfl) ?_
        refine wl_yes rfl rfl ?_
        refine wl_val (r_move rfl) (ltn rfl) ?_
        refine wl_yes rfl rfl ?_
        refine wl_val (r_lenR (hv _ (H20m.right.right.right.right.right.right)) Try.underlying22 rfl) (ltn rfl) ?_
        refine wl_yes rfl rfl ?_
        refine wl_val (r_geq rfl rfl) (ltn rfl) ?_
        refine wl_val (r_pick_f rfl rfl) (ltn rfl) ?_
        refine wl_split rfl (ltn rfl) (fun h8 => ?_) (fun h8 => ?_)
        · (try simp only [beq_iff_eq, bne_iff_ne, ne_eq, decide_eq_true_eq, decide_eq_false_iff_not, beq_eq_false_iff_ne, bne_eq_false_iff_eq, Bool.not_eq_true', Bool.not_eq_false', Bool.not_eq_eq_eq_not, Bool.not_true, Bool.not_false, gt_iff_lt, ge_iff_le, Int.not_lt, Int.not_le] at h8)
          refine wl_no rfl rfl rfl (ltn rfl) ?_
          refine wl_no rfl rfl rfl (ltn rfl) ?_
          refine wl_no rfl rfl rfl (ltn rfl) ?_
          refine wl_no rfl rfl rfl (ltn rfl) ?_
          refine wl_no rfl rfl rfl (ltn rfl) ?_
          refine wl_val (r_pick_t rfl rfl) (ltn rfl) ?_
          refine wl_val (r_move rfl) (ltn rfl) ?_
          refine wl_no rfl rfl rfl (ltn rfl) ?_
          refine wl_no rfl rfl rfl (ltn rfl) ?_
          refine wl_no rfl rfl rfl (ltn rfl) ?_
          refine wl_no rfl rfl rfl (ltn rfl) ?_
          refine wl_val (r_pick_t rfl rfl) (ltn rfl) ?_
          refine wl_nil ?_
          refine wq_seq ?_
          refine wc_cond_t rfl ?_
          refine wc_seq ?_
          refine wc_region ?_
          refine wl_eff0 (e_storeL 0 (l' := [_]) H20m.f6 Try.sizeOf4 rfl rfl (by first | rfl | assumption) rfl rfl) ?_
          rintro _ w23 H23
          refine wl_nil ?_
          refine wq_seq ?_
          refine wc_ret ?_
          refine wq_then_ret ?_
          refine wq_endM (.inl rfl) (H23.f2) (fun w24 H24 => ?_)
          refine ⟨_, resC1 Try.results4 rfl (plain_of Try.underlying4 rfl) (cell_of_blk (H24).get.2 rfl), ?_⟩
          exact ⟨rfl, H24.base⟩
        · (try simp only [beq_iff_eq, bne_iff_ne, ne_eq, decide_eq_true_eq, decide_eq_false_iff_not, beq_eq_false_iff_ne, bne_eq_false_iff_eq, Bool.not_eq_true', Bool.not_eq_false', Bool.not_eq_eq_eq_not, Bool.not_true, Bool.not_false, gt_iff_lt, ge_iff_le, Int.not_lt, Int.not_le] at h8)
          refine wl_yes rfl rfl ?_
          refine wl_val (r_move rfl) (ltn rfl) ?_
          refine wl_yes rfl rfl ?_
          refine wl_val (r_move rfl) (ltn rfl) ?_
          refine wl_yes rfl rfl ?_
          obtain ⟨bv, ov, cv, ev⟩ := RdI.posV (hv _ (H20m.right.right.right.right.right.right)) (by omega)
          cases ev
          refine wl_val (r_index Try.underlying22 Try.sizeOf21 rfl rfl (by omega)) (ltn rfl) ?_
          refine wl_yes rfl rfl ?_
          refine wl_val (r_load (plain_of Try.underlying21 rfl) rfl (by first | exact RdI.at1n (hv _ (H20m.right.right.right.right.right.right)) (by omega) | exact RdI.at0 (hv _ (H20m.right.right.right.right.right.right)) (by omega) | exact RdI.at1 (hv _ (H20m.right.right.right.right.right.right)) (by omega))) (ltn rfl) ?_
          refine wl_yes rfl rfl ?_
          refine wl_val (r_neq rfl rfl) (ltn rfl) ?_
          refine wl_val (r_pick_f rfl rfl) (ltn rfl) ?_
          refine wl_split rfl (ltn rfl) (fun h9 => ?_) (fun h9 => ?_)
          · (try simp only [beq_iff_eq, bne_iff_ne, ne_eq, decide_eq_true_eq, decide_eq_false_iff_not, beq_eq_false_iff_ne, bne_eq_false_iff_eq, Bool.not_eq_true', Bool.not_eq_false', Bool.not_eq_eq_eq_not, Bool.not_true, Bool.not_false, gt_iff_lt, ge_iff_le, Int.not_lt, Int.not_le] at h9)
            refine wl_no rfl rfl rfl (ltn rfl) ?_
            refine wl_no rfl rfl rfl (ltn rfl) ?_
            refine wl_no rfl rfl rfl (ltn rfl) ?_
            refine wl_no rfl rfl rfl (ltn rfl) ?_
            refine wl_val (r_pick_t rfl rfl) (ltn rfl) ?_
            refine wl_nil ?_
            refine wq_seq ?_
            refine wc_cond_t rfl ?_
            refine wc_seq ?_
            refine wc_region ?_
            refine wl_eff0 (e_storeL 0 (l' := [_]) H20m.f6 Try.sizeOf4 rfl rfl (by first | rfl | assumption) rfl rfl) ?_
            rintro _ w25 H25
            refine wl_nil ?_
            refine wq_seq ?_
            refine wc_ret ?_
            refine wq_then_ret ?_
            refine wq_endM (.inl rfl) (H25.f2) (fun w26 H26 => ?_)
            refine ⟨_, resC1 Try.results4 rfl (plain_of Try.underlying4 rfl) (cell_of_blk (H26).get.2 rfl), ?_⟩
            exact ⟨rfl, H26.base⟩
          · (try simp only [beq_iff_eq, bne_iff_ne, ne_eq, decide_eq_true_eq, decide_eq_false_iff_not, beq_eq_false_iff_ne, bne_eq_false_iff_eq, Bool.not_eq_true', Bool.not_eq_false', Bool.not_eq_eq_eq_not, Bool.not_true, Bool.not_false, gt_iff_lt, ge_iff_le, Int.not_lt, Int.not_le] at h9)
            refine wl_yes rfl rfl ?_
            refine wl_val (r_move rfl) (ltn rfl) ?_
            refine wl_yes rfl rfl ?_
            refine wl_val (r_move rfl) (ltn rfl) ?_
            refine wl_yes rfl rfl ?_
            refine wl_eff (e_call (r_call rfl Try.func10 rfl rfl) (sh_quoted_ret H20m (fun W HW => hv _ (HW.right.right.right.right.right.right)) (by assumption) (by omega))) (ltn rfl) ?_
            rintro _ w27 ⟨rfl, H27⟩
            refine wl_yes rfl rfl ?_
            refine wl_val (r_neq rfl rfl) (ltn rfl) ?_
            refine wl_val (r_pick_f rfl rfl) (ltn rfl) ?_
            refine wl_nil ?_
            refine wq_seq ?_
            refine wc_cond rfl (fun h10 => ?_) (fun h10 => ?_)
            · (try simp only [beq_iff_eq, bne_iff_ne, ne_eq, decide_eq_true_eq, decide_eq_false_iff_not, beq_eq_false_iff_ne, bne_eq_false_iff_eq, Bool.not_eq_true', Bool.not_eq_false', Bool.not_eq_eq_eq_not, Bool.not_true, Bool.not_false, gt_iff_lt, ge_iff_le, Int.not_lt, Int.not_le] at h10)
              
              refine wc_seq ?_
              refine wc_region ?_
              refine wl_eff0 (e_storeL 0 (l' := [_]) H27.f6 Try.sizeOf4 rfl rfl (by first | rfl | assumption) rfl rfl) ?_
              rintro _ w28 H28
              refine wl_nil ?_
              refine wq_seq ?_
              refine wc_ret ?_
              refine wq_then_ret ?_
              refine wq_endM (.inl rfl) (H28.f2) (fun w29 H29 => ?_)
              refine ⟨_, resC1 Try.results4 rfl (plain_of Try.underlying4 rfl) (cell_of_blk (H29).get.2 rfl), ?_⟩
              exact ⟨rfl, H29.base⟩
            · (try simp only [beq_iff_eq, bne_iff_ne, ne_eq, decide_eq_true_eq, decide_eq_false_iff_not, beq_eq_false_iff_ne, bne_eq_false_iff_eq, Bool.not_eq_true', Bool.not_eq_false', Bool.not_eq_eq_eq_not, Bool.not_true, Bool.not_false, gt_iff_lt, ge_iff_le, Int.not_lt, Int.not_le] at h10)
              
              refine wc_skip ?_
              refine wq_seq ?_
              refine wc_seq ?_
              have h32 : l.getD c.toNat 0 = 32 := by omega
              have hqs : quoS l c.toNat = 0 := quoted_zero (by omega) (by omega)
              have hcut := words_cut (l := l) (c := c.toNat) (by omega) h32 hqs
              have hctl : (l.take c.toNat).length ≤ 1073741824 := by rw [List.length_take]; omega
              have hcr : Rn32 (l.take c.toNat) := fun x hx => hl x (List.mem_of_mem_take hx)
              refine wc_region ?_
              refine wl_val (r_move rfl) (ltn rfl) ?_
              refine wl_eff (e_call (r_call rfl Try.func9 rfl rfl) (sh_words_ret H27 (fun W HW => hv _ (HW.right.right.right.right.right.right)) (by assumption) (by omega))) (ltn rfl) ?_
              rintro u30 w30 H30
              refine wl_val (r_assign rfl) (ltn rfl) ?_
              refine wl_nil ?_
              refine wq_seq ?_
              refine wc_seq ?_
              refine wc_region ?_
              refine wl_val (r_move rfl) (ltn rfl) ?_
              refine wl_val (r_move rfl) (ltn rfl) ?_
              refine wl_val (r_sliceS (hv _ (H30.right.right.right.right.right.right.right)) Try.underlying22 Try.sizeOf21 rfl rfl rfl (by omega)) (ltn rfl) ?_
              refine wl_eff (e_call (r_call rfl Try.func9 rfl rfl) (sh_words_ret H30 (fun W HW => RdI.upto (hv _ (HW.right.right.right.right.right.right.right)) (by omega)) (by assumption) (by omega))) (ltn rfl) ?_
              rintro u31 w31 H31
              refine wl_val (r_assign rfl) (ltn rfl) ?_
              refine wl_nil ?_
              refine wq_seq ?_
              refine wc_seq ?_
              refine wc_region ?_
              refine wl_val (r_move rfl) (ltn rfl) ?_
              refine wl_val (r_lenS ((H31).row_rd) Try.underlying24 rfl) (ltn rfl) ?_
              refine wl_val (r_move rfl) (ltn rfl) ?_
              refine wl_val (r_lenS ((H31.f2).row_rd) Try.underlying24 rfl) (ltn rfl) ?_
              refine wl_val (r_leq rfl rfl) (ltn rfl) ?_
              refine wl_split rfl (ltn rfl) (fun h11 => ?_) (fun h => by exfalso; (try simp only [beq_iff_eq, bne_iff_ne, ne_eq, decide_eq_true_eq, decide_eq_false_iff_not, beq_eq_false_iff_ne, bne_eq_false_iff_eq, Bool.not_eq_true', Bool.not_eq_false', Bool.not_eq_eq_eq_not, Bool.not_true, Bool.not_false, gt_iff_lt, ge_iff_le, Int.not_lt, Int.not_le] at h); have := hcut.1; omega)
              (try simp only [beq_iff_eq, bne_iff_ne, ne_eq, decide_eq_true_eq, decide_eq_false_iff_not, beq_eq_false_iff_ne, bne_eq_false_iff_eq, Bool.not_eq_true', Bool.not_eq_false', Bool.not_eq_eq_eq_not, Bool.not_true, Bool.not_false, gt_iff_lt, ge_iff_le, Int.not_lt, Int.not_le] at h11)
              refine wl_yes rfl rfl ?_
              refine wl_val (r_move rfl) (ltn rfl) ?_
              refine wl_yes rfl rfl ?_
              refine wl_val (r_move rfl) (ltn rfl) ?_
              refine wl_yes rfl rfl ?_
              refine wl_val (r_move rfl) (ltn rfl) ?_
              refine wl_yes rfl rfl ?_
              refine wl_val (r_lenS ((H31).row_rd) Try.underlying24 rfl) (ltn rfl) ?_
              refine wl_yes rfl rfl ?_
              refine wl_val (r_sliceS ((H31.f2).row_rd) Try.underlying24 Try.sizeOf27 rfl rfl rfl (by omega)) (ltn rfl) ?_
              refine wl_yes rfl rfl ?_
              refine wl_eff (e_call (r_call rfl Try.func15 rfl rfl) (same_any (ws := wordsS (l.take c.toNat)) (vs := (wordsS l).take (wordsS (l.take c.toNat)).length) H31 (fun W HW => (HW).row_rd) (fun W HW => rd_take ((fun W HW => (HW.f2).row_rd) W HW) hcut.1))) (ltn rfl) ?_
              rintro _ w32 ⟨rfl, H32⟩
              rw [hcut.2.1]
              refine wl_val (r_pick_t rfl rfl) (ltn rfl) ?_
              refine wl_split rfl (ltn rfl) (fun h12 => ?_) (fun h => by exfalso; (try simp only [beq_iff_eq, bne_iff_ne, ne_eq, decide_eq_true_eq, decide_eq_false_iff_not, beq_eq_false_iff_ne, bne_eq_false_iff_eq, Bool.not_eq_true', Bool.not_eq_false', Bool.not_eq_eq_eq_not, Bool.not_true, Bool.not_false, gt_iff_lt, ge_iff_le, Int.not_lt, Int.not_le] at h); simp at h)
              (try simp only [beq_iff_eq, bne_iff_ne, ne_eq, decide_eq_true_eq, decide_eq_false_iff_not, beq_eq_false_iff_ne, bne_eq_false_iff_eq, Bool.not_eq_true', Bool.not_eq_false', Bool.not_eq_eq_eq_not, Bool.not_true, Bool.not_false, gt_iff_lt, ge_iff_le, Int.not_lt, Int.not_le] at h12)
              refine wl_yes rfl rfl ?_
              refine wl_val (r_move rfl) (ltn rfl) ?_
              refine wl_yes rfl rfl ?_
              refine wl_val (r_lenS ((H32).row_rd) Try.underlying24 rfl) (ltn rfl) ?_
              refine wl_yes rfl rfl ?_
              refine wl_val (r_move rfl) (ltn rfl) ?_
              refine wl_yes rfl rfl ?_
              refine wl_val (r_lenS ((H32.f2).row_rd) Try.underlying24 rfl) (ltn rfl) ?_
              refine wl_yes rfl rfl ?_
              refine wl_val (r_eql rfl rfl) (ltn rfl) ?_
              refine wl_yes rfl rfl ?_
              refine wl_split rfl (ltn rfl) (fun h13 => ?_) (fun h13 => ?_)
              · (try simp only [beq_iff_eq, bne_iff_ne, ne_eq, decide_eq_true_eq, decide_eq_false_iff_not, beq_eq_false_iff_ne, bne_eq_false_iff_eq, Bool.not_eq_true', Bool.not_eq_false', Bool.not_eq_eq_eq_not, Bool.not_true, Bool.not_false, gt_iff_lt, ge_iff_le, Int.not_lt, Int.not_le] at h13)
                refine wl_no rfl rfl rfl (ltn rfl) ?_
                refine wl_no rfl rfl rfl (ltn rfl) ?_
                refine wl_no rfl rfl rfl (ltn rfl) ?_
                refine wl_no rfl rfl rfl (ltn rfl) ?_
                refine wl_no rfl rfl rfl (ltn rfl) ?_
                refine wl_no rfl rfl rfl (ltn rfl) ?_
                refine wl_no rfl rfl rfl (ltn rfl) ?_
                refine wl_no rfl rfl rfl (ltn rfl) ?_
                refine wl_yes rfl rfl ?_
                refine wl_val (r_pick_t rfl rfl) (ltn rfl) ?_
                refine wl_val (r_pick_t rfl rfl) (ltn rfl) ?_
                refine wl_eff0 (e_storeL 0 (l' := [_]) H32.f8 Try.sizeOf4 rfl rfl (by first | rfl | assumption) rfl rfl) ?_
                rintro _ w33 H33
                refine wl_nil ?_
                refine wq_seq ?_
                refine wc_ret ?_
                refine wq_endM (.inl rfl) (H33.f4) (fun w34 H34 => ?_)
                refine ⟨_, resC1 Try.results4 rfl (plain_of Try.underlying4 rfl) (cell_of_blk (H34).get.2 rfl), ?_⟩
                exact ⟨rfl, H34.base⟩
              · (try simp only [beq_iff_eq, bne_iff_ne, ne_eq, decide_eq_true_eq, decide_eq_false_iff_not, beq_eq_false_iff_ne, bne_eq_false_iff_eq, Bool.not_eq_true', Bool.not_eq_false', Bool.not_eq_eq_eq_not, Bool.not_true, Bool.not_false, gt_iff_lt, ge_iff_le, Int.not_lt, Int.not_le] at h13)
                refine wl_yes rfl rfl ?_
                refine wl_val (r_move rfl) (ltn rfl) ?_
                refine wl_yes rfl rfl ?_
                refine wl_val (r_move rfl) (ltn rfl) ?_
                refine wl_yes rfl rfl ?_
                refine wl_val (r_lenS ((H32).row_rd) Try.underlying24 rfl) (ltn rfl) ?_
                refine wl_yes rfl rfl ?_
                obtain ⟨bu30, ou30, cu30, eu30⟩ := Rd.posV ((H32.f2).row_rd) (by omega)
                cases eu30
                refine wl_val (r_index Try.underlying24 Try.sizeOf27 rfl rfl (by omega)) (ltn rfl) ?_
                refine wl_yes rfl rfl ?_
                refine wl_val ((by first | exact r_field0 1 Try.underlying27 rfl rfl Try.sizeOf3 (by decide) rfl | exact r_field 1 Try.underlying27 rfl rfl Try.sizeOf3 (by decide) rfl)) (ltn rfl) ?_
                refine wl_yes rfl rfl ?_
                refine wl_val (r_as (r_load (plain_of Try.underlying3 rfl) rfl (Rd.atS ((H32.f2).row_rd) (by omega) (by decide))) (wd_from (by omega))) (ltn rfl) ?_
                refine wl_yes rfl rfl ?_
                refine wl_val (r_move rfl) (ltn rfl) ?_
                refine wl_yes rfl rfl ?_
                refine wl_val (r_known_t (r_gtr rfl rfl) (by rcases hcut.2.2 with q | q; omega; rw [decide_eq_true_eq]; omega)) (ltn rfl) ?_
                refine wl_yes rfl rfl ?_
                refine wl_val (r_pick_f rfl rfl) (ltn rfl) ?_
                refine wl_val (r_pick_t rfl rfl) (ltn rfl) ?_
                refine wl_eff0 (e_storeL 0 (l' := [_]) H32.f8 Try.sizeOf4 rfl rfl (by first | rfl | assumption) rfl rfl) ?_
                rintro _ w35 H35
                refine wl_nil ?_
                refine wq_seq ?_
                refine wc_ret ?_
                refine wq_endM (.inl rfl) (H35.f4) (fun w36 H36 => ?_)
                refine ⟨_, resC1 Try.results4 rfl (plain_of Try.underlying4 rfl) (cell_of_blk (H36).get.2 rfl), ?_⟩
                exact ⟨rfl, H36.base⟩
    · rintro D w H; exact absurd H.swap.fact.1 id
    · rintro id D w H; exact absurd H.swap.fact.1 fun h => h
end Go.Proofs.Ytgoopiakpbcgoaa
