/- Where words begin and end, forward and backward. -/
import Derived.Test.YtlldaaamdchkdaaDoorTab
set_option linter.unusedSimpArgs false
set_option linter.unusedVariables false
namespace Go.Proofs.YtlldaaamdchkdaaDoor
open Go.RowKit

/-- As long as it holds, forward; backward. -/
def overM (g : Int → Bool) (l : List Int) (at_ : Nat) : Nat := at_ + ((l.drop at_).takeWhile g).length
def backM (g : Int → Bool) (l : List Int) (at_ : Nat) : Nat := at_ - ((l.take at_).reverse.takeWhile g).length
theorem tw_len {g : Int → Bool} : ∀ {l : List Int} {n : Nat}, n ≤ l.length → (∀ j, j < n → g (l.getD j 0) = true) → (n = l.length ∨ g (l.getD n 0) = false) → (l.takeWhile g).length = n
  | [], n, h, _, _ => by simp at h; simp [h]
  | x :: l, 0, _, _, h => by
    rcases h with h | h
    · simp at h
    · simp at h; simp [List.takeWhile, h]
  | x :: l, n + 1, h, k, h2 => by
    have h0 := k 0 (by omega)
    simp at h0
    have ih := tw_len (l := l) (n := n) (by simpa using h) (fun j hj => by simpa using k (j + 1) (by omega)) (by simpa using h2)
    simp [List.takeWhile, h0, ih]
theorem over_eq {g : Int → Bool} {l : List Int} {i k : Nat} (h1 : i ≤ k) (h2 : k ≤ l.length) (h3 : ∀ j, i ≤ j → j < k → g (l.getD j 0) = true) (h4 : k = l.length ∨ g (l.getD k 0) = false) : overM g l i = k := by
  have := tw_len (g := g) (l := l.drop i) (n := k - i) (by simp; omega) (fun j hj => by
    have := h3 (i + j) (by omega) (by omega)
    simpa [List.getD_eq_getElem?_getD] using this) (by
      rcases h4 with h4 | h4
      · exact .inl (by simp; omega)
      · right
        simpa [List.getD_eq_getElem?_getD, show i + (k - i) = k from by omega] using h4)
  unfold overM
  omega
theorem back_eq {g : Int → Bool} {l : List Int} {i k : Nat} (h1 : k ≤ i) (h2 : i ≤ l.length) (h3 : ∀ j, k ≤ j → j < i → g (l.getD j 0) = true) (h4 : k = 0 ∨ g (l.getD (k - 1) 0) = false) : backM g l i = k := by
  have e : ∀ j, j < i → (l.take i).reverse.getD j 0 = l.getD (i - 1 - j) 0 := by
    intro j hj
    rw [List.getD_eq_getElem?_getD, List.getElem?_reverse (by simp; omega), List.length_take, Nat.min_eq_left h2, List.getElem?_take_of_lt (by omega), ← List.getD_eq_getElem?_getD]
  have := tw_len (g := g) (l := (l.take i).reverse) (n := i - k) (by simp; omega) (fun j hj => by
    rw [e j (by omega)]; exact h3 _ (by omega) (by omega)) (by
      rcases h4 with h4 | h4
      · exact .inl (by simp; omega)
      · by_cases hk : k = 0
        · exact .inl (by simp; omega)
        · right
          rw [e _ (by omega), show i - 1 - (i - k) = k - 1 from by omega]; exact h4)
  unfold backM
  omega
theorem over_bd (g : Int → Bool) (l : List Int) {i : Nat} (h : i ≤ l.length) : i ≤ overM g l i ∧ overM g l i ≤ l.length := by
  have := (List.takeWhile_sublist g (l := l.drop i)).length_le
  simp at this
  unfold overM; omega
theorem back_bd (g : Int → Bool) (l : List Int) (i : Nat) : backM g l i ≤ i := by unfold backM; omega
/-- A place of the line. -/
def withinM (n : Nat) (x : Int) : Nat := (min (max x 0) n).toNat
theorem withinM_le (n : Nat) (x : Int) : withinM n x ≤ n := by unfold withinM; omega

section
variable {w0 w : World} {F G : HP} {v fv : Value} {l : List Int} {g : Int → Bool}
theorem within_ret {x : Int} {a : Option Addr} {c : Nat} : Ret Tryd.prog 59 #[.slice a l.length c, .int .i64 x] w fun v' w' => v' = .int .i64 (withinM l.length x) ∧ w = w' := by
  refine ret_enter Tryd.func59 rfl Tryd.ntmps59 (Nat.le_of_ble_eq_true rfl) ?_
  dsimp only [slots0, Nat.reduceAdd]
  refine wc_seq ?_
  refine wc_region ?_
  refine wl_val (r_assign rfl) (ltn rfl) ?_
  refine wl_nil ?_
  refine wq_seq ?_
  refine wc_seq ?_
  refine wc_region ?_
  refine wl_val (r_move rfl) (ltn rfl) ?_
  refine wl_val (r_max rfl rfl) (ltn rfl) ?_
  refine wl_val (r_move rfl) (ltn rfl) ?_
  refine wl_val (r_len Tryd.underlying22 rfl) (ltn rfl) ?_
  refine wl_val (r_min rfl rfl) (ltn rfl) ?_
  refine wl_val (r_assign rfl) (ltn rfl) ?_
  refine wl_nil ?_
  refine wq_seq ?_
  refine wc_ret ?_
  refine wq_end1 (.inl rfl) Tryd.results59 rfl ?_
  exact ⟨by congr 1; unfold withinM; omega, rfl⟩
theorem over_ret {i : Nat} (H : Holds w0 w (G • F)) (hf : Tells Tryd.prog w0 F fv g) (hr : FRdI w0 (G • F) .i32 v l) (hi : i ≤ l.length) :
    Ret Tryd.prog 62 #[v, .int .i64 i, fv] w fun v' w' => v' = .int .i64 (overM g l i) ∧ Holds w0 w' (G • F) := by
  obtain ⟨a, c, rfl, hac, hac2, _⟩ := (hr w H).open
  refine ret_enter Tryd.func62 rfl Tryd.ntmps62 (Nat.le_of_ble_eq_true rfl) ?_
  dsimp only [slots0, Nat.reduceAdd]
  refine wc_seq ?_
  refine wc_region ?_
  refine wl_val (r_assign rfl) (ltn rfl) ?_
  refine wl_nil ?_
  refine wq_seq ?_
  refine wc_seq ?_
  refine wc_block ?_
  refine wc_loop [(0, _), (2, _)] (fun (k : Nat) => [(1, .int .i64 (k : Int))]) (fun (k : Nat) W => i ≤ k ∧ k ≤ l.length ∧ (∀ j, i ≤ j → j < k → g (l.getD j 0) = true) ∧ Holds w0 W (G • F)) (fun (k : Nat) => l.length - k) (i) (Sub.cons rfl (Sub.cons rfl (Sub.nil _))) (Sub.cons rfl (Sub.nil _)) ⟨by omega, by omega, fun j h1 h2 => absurd h1 (by omega), H⟩ ?_
  rintro k w1 ⟨hk1, hk2, hk3, HL⟩
  dsimp only [List.cons_append, List.nil_append]
  refine wc_seq ?_
  refine wc_seq ?_
  refine wc_region ?_
  refine wl_val (r_move rfl) (ltn rfl) ?_
  refine wl_val (r_move rfl) (ltn rfl) ?_
  refine wl_val (r_len Tryd.underlying22 rfl) (ltn rfl) ?_
  refine wl_val (r_lss rfl rfl) (ltn rfl) ?_
  refine wl_split rfl (ltn rfl) (fun h1 => ?_) (fun h1 => ?_)
  · (try simp only [beq_iff_eq, bne_iff_ne, ne_eq, decide_eq_true_eq, decide_eq_false_iff_not, beq_eq_false_iff_ne, bne_eq_false_iff_eq, Bool.not_eq_true', Bool.not_eq_false', Bool.not_eq_eq_eq_not, Bool.not_true, Bool.not_false, gt_iff_lt, ge_iff_le, Int.not_lt, Int.not_le] at h1)
    try (exfalso; first | contradiction | omega)
    all_goals
      obtain ⟨a', c', hsl, _, _, hcell⟩ := (hr _ HL).open
      cases hsl
      obtain ⟨b, o, rfl, hq⟩ := hcell (by omega)
      have hqk := hq k (by omega)
      refine wl_yes rfl rfl ?_
      refine wl_val (r_move rfl) (ltn rfl) ?_
      refine wl_yes rfl rfl ?_
      refine wl_val (r_move rfl) (ltn rfl) ?_
      refine wl_yes rfl rfl ?_
      refine wl_val (r_move rfl) (ltn rfl) ?_
      refine wl_yes rfl rfl ?_
      refine wl_val (r_index Tryd.underlying22 Tryd.sizeOf21 rfl rfl (by omega)) (ltn rfl) ?_
      refine wl_yes rfl rfl ?_
      refine wl_val (r_load (plain_of Tryd.underlying21 rfl) rfl (by rw [show (k : Int).toNat * 1 = k from by omega]; exact hqk)) (ltn rfl) ?_
      refine wl_yes rfl rfl ?_
      refine wl_eff (e_call_fn rfl rfl ((hf.2 _ _ HL _))) (ltn rfl) ?_
      rintro _ w2 ⟨rfl, H2⟩
      have HN := H2
      refine wl_val (r_pick_t rfl rfl) (ltn rfl) ?_
      refine wl_nil ?_
      refine wq_seq ?_
      refine wc_cond rfl (fun h2 => ?_) (fun h2 => ?_)
      · (try simp only [beq_iff_eq, bne_iff_ne, ne_eq, decide_eq_true_eq, decide_eq_false_iff_not, beq_eq_false_iff_ne, bne_eq_false_iff_eq, Bool.not_eq_true', Bool.not_eq_false', Bool.not_eq_eq_eq_not, Bool.not_true, Bool.not_false, gt_iff_lt, ge_iff_le, Int.not_lt, Int.not_le] at h2)
        try (exfalso; first | contradiction | omega)
        all_goals
          
          refine wc_skip ?_
          refine wq_seq ?_
          refine wc_block ?_
          refine wc_region ?_
          refine wl_val (r_move rfl) (ltn rfl) ?_
          refine wl_val (r_add rfl rfl (by omega)) (ltn rfl) ?_
          refine wl_val (r_assign rfl) (ltn rfl) ?_
          refine wl_nil ?_
          refine wq_block_normal ?_
          refine wq_round (k + 1) ?_ ?_ ?_ ?_
          · exact (Sub.cons rfl (Sub.nil _))
          · exact (Sub.cons rfl (Sub.cons rfl (Sub.nil _)))
          · (try dsimp only)
            exact ⟨by omega, by omega, fun j h4 h5 => by by_cases e : j = k; (subst e; assumption); exact hk3 j h4 (by omega), HN⟩
          · (try dsimp only); omega
      · (try simp only [beq_iff_eq, bne_iff_ne, ne_eq, decide_eq_true_eq, decide_eq_false_iff_not, beq_eq_false_iff_ne, bne_eq_false_iff_eq, Bool.not_eq_true', Bool.not_eq_false', Bool.not_eq_eq_eq_not, Bool.not_true, Bool.not_false, gt_iff_lt, ge_iff_le, Int.not_lt, Int.not_le] at h2)
        try (exfalso; first | contradiction | omega)
        all_goals
          
          refine wc_exit ?_
          refine wq_then_exit ?_
          refine wq_then_exit ?_
          refine wq_block_hit ?_
          refine wq_seq ?_
          refine wc_seq ?_
          refine wc_region ?_
          refine wl_val (r_move rfl) (ltn rfl) ?_
          refine wl_val (r_assign rfl) (ltn rfl) ?_
          refine wl_nil ?_
          refine wq_seq ?_
          refine wc_ret ?_
          refine wq_end1 (.inl rfl) Tryd.results62 rfl ?_
          exact ⟨by rw [over_eq hk1 hk2 hk3 (by first | (left; omega) | (right; assumption))], H2⟩
  · (try simp only [beq_iff_eq, bne_iff_ne, ne_eq, decide_eq_true_eq, decide_eq_false_iff_not, beq_eq_false_iff_ne, bne_eq_false_iff_eq, Bool.not_eq_true', Bool.not_eq_false', Bool.not_eq_eq_eq_not, Bool.not_true, Bool.not_false, gt_iff_lt, ge_iff_le, Int.not_lt, Int.not_le] at h1)
    try (exfalso; first | contradiction | omega)
    all_goals
      refine wl_no rfl rfl rfl (ltn rfl) ?_
      refine wl_no rfl rfl rfl (ltn rfl) ?_
      refine wl_no rfl rfl rfl (ltn rfl) ?_
      refine wl_no rfl rfl rfl (ltn rfl) ?_
      refine wl_no rfl rfl rfl (ltn rfl) ?_
      refine wl_no rfl rfl rfl (ltn rfl) ?_
      refine wl_val (r_pick_f rfl rfl) (ltn rfl) ?_
      refine wl_nil ?_
      refine wq_seq ?_
      refine wc_cond_f rfl ?_
      refine wc_exit ?_
      refine wq_then_exit ?_
      refine wq_then_exit ?_
      refine wq_block_hit ?_
      refine wq_seq ?_
      refine wc_seq ?_
      refine wc_region ?_
      refine wl_val (r_move rfl) (ltn rfl) ?_
      refine wl_val (r_assign rfl) (ltn rfl) ?_
      refine wl_nil ?_
      refine wq_seq ?_
      refine wc_ret ?_
      refine wq_end1 (.inl rfl) Tryd.results62 rfl ?_
      exact ⟨by rw [over_eq hk1 hk2 hk3 (by first | (left; omega) | (right; assumption))], HL⟩
theorem back_ret {i : Nat} (H : Holds w0 w (G • F)) (hf : Tells Tryd.prog w0 F fv g) (hr : FRdI w0 (G • F) .i32 v l) (hi : i ≤ l.length) :
    Ret Tryd.prog 58 #[v, .int .i64 i, fv] w fun v' w' => v' = .int .i64 (backM g l i) ∧ Holds w0 w' (G • F) := by
  obtain ⟨a, c, rfl, hac, hac2, _⟩ := (hr w H).open
  refine ret_enter Tryd.func58 rfl Tryd.ntmps58 (Nat.le_of_ble_eq_true rfl) ?_
  dsimp only [slots0, Nat.reduceAdd]
  refine wc_seq ?_
  refine wc_region ?_
  refine wl_val (r_assign rfl) (ltn rfl) ?_
  refine wl_nil ?_
  refine wq_seq ?_
  refine wc_seq ?_
  refine wc_block ?_
  refine wc_loop [(0, _), (2, _)] (fun (k : Nat) => [(1, .int .i64 (k : Int))]) (fun (k : Nat) W => k ≤ i ∧ (∀ j, k ≤ j → j < i → g (l.getD j 0) = true) ∧ Holds w0 W (G • F)) (fun (k : Nat) => k) (i) (Sub.cons rfl (Sub.cons rfl (Sub.nil _))) (Sub.cons rfl (Sub.nil _)) ⟨by omega, fun j h1 h2 => absurd h1 (by omega), H⟩ ?_
  rintro k w1 ⟨hk1, hk3, HL⟩
  dsimp only [List.cons_append, List.nil_append]
  refine wc_seq ?_
  refine wc_seq ?_
  refine wc_region ?_
  refine wl_val (r_move rfl) (ltn rfl) ?_
  refine wl_val (r_gtr rfl rfl) (ltn rfl) ?_
  refine wl_split rfl (ltn rfl) (fun h1 => ?_) (fun h1 => ?_)
  · (try simp only [beq_iff_eq, bne_iff_ne, ne_eq, decide_eq_true_eq, decide_eq_false_iff_not, beq_eq_false_iff_ne, bne_eq_false_iff_eq, Bool.not_eq_true', Bool.not_eq_false', Bool.not_eq_eq_eq_not, Bool.not_true, Bool.not_false, gt_iff_lt, ge_iff_le, Int.not_lt, Int.not_le] at h1)
    try (exfalso; first | contradiction | omega)
    all_goals
      obtain ⟨a', c', hsl, _, _, hcell⟩ := (hr _ HL).open
      cases hsl
      obtain ⟨b, o, rfl, hq⟩ := hcell (by omega)
      have hqk := hq (k - 1) (by omega)
      refine wl_yes rfl rfl ?_
      refine wl_val (r_move rfl) (ltn rfl) ?_
      refine wl_yes rfl rfl ?_
      refine wl_val (r_move rfl) (ltn rfl) ?_
      refine wl_yes rfl rfl ?_
      refine wl_val (r_move rfl) (ltn rfl) ?_
      refine wl_yes rfl rfl ?_
      refine wl_val (r_sub rfl rfl (by omega)) (ltn rfl) ?_
      refine wl_yes rfl rfl ?_
      refine wl_val (r_index Tryd.underlying22 Tryd.sizeOf21 rfl rfl (by omega)) (ltn rfl) ?_
      refine wl_yes rfl rfl ?_
      refine wl_val (r_load (plain_of Tryd.underlying21 rfl) rfl (by rw [show ((k : Int) - 1).toNat * 1 = k - 1 from by omega]; exact hqk)) (ltn rfl) ?_
      refine wl_yes rfl rfl ?_
      refine wl_eff (e_call_fn rfl rfl ((hf.2 _ _ HL _))) (ltn rfl) ?_
      rintro _ w2 ⟨rfl, H2⟩
      have HN := H2
      refine wl_val (r_pick_t rfl rfl) (ltn rfl) ?_
      refine wl_nil ?_
      refine wq_seq ?_
      refine wc_cond rfl (fun h2 => ?_) (fun h2 => ?_)
      · (try simp only [beq_iff_eq, bne_iff_ne, ne_eq, decide_eq_true_eq, decide_eq_false_iff_not, beq_eq_false_iff_ne, bne_eq_false_iff_eq, Bool.not_eq_true', Bool.not_eq_false', Bool.not_eq_eq_eq_not, Bool.not_true, Bool.not_false, gt_iff_lt, ge_iff_le, Int.not_lt, Int.not_le] at h2)
        try (exfalso; first | contradiction | omega)
        all_goals
          
          refine wc_skip ?_
          refine wq_seq ?_
          refine wc_block ?_
          refine wc_region ?_
          refine wl_val (r_move rfl) (ltn rfl) ?_
          refine wl_val (r_sub rfl rfl (by omega)) (ltn rfl) ?_
          refine wl_val (r_assign rfl) (ltn rfl) ?_
          refine wl_nil ?_
          refine wq_block_normal ?_
          refine wq_round (k - 1) ?_ ?_ ?_ ?_
          · exact (Sub.cons' rfl (by rw [show ((k - 1 : Nat) : Int) = (k : Int) - 1 from by omega]) (Sub.nil _))
          · exact (Sub.cons rfl (Sub.cons rfl (Sub.nil _)))
          · (try dsimp only)
            exact ⟨by omega, fun j h4 h5 => by by_cases e : j = k - 1; (subst e; assumption); exact hk3 j (by omega) h5, HN⟩
          · (try dsimp only); omega
      · (try simp only [beq_iff_eq, bne_iff_ne, ne_eq, decide_eq_true_eq, decide_eq_false_iff_not, beq_eq_false_iff_ne, bne_eq_false_iff_eq, Bool.not_eq_true', Bool.not_eq_false', Bool.not_eq_eq_eq_not, Bool.not_true, Bool.not_false, gt_iff_lt, ge_iff_le, Int.not_lt, Int.not_le] at h2)
        try (exfalso; first | contradiction | omega)
        all_goals
          
          refine wc_exit ?_
          refine wq_then_exit ?_
          refine wq_then_exit ?_
          refine wq_block_hit ?_
          refine wq_seq ?_
          refine wc_seq ?_
          refine wc_region ?_
          refine wl_val (r_move rfl) (ltn rfl) ?_
          refine wl_val (r_assign rfl) (ltn rfl) ?_
          refine wl_nil ?_
          refine wq_seq ?_
          refine wc_ret ?_
          refine wq_end1 (.inl rfl) Tryd.results58 rfl ?_
          exact ⟨by rw [back_eq hk1 hi hk3 (by first | (left; omega) | (right; assumption))], H2⟩
  · (try simp only [beq_iff_eq, bne_iff_ne, ne_eq, decide_eq_true_eq, decide_eq_false_iff_not, beq_eq_false_iff_ne, bne_eq_false_iff_eq, Bool.not_eq_true', Bool.not_eq_false', Bool.not_eq_eq_eq_not, Bool.not_true, Bool.not_false, gt_iff_lt, ge_iff_le, Int.not_lt, Int.not_le] at h1)
    try (exfalso; first | contradiction | omega)
    all_goals
      refine wl_no rfl rfl rfl (ltn rfl) ?_
      refine wl_no rfl rfl rfl (ltn rfl) ?_
      refine wl_no rfl rfl rfl (ltn rfl) ?_
      refine wl_no rfl rfl rfl (ltn rfl) ?_
      refine wl_no rfl rfl rfl (ltn rfl) ?_
      refine wl_no rfl rfl rfl (ltn rfl) ?_
      refine wl_no rfl rfl rfl (ltn rfl) ?_
      refine wl_val (r_pick_f rfl rfl) (ltn rfl) ?_
      refine wl_nil ?_
      refine wq_seq ?_
      refine wc_cond_f rfl ?_
      refine wc_exit ?_
      refine wq_then_exit ?_
      refine wq_then_exit ?_
      refine wq_block_hit ?_
      refine wq_seq ?_
      refine wc_seq ?_
      refine wc_region ?_
      refine wl_val (r_move rfl) (ltn rfl) ?_
      refine wl_val (r_assign rfl) (ltn rfl) ?_
      refine wl_nil ?_
      refine wq_seq ?_
      refine wc_ret ?_
      refine wq_end1 (.inl rfl) Tryd.results58 rfl ?_
      exact ⟨by rw [back_eq hk1 hi hk3 (by first | (left; omega) | (right; assumption))], HL⟩

theorem tells_letter (hT : Tabs w0) : Tells Tryd.prog w0 F (.func (.func 61) #[] #[]) letterM :=
  ⟨rfl, fun G W HW r => ⟨61, [], [], _, _, rfl, Tryd.func61, rfl, rfl, letter_ret HW hT⟩⟩
theorem cells_one {v : Value} (h : v.oneCell' = true) : v.cells = #[v] := by cases v <;> simp_all [Value.cells, Value.oneCell']
theorem not1_ret {b : Nat} {r : Int} (H : Holds w0 w (G • blk b (.cells #[fv] 77 (0, 0)) • F)) (hf : Tells Tryd.prog w0 F fv g) :
    Ret Tryd.prog 73 #[.int .i32 r, .pointer (some ⟨b, 0, none⟩)] w fun v w' => v = .bool (!g r) ∧ Holds w0 w' (G • blk b (.cells #[fv] 77 (0, 0)) • F) := by
  refine ret_enter Tryd.func73 rfl Tryd.ntmps73 (Nat.le_of_ble_eq_true rfl) ?_
  dsimp only [slots0, Nat.reduceAdd]
  refine wc_seq ?_
  refine wc_region ?_
  refine wl_val (r_assign rfl) (ltn rfl) ?_
  refine wl_nil ?_
  refine wq_seq ?_
  refine wc_seq ?_
  refine wc_region ?_
  refine wl_val (r_load (plain_of Tryd.underlying77 rfl) rfl (cell_of_blk H.swap.get.2 rfl)) (ltn rfl) ?_
  refine wl_val (r_move rfl) (ltn rfl) ?_
  refine wl_eff (e_call_fn rfl rfl ((hf.2 (G • blk b (.cells #[fv] 77 (0, 0))) _ H.deep _))) (ltn rfl) ?_
  rintro _ w1 ⟨rfl, H1⟩
  refine wl_val (r_not rfl) (ltn rfl) ?_
  refine wl_val (r_assign rfl) (ltn rfl) ?_
  refine wl_nil ?_
  refine wq_seq ?_
  refine wc_ret ?_
  refine wq_end1 (.inl rfl) Tryd.results73 rfl ?_
  exact ⟨rfl, H1.flat⟩
theorem not_ret (H : Holds w0 w F) (h1 : fv.oneCell' = true) : Ret Tryd.prog 60 #[fv] w fun v w' => ∃ b, v = .func (.func 73) #[] #[.pointer (some ⟨b, 0, none⟩)] ∧ Holds w0 w' (blk b (.cells #[fv] 77 (0, 0)) • F) := by
  refine ret_enter Tryd.func60 rfl Tryd.ntmps60 (Nat.le_of_ble_eq_true rfl) ?_
  dsimp only [slots0, Nat.reduceAdd]
  refine wc_seq ?_
  refine wc_region ?_
  refine wl_eff (e_box H rfl) (ltn rfl) ?_
  rintro _ w1 ⟨b1, rfl, H1⟩
  refine wl_val (r_assign rfl) (ltn rfl) ?_
  refine wl_nil ?_
  refine wq_seq ?_
  refine wc_seq ?_
  refine wc_region ?_
  refine wl_val (r_makeFunc rfl rfl) (ltn rfl) ?_
  refine wl_val (r_assign rfl) (ltn rfl) ?_
  refine wl_nil ?_
  refine wq_seq ?_
  refine wc_ret ?_
  refine wq_end1 (.inl rfl) Tryd.results60 rfl ?_
  exact ⟨b1, rfl, by rw [cells_one h1] at H1; exact H1⟩
theorem tells_not {b : Nat} (hf : Tells Tryd.prog w0 F fv g) : Tells Tryd.prog w0 (blk b (.cells #[fv] 77 (0, 0)) • F) (.func (.func 73) #[] #[.pointer (some ⟨b, 0, none⟩)]) (fun r => !g r) :=
  ⟨rfl, fun G W HW r => ⟨73, [], [.pointer (some ⟨b, 0, none⟩)], _, _, rfl, Tryd.func73, rfl, rfl, not1_ret HW hf⟩⟩

def wordEndM (l : List Int) (x : Int) : Nat := overM letterM l (overM (fun r => !letterM r) l (withinM l.length x))
def wordStartM (l : List Int) (x : Int) : Nat := backM letterM l (backM (fun r => !letterM r) l (withinM l.length x))
theorem word_end_ret {x : Int} (H : Holds w0 w F) (hT : Tabs w0) (hr : FRdI w0 F .i32 v l) :
    Ret Tryd.prog 28 #[v, .int .i64 x] w fun v' w' => v' = .int .i64 (wordEndM l x) ∧ Holds w0 w' F := by
  obtain ⟨a, c, hv, hac, hac2, _⟩ := (hr w H).open
  subst hv
  have hw := withinM_le l.length x
  have ho := over_bd (fun r => !letterM r) l hw
  refine ret_enter Tryd.func28 rfl Tryd.ntmps28 (Nat.le_of_ble_eq_true rfl) ?_
  dsimp only [slots0, Nat.reduceAdd]
  refine wc_seq ?_
  refine wc_region ?_
  refine wl_val (r_assign rfl) (ltn rfl) ?_
  refine wl_nil ?_
  refine wq_seq ?_
  refine wc_seq ?_
  refine wc_region ?_
  refine wl_val (r_move rfl) (ltn rfl) ?_
  refine wl_val (r_move rfl) (ltn rfl) ?_
  refine wl_val (r_move rfl) (ltn rfl) ?_
  refine wl_val (r_move rfl) (ltn rfl) ?_
  refine wl_eff (e_call (r_call rfl Tryd.func59 rfl rfl) (within_ret)) (ltn rfl) ?_
  rintro _ _ ⟨rfl, rfl⟩
  refine wl_eff (e_call (r_call rfl Tryd.func60 rfl rfl) (not_ret H rfl)) (ltn rfl) ?_
  rintro _ w2 ⟨bn, rfl, H2⟩
  refine wl_eff (e_call (r_call rfl Tryd.func62 rfl rfl) ((over_ret (G := emp) H2.add_emp (tells_not (tells_letter hT)) hr.under.under hw))) (ltn rfl) ?_
  rintro _ w3 ⟨rfl, H3⟩
  refine wl_eff (e_call (r_call rfl Tryd.func62 rfl rfl) ((over_ret (G := emp • blk bn _) H3.deep (tells_letter hT) hr.under ho.2))) (ltn rfl) ?_
  rintro _ w4 ⟨rfl, H4⟩
  refine wl_val (r_assign rfl) (ltn rfl) ?_
  refine wl_nil ?_
  refine wq_seq ?_
  refine wc_ret ?_
  refine wq_end1 (.inl rfl) Tryd.results28 rfl ?_
  exact ⟨rfl, H4.right⟩
theorem word_start_ret {x : Int} (H : Holds w0 w F) (hT : Tabs w0) (hr : FRdI w0 F .i32 v l) :
    Ret Tryd.prog 27 #[v, .int .i64 x] w fun v' w' => v' = .int .i64 (wordStartM l x) ∧ Holds w0 w' F := by
  obtain ⟨a, c, hv, hac, hac2, _⟩ := (hr w H).open
  subst hv
  have hw := withinM_le l.length x
  have ho := back_bd (fun r => !letterM r) l (withinM l.length x)
  refine ret_enter Tryd.func27 rfl Tryd.ntmps27 (Nat.le_of_ble_eq_true rfl) ?_
  dsimp only [slots0, Nat.reduceAdd]
  refine wc_seq ?_
  refine wc_region ?_
  refine wl_val (r_assign rfl) (ltn rfl) ?_
  refine wl_nil ?_
  refine wq_seq ?_
  refine wc_seq ?_
  refine wc_region ?_
  refine wl_val (r_move rfl) (ltn rfl) ?_
  refine wl_val (r_move rfl) (ltn rfl) ?_
  refine wl_val (r_move rfl) (ltn rfl) ?_
  refine wl_val (r_move rfl) (ltn rfl) ?_
  refine wl_eff (e_call (r_call rfl Tryd.func59 rfl rfl) (within_ret)) (ltn rfl) ?_
  rintro _ _ ⟨rfl, rfl⟩
  refine wl_eff (e_call (r_call rfl Tryd.func60 rfl rfl) (not_ret H rfl)) (ltn rfl) ?_
  rintro _ w2 ⟨bn, rfl, H2⟩
  refine wl_eff (e_call (r_call rfl Tryd.func58 rfl rfl) ((back_ret (G := emp) H2.add_emp (tells_not (tells_letter hT)) hr.under.under hw))) (ltn rfl) ?_
  rintro _ w3 ⟨rfl, H3⟩
  refine wl_eff (e_call (r_call rfl Tryd.func58 rfl rfl) ((back_ret (G := emp • blk bn _) H3.deep (tells_letter hT) hr.under (by omega)))) (ltn rfl) ?_
  rintro _ w4 ⟨rfl, H4⟩
  refine wl_val (r_assign rfl) (ltn rfl) ?_
  refine wl_nil ?_
  refine wq_seq ?_
  refine wc_ret ?_
  refine wq_end1 (.inl rfl) Tryd.results27 rfl ?_
  exact ⟨rfl, H4.right⟩

def beginsM (r : Int) : Bool := decide (widthM r ≠ 0) || controlM r
theorem begins_ret {r : Int} (H : Holds w0 w F) (hT : Tabs w0) : Ret Tryd.prog 63 #[.int .i32 r] w fun v w' => v = .bool (beginsM r) ∧ Holds w0 w' F := by
  refine ret_enter Tryd.func63 rfl Tryd.ntmps63 (Nat.le_of_ble_eq_true rfl) ?_
  dsimp only [slots0, Nat.reduceAdd]
  refine wc_seq ?_
  refine wc_region ?_
  refine wl_val (r_assign rfl) (ltn rfl) ?_
  refine wl_nil ?_
  refine wq_seq ?_
  refine wc_seq ?_
  refine wc_region ?_
  refine wl_val (r_move rfl) (ltn rfl) ?_
  refine wl_eff (e_call (r_call rfl Tryd.func75 rfl rfl) (width_ret H hT)) (ltn rfl) ?_
  rintro _ w1 ⟨rfl, H1⟩
  refine wl_val (r_neq rfl rfl) (ltn rfl) ?_
  refine wl_split rfl (ltn rfl) (fun h1 => ?_) (fun h1 => ?_)
  · (try simp only [beq_iff_eq, bne_iff_ne, ne_eq, decide_eq_true_eq, decide_eq_false_iff_not, beq_eq_false_iff_ne, bne_eq_false_iff_eq, Bool.not_eq_true', Bool.not_eq_false', Bool.not_eq_eq_eq_not, Bool.not_true, Bool.not_false, gt_iff_lt, ge_iff_le, Int.not_lt, Int.not_le] at h1)
    try (exfalso; first | contradiction | omega)
    all_goals
      refine wl_no rfl rfl rfl (ltn rfl) ?_
      refine wl_no rfl rfl rfl (ltn rfl) ?_
      refine wl_val (r_pick_t rfl rfl) (ltn rfl) ?_
      refine wl_val (r_assign rfl) (ltn rfl) ?_
      refine wl_nil ?_
      refine wq_seq ?_
      refine wc_ret ?_
      refine wq_end1 (.inl rfl) Tryd.results63 rfl ?_
      exact ⟨by unfold beginsM; simp [*], H1⟩
  · (try simp only [beq_iff_eq, bne_iff_ne, ne_eq, decide_eq_true_eq, decide_eq_false_iff_not, beq_eq_false_iff_ne, bne_eq_false_iff_eq, Bool.not_eq_true', Bool.not_eq_false', Bool.not_eq_eq_eq_not, Bool.not_true, Bool.not_false, gt_iff_lt, ge_iff_le, Int.not_lt, Int.not_le] at h1)
    try (exfalso; first | contradiction | omega)
    all_goals
      refine wl_yes rfl rfl ?_
      refine wl_val (r_move rfl) (ltn rfl) ?_
      refine wl_yes rfl rfl ?_
      refine wl_eff (e_call (r_call rfl Tryd.func76 rfl rfl) (control_ret)) (ltn rfl) ?_
      rintro _ _ ⟨rfl, rfl⟩
      refine wl_val (r_pick_f rfl rfl) (ltn rfl) ?_
      refine wl_val (r_assign rfl) (ltn rfl) ?_
      refine wl_nil ?_
      refine wq_seq ?_
      refine wc_ret ?_
      refine wq_end1 (.inl rfl) Tryd.results63 rfl ?_
      exact ⟨by unfold beginsM; simp [*], H1⟩
/-- Where the next character begins; where the one ahead begins. -/
def nextM (l : List Int) (x : Int) : Nat := if withinM l.length x < l.length then overM (fun r => !beginsM r) l (withinM l.length x + 1) else l.length
theorem next_eq {l : List Int} {x : Int} {n k : Nat} (hn : withinM l.length x = n) (h : n < l.length) (h1 : n + 1 ≤ k) (h2 : k ≤ l.length) (h3 : ∀ j, n + 1 ≤ j → j < k → (!beginsM (l.getD j 0)) = true) (h4 : k = l.length ∨ beginsM (l.getD k 0) = true) : nextM l x = k := by
  rw [nextM, hn, if_pos h]
  exact over_eq h1 h2 h3 (h4.imp_right fun h5 => by rw [h5]; rfl)
def prevM (l : List Int) (x : Int) : Nat := backM (fun r => !beginsM r) l (withinM l.length x) - 1
theorem next_ret {x : Int} (H : Holds w0 w F) (hT : Tabs w0) (hr : FRdI w0 F .i32 v l) :
    Ret Tryd.prog 29 #[v, .int .i64 x] w fun v' w' => v' = .int .i64 (nextM l x) ∧ Holds w0 w' F := by
  obtain ⟨a, c, hv, hac, hac2, _⟩ := (hr w H).open
  subst hv
  have hw := withinM_le l.length x
  obtain ⟨n, hn⟩ : ∃ n, withinM l.length x = n := ⟨_, rfl⟩
  rw [hn] at hw
  refine ret_enter Tryd.func29 rfl Tryd.ntmps29 (Nat.le_of_ble_eq_true rfl) ?_
  dsimp only [slots0, Nat.reduceAdd]
  refine wc_seq ?_
  refine wc_region ?_
  refine wl_val (r_assign rfl) (ltn rfl) ?_
  refine wl_nil ?_
  refine wq_seq ?_
  refine wc_seq ?_
  refine wc_region ?_
  refine wl_val (r_move rfl) (ltn rfl) ?_
  refine wl_val (r_move rfl) (ltn rfl) ?_
  refine wl_eff (e_call (r_call rfl Tryd.func59 rfl rfl) (within_ret)) (ltn rfl) ?_
  rintro _ _ ⟨rfl, rfl⟩
  rw [hn]
  refine wl_val (r_assign rfl) (ltn rfl) ?_
  refine wl_nil ?_
  refine wq_seq ?_
  refine wc_seq ?_
  refine wc_block ?_
  refine wc_loop [(0, _)] (fun (k : Nat) => [(1, .int .i64 (k : Int))]) (fun (k : Nat) W => n ≤ k ∧ k ≤ l.length ∧ (∀ j, n + 1 ≤ j → j < k → (!beginsM (l.getD j 0)) = true) ∧ (n < k → k = l.length ∨ (!beginsM (l.getD k 0)) = true) ∧ Holds w0 W F) (fun (k : Nat) => l.length - k) (n) (Sub.cons rfl (Sub.nil _)) (Sub.cons rfl (Sub.nil _)) ⟨by omega, by omega, fun j h1 h2 => absurd h1 (by omega), fun h => absurd h (by omega), H⟩ ?_
  rintro k w2 ⟨hk1, hk2, hk3, hk4, HL⟩
  dsimp only [List.cons_append, List.nil_append]
  refine wc_seq ?_
  refine wc_seq ?_
  refine wc_region ?_
  refine wl_val (r_move rfl) (ltn rfl) ?_
  refine wl_val (r_move rfl) (ltn rfl) ?_
  refine wl_val (r_len Tryd.underlying22 rfl) (ltn rfl) ?_
  refine wl_val (r_lss rfl rfl) (ltn rfl) ?_
  refine wl_nil ?_
  refine wq_seq ?_
  refine wc_cond rfl (fun h1 => ?_) (fun h1 => ?_)
  · (try simp only [beq_iff_eq, bne_iff_ne, ne_eq, decide_eq_true_eq, decide_eq_false_iff_not, beq_eq_false_iff_ne, bne_eq_false_iff_eq, Bool.not_eq_true', Bool.not_eq_false', Bool.not_eq_eq_eq_not, Bool.not_true, Bool.not_false, gt_iff_lt, ge_iff_le, Int.not_lt, Int.not_le] at h1)
    try (exfalso; first | contradiction | omega)
    all_goals
      
      refine wc_skip ?_
      refine wq_seq ?_
      refine wc_block ?_
      refine wc_seq ?_
      refine wc_region ?_
      refine wl_val (r_move rfl) (ltn rfl) ?_
      refine wl_val (r_add rfl rfl (by omega)) (ltn rfl) ?_
      refine wl_val (r_assign rfl) (ltn rfl) ?_
      refine wl_nil ?_
      refine wq_seq ?_
      refine wc_seq ?_
      refine wc_region ?_
      refine wl_val (r_move rfl) (ltn rfl) ?_
      refine wl_val (r_move rfl) (ltn rfl) ?_
      refine wl_val (r_len Tryd.underlying22 rfl) (ltn rfl) ?_
      refine wl_val (r_eql rfl rfl) (ltn rfl) ?_
      refine wl_split rfl (ltn rfl) (fun h2 => ?_) (fun h2 => ?_)
      · (try simp only [beq_iff_eq, bne_iff_ne, ne_eq, decide_eq_true_eq, decide_eq_false_iff_not, beq_eq_false_iff_ne, bne_eq_false_iff_eq, Bool.not_eq_true', Bool.not_eq_false', Bool.not_eq_eq_eq_not, Bool.not_true, Bool.not_false, gt_iff_lt, ge_iff_le, Int.not_lt, Int.not_le] at h2)
        try (exfalso; first | contradiction | omega)
        all_goals
          refine wl_no rfl rfl rfl (ltn rfl) ?_
          refine wl_no rfl rfl rfl (ltn rfl) ?_
          refine wl_no rfl rfl rfl (ltn rfl) ?_
          refine wl_no rfl rfl rfl (ltn rfl) ?_
          refine wl_no rfl rfl rfl (ltn rfl) ?_
          refine wl_val (r_pick_t rfl rfl) (ltn rfl) ?_
          refine wl_nil ?_
          refine wq_seq ?_
          refine wc_cond_t rfl ?_
          refine wc_exit ?_
          refine wq_block_miss (by decide) ?_
          refine wq_then_exit ?_
          refine wq_block_hit ?_
          refine wq_seq ?_
          refine wc_seq ?_
          refine wc_region ?_
          refine wl_val (r_move rfl) (ltn rfl) ?_
          refine wl_val (r_assign rfl) (ltn rfl) ?_
          refine wl_nil ?_
          refine wq_seq ?_
          refine wc_ret ?_
          refine wq_end1 (.inl rfl) Tryd.results29 rfl ?_
          exact ⟨by rw [next_eq hn (k := k + 1) (by omega) (by omega) (by omega) (fun j h4 h5 => by by_cases e : j = k; (subst e; rcases hk4 (by omega) with h6 | h6; (omega); exact h6); exact hk3 j h4 (by omega)) (.inl (by omega))]; rfl, HL⟩
      · (try simp only [beq_iff_eq, bne_iff_ne, ne_eq, decide_eq_true_eq, decide_eq_false_iff_not, beq_eq_false_iff_ne, bne_eq_false_iff_eq, Bool.not_eq_true', Bool.not_eq_false', Bool.not_eq_eq_eq_not, Bool.not_true, Bool.not_false, gt_iff_lt, ge_iff_le, Int.not_lt, Int.not_le] at h2)
        try (exfalso; first | contradiction | omega)
        all_goals
          obtain ⟨a', c', hsl, _, _, hcell⟩ := (hr _ HL).open
          cases hsl
          obtain ⟨b, o, rfl, hq⟩ := hcell (by omega)
          have hqk := hq (k + 1) (by omega)
          refine wl_yes rfl rfl ?_
          refine wl_val (r_move rfl) (ltn rfl) ?_
          refine wl_yes rfl rfl ?_
          refine wl_val (r_move rfl) (ltn rfl) ?_
          refine wl_yes rfl rfl ?_
          refine wl_val (r_index Tryd.underlying22 Tryd.sizeOf21 rfl rfl (by omega)) (ltn rfl) ?_
          refine wl_yes rfl rfl ?_
          refine wl_val (r_load (plain_of Tryd.underlying21 rfl) rfl (by rw [show ((k : Int) + 1).toNat * 1 = k + 1 from by omega]; exact hqk)) (ltn rfl) ?_
          refine wl_yes rfl rfl ?_
          refine wl_eff (e_call (r_call rfl Tryd.func63 rfl rfl) (begins_ret HL hT)) (ltn rfl) ?_
          rintro _ w3 ⟨rfl, H3⟩
          have HN := H3
          refine wl_val (r_pick_f rfl rfl) (ltn rfl) ?_
          refine wl_nil ?_
          refine wq_seq ?_
          refine wc_cond rfl (fun h3 => ?_) (fun h3 => ?_)
          · (try simp only [beq_iff_eq, bne_iff_ne, ne_eq, decide_eq_true_eq, decide_eq_false_iff_not, beq_eq_false_iff_ne, bne_eq_false_iff_eq, Bool.not_eq_true', Bool.not_eq_false', Bool.not_eq_eq_eq_not, Bool.not_true, Bool.not_false, gt_iff_lt, ge_iff_le, Int.not_lt, Int.not_le] at h3)
            try (exfalso; first | contradiction | omega)
            all_goals
              
              refine wc_exit ?_
              refine wq_block_miss (by decide) ?_
              refine wq_then_exit ?_
              refine wq_block_hit ?_
              refine wq_seq ?_
              refine wc_seq ?_
              refine wc_region ?_
              refine wl_val (r_move rfl) (ltn rfl) ?_
              refine wl_val (r_assign rfl) (ltn rfl) ?_
              refine wl_nil ?_
              refine wq_seq ?_
              refine wc_ret ?_
              refine wq_end1 (.inl rfl) Tryd.results29 rfl ?_
              exact ⟨by rw [next_eq hn (k := k + 1) (by omega) (by omega) (by omega) (fun j h4 h5 => by by_cases e : j = k; (subst e; rcases hk4 (by omega) with h6 | h6; (omega); exact h6); exact hk3 j h4 (by omega)) (.inr (by assumption))]; rfl, H3⟩
          · (try simp only [beq_iff_eq, bne_iff_ne, ne_eq, decide_eq_true_eq, decide_eq_false_iff_not, beq_eq_false_iff_ne, bne_eq_false_iff_eq, Bool.not_eq_true', Bool.not_eq_false', Bool.not_eq_eq_eq_not, Bool.not_true, Bool.not_false, gt_iff_lt, ge_iff_le, Int.not_lt, Int.not_le] at h3)
            try (exfalso; first | contradiction | omega)
            all_goals
              
              refine wc_skip ?_
              refine wq_block_normal ?_
              refine wq_round (k + 1) ?_ ?_ ?_ ?_
              · exact (Sub.cons rfl (Sub.nil _))
              · exact (Sub.cons rfl (Sub.nil _))
              · (try dsimp only)
                exact ⟨by omega, by omega, fun j h4 h5 => by by_cases e : j = k; (subst e; rcases hk4 (by omega) with h6 | h6; (omega); exact h6); exact hk3 j h4 (by omega), fun _ => .inr (by have h9 := ‹beginsM (l.getD (k + 1) 0) = false›; rw [h9]; rfl), HN⟩
              · (try dsimp only); omega
  · (try simp only [beq_iff_eq, bne_iff_ne, ne_eq, decide_eq_true_eq, decide_eq_false_iff_not, beq_eq_false_iff_ne, bne_eq_false_iff_eq, Bool.not_eq_true', Bool.not_eq_false', Bool.not_eq_eq_eq_not, Bool.not_true, Bool.not_false, gt_iff_lt, ge_iff_le, Int.not_lt, Int.not_le] at h1)
    try (exfalso; first | contradiction | omega)
    all_goals
      
      refine wc_exit ?_
      refine wq_then_exit ?_
      refine wq_then_exit ?_
      refine wq_block_hit ?_
      refine wq_seq ?_
      refine wc_seq ?_
      refine wc_region ?_
      refine wl_val (r_move rfl) (ltn rfl) ?_
      refine wl_val (r_assign rfl) (ltn rfl) ?_
      refine wl_nil ?_
      refine wq_seq ?_
      refine wc_ret ?_
      refine wq_end1 (.inl rfl) Tryd.results29 rfl ?_
      exact ⟨by by_cases h9 : n = l.length; (rw [nextM, hn, if_neg (by omega)]; congr 1; omega); rw [next_eq hn (k := k) (by omega) (by omega) (by omega) hk3 (.inl (by omega))], HL⟩
theorem prev_ret {x : Int} (H : Holds w0 w F) (hT : Tabs w0) (hr : FRdI w0 F .i32 v l) :
    Ret Tryd.prog 30 #[v, .int .i64 x] w fun v' w' => v' = .int .i64 (prevM l x) ∧ Holds w0 w' F := by
  obtain ⟨a, c, hv, hac, hac2, _⟩ := (hr w H).open
  subst hv
  have hw := withinM_le l.length x
  obtain ⟨n, hn⟩ : ∃ n, withinM l.length x = n := ⟨_, rfl⟩
  rw [hn] at hw
  refine ret_enter Tryd.func30 rfl Tryd.ntmps30 (Nat.le_of_ble_eq_true rfl) ?_
  dsimp only [slots0, Nat.reduceAdd]
  refine wc_seq ?_
  refine wc_region ?_
  refine wl_val (r_assign rfl) (ltn rfl) ?_
  refine wl_nil ?_
  refine wq_seq ?_
  refine wc_seq ?_
  refine wc_region ?_
  refine wl_val (r_move rfl) (ltn rfl) ?_
  refine wl_val (r_move rfl) (ltn rfl) ?_
  refine wl_eff (e_call (r_call rfl Tryd.func59 rfl rfl) (within_ret)) (ltn rfl) ?_
  rintro _ _ ⟨rfl, rfl⟩
  rw [hn]
  refine wl_val (r_assign rfl) (ltn rfl) ?_
  refine wl_nil ?_
  refine wq_seq ?_
  refine wc_seq ?_
  refine wc_block ?_
  refine wc_loop [(0, _)] (fun (k : Nat) => [(1, .int .i64 (k : Int))]) (fun (k : Nat) W => k ≤ n ∧ (∀ j, k ≤ j → j < n → (!beginsM (l.getD j 0)) = true) ∧ Holds w0 W F) (fun (k : Nat) => k) (n) (Sub.cons rfl (Sub.nil _)) (Sub.cons rfl (Sub.nil _)) ⟨by omega, fun j h1 h2 => absurd h1 (by omega), H⟩ ?_
  rintro k w2 ⟨hk1, hk3, HL⟩
  dsimp only [List.cons_append, List.nil_append]
  refine wc_seq ?_
  refine wc_seq ?_
  refine wc_region ?_
  refine wl_val (r_move rfl) (ltn rfl) ?_
  refine wl_val (r_gtr rfl rfl) (ltn rfl) ?_
  refine wl_nil ?_
  refine wq_seq ?_
  refine wc_cond rfl (fun h1 => ?_) (fun h1 => ?_)
  · (try simp only [beq_iff_eq, bne_iff_ne, ne_eq, decide_eq_true_eq, decide_eq_false_iff_not, beq_eq_false_iff_ne, bne_eq_false_iff_eq, Bool.not_eq_true', Bool.not_eq_false', Bool.not_eq_eq_eq_not, Bool.not_true, Bool.not_false, gt_iff_lt, ge_iff_le, Int.not_lt, Int.not_le] at h1)
    try (exfalso; first | contradiction | omega)
    all_goals
      
      refine wc_skip ?_
      refine wq_seq ?_
      refine wc_block ?_
      refine wc_seq ?_
      refine wc_region ?_
      refine wl_val (r_move rfl) (ltn rfl) ?_
      refine wl_val (r_sub rfl rfl (by omega)) (ltn rfl) ?_
      refine wl_val (r_assign rfl) (ltn rfl) ?_
      refine wl_nil ?_
      refine wq_seq ?_
      refine wc_seq ?_
      obtain ⟨a', c', hsl, _, _, hcell⟩ := (hr _ HL).open
      cases hsl
      obtain ⟨b, o, rfl, hq⟩ := hcell (by omega)
      have hqk := hq (k - 1) (by omega)
      refine wc_region ?_
      refine wl_val (r_move rfl) (ltn rfl) ?_
      refine wl_val (r_move rfl) (ltn rfl) ?_
      refine wl_val (r_index Tryd.underlying22 Tryd.sizeOf21 rfl rfl (by omega)) (ltn rfl) ?_
      refine wl_val (r_load (plain_of Tryd.underlying21 rfl) rfl (by rw [show ((k : Int) - 1).toNat * 1 = k - 1 from by omega]; exact hqk)) (ltn rfl) ?_
      refine wl_eff (e_call (r_call rfl Tryd.func63 rfl rfl) (begins_ret HL hT)) (ltn rfl) ?_
      rintro _ w3 ⟨rfl, H3⟩
      have HN := H3
      refine wl_nil ?_
      refine wq_seq ?_
      refine wc_cond rfl (fun h2 => ?_) (fun h2 => ?_)
      · (try simp only [beq_iff_eq, bne_iff_ne, ne_eq, decide_eq_true_eq, decide_eq_false_iff_not, beq_eq_false_iff_ne, bne_eq_false_iff_eq, Bool.not_eq_true', Bool.not_eq_false', Bool.not_eq_eq_eq_not, Bool.not_true, Bool.not_false, gt_iff_lt, ge_iff_le, Int.not_lt, Int.not_le] at h2)
        try (exfalso; first | contradiction | omega)
        all_goals
          
          refine wc_exit ?_
          refine wq_block_miss (by decide) ?_
          refine wq_then_exit ?_
          refine wq_block_hit ?_
          refine wq_seq ?_
          refine wc_seq ?_
          refine wc_region ?_
          refine wl_val (r_move rfl) (ltn rfl) ?_
          refine wl_val (r_assign rfl) (ltn rfl) ?_
          refine wl_nil ?_
          refine wq_seq ?_
          refine wc_ret ?_
          refine wq_end1 (.inl rfl) Tryd.results30 rfl ?_
          exact ⟨by rw [prevM, hn, back_eq (k := k) hk1 hw hk3 (.inr (by have h9 := ‹beginsM (l.getD (k - 1) 0) = true›; rw [h9]; rfl))]; congr 1; omega, H3⟩
      · (try simp only [beq_iff_eq, bne_iff_ne, ne_eq, decide_eq_true_eq, decide_eq_false_iff_not, beq_eq_false_iff_ne, bne_eq_false_iff_eq, Bool.not_eq_true', Bool.not_eq_false', Bool.not_eq_eq_eq_not, Bool.not_true, Bool.not_false, gt_iff_lt, ge_iff_le, Int.not_lt, Int.not_le] at h2)
        try (exfalso; first | contradiction | omega)
        all_goals
          
          refine wc_skip ?_
          refine wq_block_normal ?_
          refine wq_round (k - 1) ?_ ?_ ?_ ?_
          · exact (Sub.cons' rfl (by rw [show ((k - 1 : Nat) : Int) = (k : Int) - 1 from by omega]) (Sub.nil _))
          · exact (Sub.cons rfl (Sub.nil _))
          · (try dsimp only)
            exact ⟨by omega, fun j h4 h5 => by by_cases e : j = k - 1; (subst e; have h9 := ‹beginsM (l.getD (k - 1) 0) = false›; rw [h9]; rfl); exact hk3 j (by omega) h5, HN⟩
          · (try dsimp only); omega
  · (try simp only [beq_iff_eq, bne_iff_ne, ne_eq, decide_eq_true_eq, decide_eq_false_iff_not, beq_eq_false_iff_ne, bne_eq_false_iff_eq, Bool.not_eq_true', Bool.not_eq_false', Bool.not_eq_eq_eq_not, Bool.not_true, Bool.not_false, gt_iff_lt, ge_iff_le, Int.not_lt, Int.not_le] at h1)
    try (exfalso; first | contradiction | omega)
    all_goals
      
      refine wc_exit ?_
      refine wq_then_exit ?_
      refine wq_then_exit ?_
      refine wq_block_hit ?_
      refine wq_seq ?_
      refine wc_seq ?_
      refine wc_region ?_
      refine wl_val (r_move rfl) (ltn rfl) ?_
      refine wl_val (r_assign rfl) (ltn rfl) ?_
      refine wl_nil ?_
      refine wq_seq ?_
      refine wc_ret ?_
      refine wq_end1 (.inl rfl) Tryd.results30 rfl ?_
      exact ⟨by rw [prevM, hn, back_eq (k := k) hk1 hw hk3 (.inl (by omega))]; congr 1; omega, HL⟩
end
end Go.Proofs.YtlldaaamdchkdaaDoor
