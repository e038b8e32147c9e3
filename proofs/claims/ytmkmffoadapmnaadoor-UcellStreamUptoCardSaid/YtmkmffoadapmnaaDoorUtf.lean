/- Decoding, walked: Go's utf8, the document's. -/
import Derived.Test.YtmkmffoadapmnaaDoorUtfM
import Derived.Test.YtmkmffoadapmnaaDoorBits
import GoSem.PinnedTables
set_option linter.unusedSimpArgs false
set_option linter.unusedVariables false
namespace Go.Proofs.YtmkmffoadapmnaaDoor
open Go.RowKit
def firstM (x : Nat) : Int := ((Go.Pinned.utf8FirstZ.getD x 0 : Nat) : Int)
def accL : List (Int × Int) := [(128, 191), (160, 191), (128, 159), (144, 191), (128, 143)]
theorem first_all : ((List.range 256).all fun x => let f := firstM x; let n := needM (x : Int)
    decide ((f = 240 ∧ x < 128) ∨ (f = 241 ∧ n = 0 ∧ 128 ≤ x) ∨ (0 ≤ f ∧ f < 240 ∧ f % 8 = (n : Int) ∧ 2 ≤ n ∧ 128 ≤ x ∧ f / 16 < 5 ∧ accL.getD (f / 16).toNat (0, 0) = (lowM x, highM x)))) = true := by decide +kernel
theorem first_at {x : Int} (h : 0 ≤ x ∧ x < 256) : (firstM x.toNat = 240 ∧ x < 128) ∨ (firstM x.toNat = 241 ∧ needM x = 0 ∧ 128 ≤ x) ∨
    (0 ≤ firstM x.toNat ∧ firstM x.toNat < 240 ∧ firstM x.toNat % 8 = (needM x : Int) ∧ 2 ≤ needM x ∧ 128 ≤ x ∧ firstM x.toNat / 16 < 5 ∧ accL.getD (firstM x.toNat / 16).toNat (0, 0) = (lowM x, highM x)) := by
  have := List.all_eq_true.1 first_all x.toNat (List.mem_range.2 (by omega))
  simp only [decide_eq_true_eq, Int.toNat_of_nonneg h.1] at this
  rcases this with h1 | h1 | h1
  · exact .inl ⟨h1.1, by omega⟩
  · exact .inr (.inl ⟨h1.1, h1.2.1, by omega⟩)
  · exact .inr (.inr ⟨h1.1, h1.2.1, h1.2.2.1, h1.2.2.2.1, by omega, h1.2.2.2.2.2.1, h1.2.2.2.2.2.2⟩)
/-- utf8's two tables. -/
structure UTabs (w : World) : Prop where
  first : ∀ x : Nat, x < 256 → w.cell? ⟨2, x, none⟩ = some (.int .u8 (firstM x))
  acc : ∀ i : Nat, i < 5 → w.cell? ⟨3, i * 2, none⟩ = some (.int .u8 (accL.getD i (0, 0)).1) ∧ w.cell? ⟨3, i * 2 + 1, none⟩ = some (.int .u8 (accL.getD i (0, 0)).2)
theorem low_mask : ((List.range 256).all fun x => decide (bits .or .i32 (bits .andNot .i32 (x : Int) (IntKind.i32.wrap (240 * 2 ^ 31) / 2 ^ 31)) (bits .and .i32 65533 (IntKind.i32.wrap (240 * 2 ^ 31) / 2 ^ 31)) = (x : Int) ∧
    bits .or .i32 (bits .andNot .i32 (x : Int) (IntKind.i32.wrap (241 * 2 ^ 31) / 2 ^ 31)) (bits .and .i32 65533 (IntKind.i32.wrap (241 * 2 ^ 31) / 2 ^ 31)) = 65533)) = true := by decide +kernel
theorem low_at {x : Int} (h : 0 ≤ x ∧ x < 256) : bits .or .i32 (bits .andNot .i32 x (IntKind.i32.wrap (240 * 2 ^ 31) / 2 ^ 31)) (bits .and .i32 65533 (IntKind.i32.wrap (240 * 2 ^ 31) / 2 ^ 31)) = x ∧
    bits .or .i32 (bits .andNot .i32 x (IntKind.i32.wrap (241 * 2 ^ 31) / 2 ^ 31)) (bits .and .i32 65533 (IntKind.i32.wrap (241 * 2 ^ 31) / 2 ^ 31)) = 65533 := by
  have := List.all_eq_true.1 low_mask x.toNat (List.mem_range.2 (by omega))
  simpa only [decide_eq_true_eq, Int.toNat_of_nonneg h.1] using this
section
variable {b : List Int}
theorem byt_at (h : Byts b) (j : Nat) : 0 ≤ b.getD j 0 ∧ b.getD j 0 < 256 := by
  rw [List.getD_eq_getElem?_getD]
  by_cases hj : j < b.length
  · rw [List.getElem?_eq_getElem hj]; exact h _ (List.getElem_mem hj)
  · rw [List.getElem?_eq_none (by omega)]; decide
theorem headM_bad {j : Nat} (hj : j < needM (b.getD 0 0)) (h : okAt b j = false) (hl : j < b.length) : headM b = (0, needM (b.getD 0 0)) := by
  have hb : b ≠ [] := by rintro rfl; simp at hl
  unfold headM
  rw [if_neg hb, if_neg (show ¬ needM (b.getD 0 0) = 0 by omega), if_neg]
  intro hg
  have := goodB_mono hg (m := j + 1) (by omega)
  simp only [goodB, h, Bool.and_false] at this
  cases this
theorem headM_ok (hb : b ≠ []) (hn : 0 < needM (b.getD 0 0)) (h : goodB b (min (needM (b.getD 0 0)) b.length) = true) : headM b = (min (needM (b.getD 0 0)) b.length, needM (b.getD 0 0)) := by
  unfold headM
  rw [if_neg hb, if_neg (show ¬ needM (b.getD 0 0) = 0 by omega), if_pos h]
theorem headM_none (h : needM (b.getD 0 0) = 0) : headM b = (0, 0) := by
  unfold headM
  by_cases hb : b = []
  · rw [if_pos hb]
  · rw [if_neg hb, if_pos h]
theorem decM_none (h : needM (b.getD 0 0) = 0) : decM b = (65533, 1) := by
  unfold decM wholeM; rw [headM_none h]; rfl
theorem decM_bad {j : Nat} (hb : b ≠ []) (hj : j < needM (b.getD 0 0)) (h : okAt b j = false) : decM b = (65533, 1) := by
  by_cases hl : j < b.length
  · unfold decM wholeM; rw [headM_bad hj h hl]; rw [if_neg]; simp only [decide_eq_true_eq]; omega
  · unfold decM wholeM
    have h1 := headM_fst_le (b := b)
    rw [headM_snd hb] at h1 ⊢
    rw [if_neg]
    simp only [decide_eq_true_eq]; omega
theorem okAt_out {j : Nat} (h : b.length ≤ j) (hj : 0 < j) : okAt b j = false := by
  unfold okAt
  rw [List.getD_eq_getElem?_getD, List.getElem?_eq_none h]
  simp
  omega
theorem decM_good {n : Nat} (hb : b ≠ []) (hn : needM (b.getD 0 0) = n) (h1 : 1 ≤ n) (hl : n ≤ b.length) (h : goodB b n = true) : decM b = (valM b n, n) := by
  have := headM_ok hb (by omega) (by rw [hn, Nat.min_eq_left hl]; exact h)
  rw [hn, Nat.min_eq_left hl] at this
  unfold decM wholeM; rw [this]; rw [if_pos]; simp [show 0 < n from h1]
theorem decM_ascii (hb : b ≠ []) (h : b.getD 0 0 < 128) : decM b = (b.getD 0 0, 1) := by
  have hl := List.length_pos_iff.2 hb
  rw [decM_good (n := 1) hb (by unfold needM; rw [if_pos h]) (Nat.le_refl _) hl (by simp [goodB, okAt])]
  rfl
theorem partM_no (h : needM (b.getD 0 0) ≤ b.length) : partM b = false := by
  by_cases hb : b = []
  · subst hb; rfl
  · unfold partM
    rw [headM_snd hb]
    simp only [decide_eq_false_iff_not]
    rintro ⟨h1, h2⟩
    unfold headM at h1 h2
    rw [if_neg hb] at h1 h2
    split at h2
    · omega
    · split at h2
      · simp only at h2; rw [Nat.min_eq_left h] at h2; omega
      · rename_i h3 h4; rw [if_neg h3, if_neg h4] at h1; simp at h1
theorem partM_bad {j : Nat} (hj : j < needM (b.getD 0 0)) (h : okAt b j = false) (hl : j < b.length) : partM b = false := by
  unfold partM; rw [headM_bad hj h hl]; simp
theorem partM_yes (hb : b ≠ []) (hl : b.length < needM (b.getD 0 0)) (h : goodB b b.length = true) : partM b = true := by
  have hp := List.length_pos_iff.2 hb
  unfold partM
  rw [headM_ok hb (by omega) (by rw [Nat.min_eq_right (by omega)]; exact h), Nat.min_eq_right (by omega)]
  simp only [decide_eq_true_eq]; omega
theorem ok1 (h1 : lowM (b.getD 0 0) ≤ b.getD 1 0) (h2 : b.getD 1 0 ≤ highM (b.getD 0 0)) : okAt b 1 = true := by
  have : 128 ≤ b.getD 1 0 ∧ b.getD 1 0 ≤ 191 := by
    unfold lowM at h1; unfold highM at h2
    constructor
    · split at h1 <;> (try split at h1) <;> omega
    · split at h2 <;> (try split at h2) <;> omega
  unfold okAt
  simp only [Bool.or_eq_true, Bool.and_eq_true, decide_eq_true_eq]
  exact .inr ⟨this, .inr ⟨h1, h2⟩⟩
theorem not1 (h : b.getD 1 0 < lowM (b.getD 0 0) ∨ highM (b.getD 0 0) < b.getD 1 0) : okAt b 1 = false := by
  unfold okAt
  rw [← Bool.not_eq_true]
  simp only [Bool.or_eq_true, Bool.and_eq_true, decide_eq_true_eq]
  rintro (h1 | ⟨h1, h2 | h2⟩)
  · simp at h1
  · simp at h2
  · omega
theorem okj {j : Nat} (hj : 2 ≤ j) (h : 128 ≤ b.getD j 0 ∧ b.getD j 0 ≤ 191) : okAt b j = true := by
  unfold okAt
  simp only [Bool.or_eq_true, Bool.and_eq_true, decide_eq_true_eq]
  exact .inr ⟨h, .inl (by simp; omega)⟩
theorem notj {j : Nat} (hj : 1 ≤ j) (h : b.getD j 0 < 128 ∨ 191 < b.getD j 0) : okAt b j = false := by
  unfold okAt
  rw [← Bool.not_eq_true]
  simp only [Bool.or_eq_true, Bool.and_eq_true, decide_eq_true_eq]
  rintro (h1 | ⟨h1, h2⟩)
  · simp at h1; omega
  · omega
theorem ok0 : okAt b 0 = true := rfl
end
section
variable {w0 w : World} {F : HP} {v : Value} {b : List Int}
theorem slow_ret (H : Holds w0 w F) (hT : UTabs w0) (hv : FRdI w0 F .u8 v b) (hb : Byts b) (hne : b ≠ []) : Ret Tryd.prog 55 #[v] w fun v' w' => v' = .tuple #[.int .i32 (decM b).1, .int .i64 ((decM b).2 : Nat)] ∧ Holds w0 w' F := by
  have hl := List.length_pos_iff.2 hne
  have y0 := byt_at hb 0
  have y1 := byt_at hb 1
  have y2 := byt_at hb 2
  have y3 := byt_at hb 3
  have hf := first_at y0
  have hfb : 0 ≤ firstM (b.getD 0 0).toNat ∧ firstM (b.getD 0 0).toNat < 256 := by
    rcases hf with h1 | h1 | h1
    · omega
    · omega
    · exact ⟨h1.1, Int.lt_trans h1.2.1 (by decide)⟩
  have hn4 := needM_le (b.getD 0 0)
  refine ret_enter Tryd.func55 rfl Tryd.ntmps55 (Nat.le_of_ble_eq_true rfl) ?_
  dsimp only [slots0, Nat.reduceAdd]
  refine wc_seq ?_
  refine wc_region ?_
  refine wl_val (r_assign rfl) (ltn rfl) ?_
  refine wl_val (r_assign rfl) (ltn rfl) ?_
  refine wl_nil ?_
  refine wq_seq ?_
  refine wc_seq ?_
  refine wc_region ?_
  refine wl_val (r_move rfl) (ltn rfl) ?_
  refine wl_val (r_lenR (hv _ (H)) Tryd.underlying39 rfl) (ltn rfl) ?_
  refine wl_val (r_assign rfl) (ltn rfl) ?_
  refine wl_nil ?_
  refine wq_seq ?_
  refine wc_seq ?_
  refine wc_seq ?_
  refine wc_region ?_
  refine wl_val (r_move rfl) (ltn rfl) ?_
  refine wl_val (r_lss rfl rfl) (ltn rfl) ?_
  refine wl_nil ?_
  refine wq_seq ?_
  refine wc_cond rfl (fun h => by exfalso; (try simp only [beq_iff_eq, bne_iff_ne, ne_eq, decide_eq_true_eq, decide_eq_false_iff_not, beq_eq_false_iff_ne, bne_eq_false_iff_eq, Bool.not_eq_true', Bool.not_eq_false', Bool.not_eq_eq_eq_not, Bool.not_true, Bool.not_false, gt_iff_lt, ge_iff_le, Int.not_lt, Int.not_le] at h); first | contradiction | omega | (simp at h <;> omega)) (fun h1 => ?_)
  (try simp only [beq_iff_eq, bne_iff_ne, ne_eq, decide_eq_true_eq, decide_eq_false_iff_not, beq_eq_false_iff_ne, bne_eq_false_iff_eq, Bool.not_eq_true', Bool.not_eq_false', Bool.not_eq_eq_eq_not, Bool.not_true, Bool.not_false, gt_iff_lt, ge_iff_le, Int.not_lt, Int.not_le] at h1)
  refine wc_skip ?_
  refine wq_seq ?_
  refine wc_seq ?_
  refine wc_region ?_
  refine wl_val (r_move rfl) (ltn rfl) ?_
  obtain ⟨bv, ov, cv, ev⟩ := RdI.posV (hv _ (H)) (by omega)
  cases ev
  refine wl_val (r_index Tryd.underlying39 Tryd.sizeOf5 rfl rfl (by omega)) (ltn rfl) ?_
  refine wl_val (r_load (plain_of Tryd.underlying5 rfl) rfl (RdI.atC 0 (hv _ (H)) (by omega))) (ltn rfl) ?_
  refine wl_val (r_assign rfl) (ltn rfl) ?_
  refine wl_nil ?_
  refine wq_seq ?_
  refine wc_seq ?_
  refine wc_region ?_
  refine wl_val (r_move rfl) (ltn rfl) ?_
  refine wl_val (r_index_arr Tryd.underlying77 Tryd.sizeOf5 rfl rfl (by omega)) (ltn rfl) ?_
  refine wl_val (r_load (plain_of Tryd.underlying5 rfl) rfl (by rw [show 0 + (b.getD 0 0).toNat * 1 = (b.getD 0 0).toNat from by omega]; exact H.cell (hT.first _ (by omega)))) (ltn rfl) ?_
  refine wl_val (r_assign rfl) (ltn rfl) ?_
  refine wl_nil ?_
  refine wq_seq ?_
  refine wc_seq ?_
  refine wc_seq ?_
  refine wc_region ?_
  refine wl_val (r_move rfl) (ltn rfl) ?_
  refine wl_val (r_geq rfl rfl) (ltn rfl) ?_
  refine wl_nil ?_
  refine wq_seq ?_
  refine wc_cond rfl (fun h2 => ?_) (fun h2 => ?_)
  · (try simp only [beq_iff_eq, bne_iff_ne, ne_eq, decide_eq_true_eq, decide_eq_false_iff_not, beq_eq_false_iff_ne, bne_eq_false_iff_eq, Bool.not_eq_true', Bool.not_eq_false', Bool.not_eq_eq_eq_not, Bool.not_true, Bool.not_false, gt_iff_lt, ge_iff_le, Int.not_lt, Int.not_le] at h2)
    
    refine wc_seq ?_
    refine wc_region ?_
    refine wl_val (r_move rfl) (ltn rfl) ?_
    refine wl_val (r_conv_int rfl (by rw [Tryd.underlying5]; rfl) Tryd.underlying21 (fit_i32 (by omega))) (ltn rfl) ?_
    refine wl_val (r_shlK 31 rfl rfl (by decide)) (ltn rfl) ?_
    refine wl_val (r_shrK 31 rfl rfl (by decide)) (ltn rfl) ?_
    refine wl_val (r_assign rfl) (ltn rfl) ?_
    refine wl_nil ?_
    refine wq_seq ?_
    refine wc_seq ?_
    refine wc_region ?_
    refine wl_val (r_move rfl) (ltn rfl) ?_
    refine wl_val (r_index Tryd.underlying39 Tryd.sizeOf5 rfl rfl (by omega)) (ltn rfl) ?_
    refine wl_val (r_load (plain_of Tryd.underlying5 rfl) rfl (RdI.atC 0 (hv _ (H)) (by omega))) (ltn rfl) ?_
    refine wl_val (r_conv_int rfl (by rw [Tryd.underlying5]; rfl) Tryd.underlying21 (fit_i32 (by omega))) (ltn rfl) ?_
    refine wl_val (r_move rfl) (ltn rfl) ?_
    refine wl_val (r_bitsK .andNot rfl rfl (by simp)) (ltn rfl) ?_
    refine wl_val (r_move rfl) (ltn rfl) ?_
    refine wl_val (r_bitsK .and rfl rfl (by simp)) (ltn rfl) ?_
    refine wl_val (r_bitsK .or rfl rfl (by simp)) (ltn rfl) ?_
    refine wl_val (r_assign rfl) (ltn rfl) ?_
    refine wl_val (r_assign rfl) (ltn rfl) ?_
    refine wl_nil ?_
    refine wq_seq ?_
    refine wc_ret ?_
    refine wq_then_ret ?_
    refine wq_end2 (.inl rfl) Tryd.results55 rfl rfl ?_
    rcases hf with ⟨h1, h2⟩ | ⟨h1, h2⟩ | h1
    · rw [h1, decM_ascii hne h2]
      exact ⟨by rw [(low_at y0).1]; rfl, H⟩
    · rw [h1, decM_none h2.1]
      exact ⟨by rw [(low_at y0).2]; rfl, H⟩
    · exfalso; omega
  · (try simp only [beq_iff_eq, bne_iff_ne, ne_eq, decide_eq_true_eq, decide_eq_false_iff_not, beq_eq_false_iff_ne, bne_eq_false_iff_eq, Bool.not_eq_true', Bool.not_eq_false', Bool.not_eq_eq_eq_not, Bool.not_true, Bool.not_false, gt_iff_lt, ge_iff_le, Int.not_lt, Int.not_le] at h2)
    
    refine wc_skip ?_
    refine wq_seq ?_
    refine wc_seq ?_
    have hf2 : 0 ≤ firstM (b.getD 0 0).toNat ∧ firstM (b.getD 0 0).toNat < 240 ∧ firstM (b.getD 0 0).toNat % 8 = (needM (b.getD 0 0) : Int) ∧ 2 ≤ needM (b.getD 0 0) ∧ 128 ≤ b.getD 0 0 ∧ firstM (b.getD 0 0).toNat / 16 < 5 ∧ accL.getD (firstM (b.getD 0 0).toNat / 16).toNat (0, 0) = (lowM (b.getD 0 0), highM (b.getD 0 0)) := by
      rcases hf with h1 | h1 | h1
      · exfalso; have := h1.1; omega
      · exfalso; have := h1.1; omega
      · exact h1
    obtain ⟨q1, q2, q3, q4, q5, q6, q7⟩ := hf2
    have hacc := hT.acc (firstM (b.getD 0 0).toNat / 16).toNat (by omega)
    rw [q7] at hacc
    refine wc_region ?_
    refine wl_val (r_move rfl) (ltn rfl) ?_
    refine wl_val (r_and_u8 3 7 8 (by decide) (by decide) (by decide) rfl rfl (by omega)) (ltn rfl) ?_
    refine wl_val (r_conv_int rfl (by rw [Tryd.underlying5]; rfl) Tryd.underlying3 (fit_i64 (by omega))) (ltn rfl) ?_
    refine wl_val (r_assign rfl) (ltn rfl) ?_
    refine wl_nil ?_
    refine wq_seq ?_
    refine wc_seq ?_
    refine wc_region ?_
    refine wl_val (r_move rfl) (ltn rfl) ?_
    refine wl_val (r_shr 4 16 (by decide) (by decide) rfl rfl) (ltn rfl) ?_
    refine wl_val (r_index_arr Tryd.underlying80 Tryd.sizeOf79 rfl rfl (by omega)) (ltn rfl) ?_
    refine wl_val (r_load_agg (cs := [.int .u8 (lowM (b.getD 0 0)), .int .u8 (highM (b.getD 0 0))]) (by rw [Tryd.underlying79]; rfl) (plain_no Tryd.underlying79 rfl) Tryd.sizeOf79 rfl rfl (two_cells (by rw [Nat.zero_add]; exact H.cell hacc.1) (by rw [Nat.zero_add]; exact H.cell hacc.2))) (ltn rfl) ?_
    refine wl_eff (e_allocL (l := [_, _]) H Tryd.zeroValue79 rfl) (ltn rfl) ?_
    rintro _ w1 ⟨b1, rfl, H1⟩
    refine wl_eff0 (e_storePL 0 (l' := [_, _]) (us := [_, _]) H1 Tryd.sizeOf79 rfl rfl rfl (ones_cons (by first | rfl | assumption) (ones_cons (by first | rfl | assumption) ones_nil)) rfl rfl) ?_
    rintro _ w2 H2
    refine wl_nil ?_
    refine wq_seq ?_
    refine wc_seq ?_
    refine wc_seq ?_
    refine wc_region ?_
    refine wl_val (r_move rfl) (ltn rfl) ?_
    refine wl_val (r_move rfl) (ltn rfl) ?_
    refine wl_val (r_lss rfl rfl) (ltn rfl) ?_
    refine wl_nil ?_
    refine wq_seq ?_
    refine wc_cond rfl (fun h3 => ?_) (fun h3 => ?_)
    · (try simp only [beq_iff_eq, bne_iff_ne, ne_eq, decide_eq_true_eq, decide_eq_false_iff_not, beq_eq_false_iff_ne, bne_eq_false_iff_eq, Bool.not_eq_true', Bool.not_eq_false', Bool.not_eq_eq_eq_not, Bool.not_true, Bool.not_false, gt_iff_lt, ge_iff_le, Int.not_lt, Int.not_le] at h3)
      
      refine wc_seq ?_
      refine wc_region ?_
      refine wl_val (r_assign rfl) (ltn rfl) ?_
      refine wl_val (r_assign rfl) (ltn rfl) ?_
      refine wl_nil ?_
      refine wq_seq ?_
      refine wc_ret ?_
      refine wq_then_ret ?_
      refine wq_end2 (.inl rfl) Tryd.results55 rfl rfl ?_
      exact ⟨by rw [decM_bad (j := b.length) hne (by omega) (okAt_out (Nat.le_refl _) hl)]; rfl, H2.right⟩
    · (try simp only [beq_iff_eq, bne_iff_ne, ne_eq, decide_eq_true_eq, decide_eq_false_iff_not, beq_eq_false_iff_ne, bne_eq_false_iff_eq, Bool.not_eq_true', Bool.not_eq_false', Bool.not_eq_eq_eq_not, Bool.not_true, Bool.not_false, gt_iff_lt, ge_iff_le, Int.not_lt, Int.not_le] at h3)
      
      refine wc_skip ?_
      refine wq_seq ?_
      refine wc_seq ?_
      refine wc_region ?_
      refine wl_val (r_move rfl) (ltn rfl) ?_
      refine wl_val (r_index Tryd.underlying39 Tryd.sizeOf5 rfl rfl (by omega)) (ltn rfl) ?_
      refine wl_val (r_load (plain_of Tryd.underlying5 rfl) rfl (RdI.atC 1 (hv _ (H2.right)) (by omega))) (ltn rfl) ?_
      refine wl_val (r_assign rfl) (ltn rfl) ?_
      refine wl_nil ?_
      refine wq_seq ?_
      refine wc_seq ?_
      refine wc_seq ?_
      refine wc_region ?_
      refine wl_val (r_move rfl) (ltn rfl) ?_
      refine wl_val ((by first | exact r_field0 0 Tryd.underlying79 rfl rfl Tryd.sizeOf5 (by decide) rfl | exact r_field 0 Tryd.underlying79 rfl rfl Tryd.sizeOf5 (by decide) rfl)) (ltn rfl) ?_
      refine wl_val (r_load (plain_of Tryd.underlying5 rfl) rfl (cell_of_blk (H2).get.2 rfl)) (ltn rfl) ?_
      refine wl_val (r_lss rfl rfl) (ltn rfl) ?_
      refine wl_split rfl (ltn rfl) (fun h4 => ?_) (fun h4 => ?_)
      · (try simp only [beq_iff_eq, bne_iff_ne, ne_eq, decide_eq_true_eq, decide_eq_false_iff_not, beq_eq_false_iff_ne, bne_eq_false_iff_eq, Bool.not_eq_true', Bool.not_eq_false', Bool.not_eq_eq_eq_not, Bool.not_true, Bool.not_false, gt_iff_lt, ge_iff_le, Int.not_lt, Int.not_le] at h4)
        refine wl_no rfl rfl rfl (ltn rfl) ?_
        refine wl_no rfl rfl rfl (ltn rfl) ?_
        refine wl_no rfl rfl rfl (ltn rfl) ?_
        refine wl_no rfl rfl rfl (ltn rfl) ?_
        refine wl_val (r_pick_t rfl rfl) (ltn rfl) ?_
        refine wl_nil ?_
        refine wq_seq ?_
        refine wc_cond_t rfl ?_
        refine wc_seq ?_
        refine wc_region ?_
        refine wl_val (r_assign rfl) (ltn rfl) ?_
        refine wl_val (r_assign rfl) (ltn rfl) ?_
        refine wl_nil ?_
        refine wq_seq ?_
        refine wc_ret ?_
        refine wq_then_ret ?_
        refine wq_end2 (.inl rfl) Tryd.results55 rfl rfl ?_
        exact ⟨by rw [decM_bad (j := 1) hne (by omega) (not1 (by omega))]; rfl, H2.right⟩
      · (try simp only [beq_iff_eq, bne_iff_ne, ne_eq, decide_eq_true_eq, decide_eq_false_iff_not, beq_eq_false_iff_ne, bne_eq_false_iff_eq, Bool.not_eq_true', Bool.not_eq_false', Bool.not_eq_eq_eq_not, Bool.not_true, Bool.not_false, gt_iff_lt, ge_iff_le, Int.not_lt, Int.not_le] at h4)
        refine wl_yes rfl rfl ?_
        refine wl_val ((by first | exact r_field0 1 Tryd.underlying79 rfl rfl Tryd.sizeOf5 (by decide) rfl | exact r_field 1 Tryd.underlying79 rfl rfl Tryd.sizeOf5 (by decide) rfl)) (ltn rfl) ?_
        refine wl_yes rfl rfl ?_
        refine wl_val (r_load (plain_of Tryd.underlying5 rfl) rfl (cell_of_blk (H2).get.2 rfl)) (ltn rfl) ?_
        refine wl_yes rfl rfl ?_
        refine wl_val (r_move rfl) (ltn rfl) ?_
        refine wl_yes rfl rfl ?_
        refine wl_val (r_lss rfl rfl) (ltn rfl) ?_
        refine wl_val (r_pick_f rfl rfl) (ltn rfl) ?_
        refine wl_nil ?_
        refine wq_seq ?_
        refine wc_cond rfl (fun h5 => ?_) (fun h5 => ?_)
        · (try simp only [beq_iff_eq, bne_iff_ne, ne_eq, decide_eq_true_eq, decide_eq_false_iff_not, beq_eq_false_iff_ne, bne_eq_false_iff_eq, Bool.not_eq_true', Bool.not_eq_false', Bool.not_eq_eq_eq_not, Bool.not_true, Bool.not_false, gt_iff_lt, ge_iff_le, Int.not_lt, Int.not_le] at h5)
          
          refine wc_seq ?_
          refine wc_region ?_
          refine wl_val (r_assign rfl) (ltn rfl) ?_
          refine wl_val (r_assign rfl) (ltn rfl) ?_
          refine wl_nil ?_
          refine wq_seq ?_
          refine wc_ret ?_
          refine wq_then_ret ?_
          refine wq_end2 (.inl rfl) Tryd.results55 rfl rfl ?_
          exact ⟨by rw [decM_bad (j := 1) hne (by omega) (not1 (by omega))]; rfl, H2.right⟩
        · (try simp only [beq_iff_eq, bne_iff_ne, ne_eq, decide_eq_true_eq, decide_eq_false_iff_not, beq_eq_false_iff_ne, bne_eq_false_iff_eq, Bool.not_eq_true', Bool.not_eq_false', Bool.not_eq_eq_eq_not, Bool.not_true, Bool.not_false, gt_iff_lt, ge_iff_le, Int.not_lt, Int.not_le] at h5)
          
          refine wc_skip ?_
          refine wq_seq ?_
          refine wc_seq ?_
          refine wc_seq ?_
          refine wc_region ?_
          refine wl_val (r_move rfl) (ltn rfl) ?_
          refine wl_val (r_leq rfl rfl) (ltn rfl) ?_
          refine wl_nil ?_
          refine wq_seq ?_
          refine wc_cond rfl (fun h6 => ?_) (fun h6 => ?_)
          · (try simp only [beq_iff_eq, bne_iff_ne, ne_eq, decide_eq_true_eq, decide_eq_false_iff_not, beq_eq_false_iff_ne, bne_eq_false_iff_eq, Bool.not_eq_true', Bool.not_eq_false', Bool.not_eq_eq_eq_not, Bool.not_true, Bool.not_false, gt_iff_lt, ge_iff_le, Int.not_lt, Int.not_le] at h6)
            
            refine wc_seq ?_
            refine wc_region ?_
            refine wl_val (r_move rfl) (ltn rfl) ?_
            refine wl_val (r_and_u8 5 31 32 (by decide) (by decide) (by decide) rfl rfl (by omega)) (ltn rfl) ?_
            refine wl_val (r_conv_int rfl (by rw [Tryd.underlying5]; rfl) Tryd.underlying21 (fit_i32 (by omega))) (ltn rfl) ?_
            refine wl_val (r_shl 6 64 (by decide) (by decide) rfl rfl (fit_i32 (by omega))) (ltn rfl) ?_
            refine wl_val (r_move rfl) (ltn rfl) ?_
            refine wl_val (r_and_u8 6 63 64 (by decide) (by decide) (by decide) rfl rfl (by omega)) (ltn rfl) ?_
            refine wl_val (r_conv_int rfl (by rw [Tryd.underlying5]; rfl) Tryd.underlying21 (fit_i32 (by omega))) (ltn rfl) ?_
            refine wl_val (r_or_i32 6 64 (by decide) rfl rfl (by omega)) (ltn rfl) ?_
            refine wl_val (r_assign rfl) (ltn rfl) ?_
            refine wl_val (r_assign rfl) (ltn rfl) ?_
            refine wl_nil ?_
            refine wq_seq ?_
            refine wc_ret ?_
            refine wq_then_ret ?_
            refine wq_end2 (.inl rfl) Tryd.results55 rfl rfl ?_
            exact ⟨by rw [decM_good (n := 2) hne (by omega) (by decide) (by omega) (by simp only [goodB, ok0, ok1 (b := b) (by omega) (by omega), Bool.and_true])]; rfl, H2.right⟩
          · (try simp only [beq_iff_eq, bne_iff_ne, ne_eq, decide_eq_true_eq, decide_eq_false_iff_not, beq_eq_false_iff_ne, bne_eq_false_iff_eq, Bool.not_eq_true', Bool.not_eq_false', Bool.not_eq_eq_eq_not, Bool.not_true, Bool.not_false, gt_iff_lt, ge_iff_le, Int.not_lt, Int.not_le] at h6)
            
            refine wc_skip ?_
            refine wq_seq ?_
            refine wc_seq ?_
            refine wc_region ?_
            refine wl_val (r_move rfl) (ltn rfl) ?_
            refine wl_val (r_index Tryd.underlying39 Tryd.sizeOf5 rfl rfl (by omega)) (ltn rfl) ?_
            refine wl_val (r_load (plain_of Tryd.underlying5 rfl) rfl (RdI.atC 2 (hv _ (H2.right)) (by omega))) (ltn rfl) ?_
            refine wl_val (r_assign rfl) (ltn rfl) ?_
            refine wl_nil ?_
            refine wq_seq ?_
            refine wc_seq ?_
            refine wc_seq ?_
            refine wc_region ?_
            refine wl_val (r_move rfl) (ltn rfl) ?_
            refine wl_val (r_lss rfl rfl) (ltn rfl) ?_
            refine wl_split rfl (ltn rfl) (fun h7 => ?_) (fun h7 => ?_)
            · (try simp only [beq_iff_eq, bne_iff_ne, ne_eq, decide_eq_true_eq, decide_eq_false_iff_not, beq_eq_false_iff_ne, bne_eq_false_iff_eq, Bool.not_eq_true', Bool.not_eq_false', Bool.not_eq_eq_eq_not, Bool.not_true, Bool.not_false, gt_iff_lt, ge_iff_le, Int.not_lt, Int.not_le] at h7)
              refine wl_no rfl rfl rfl (ltn rfl) ?_
              refine wl_no rfl rfl rfl (ltn rfl) ?_
              refine wl_val (r_pick_t rfl rfl) (ltn rfl) ?_
              refine wl_nil ?_
              refine wq_seq ?_
              refine wc_cond_t rfl ?_
              refine wc_seq ?_
              refine wc_region ?_
              refine wl_val (r_assign rfl) (ltn rfl) ?_
              refine wl_val (r_assign rfl) (ltn rfl) ?_
              refine wl_nil ?_
              refine wq_seq ?_
              refine wc_ret ?_
              refine wq_then_ret ?_
              refine wq_end2 (.inl rfl) Tryd.results55 rfl rfl ?_
              exact ⟨by rw [decM_bad (j := 2) hne (by omega) (notj (by decide) (by omega))]; rfl, H2.right⟩
            · (try simp only [beq_iff_eq, bne_iff_ne, ne_eq, decide_eq_true_eq, decide_eq_false_iff_not, beq_eq_false_iff_ne, bne_eq_false_iff_eq, Bool.not_eq_true', Bool.not_eq_false', Bool.not_eq_eq_eq_not, Bool.not_true, Bool.not_false, gt_iff_lt, ge_iff_le, Int.not_lt, Int.not_le] at h7)
              refine wl_yes rfl rfl ?_
              refine wl_val (r_move rfl) (ltn rfl) ?_
              refine wl_yes rfl rfl ?_
              refine wl_val (r_lss rfl rfl) (ltn rfl) ?_
              refine wl_val (r_pick_f rfl rfl) (ltn rfl) ?_
              refine wl_nil ?_
              refine wq_seq ?_
              refine wc_cond rfl (fun h8 => ?_) (fun h8 => ?_)
              · (try simp only [beq_iff_eq, bne_iff_ne, ne_eq, decide_eq_true_eq, decide_eq_false_iff_not, beq_eq_false_iff_ne, bne_eq_false_iff_eq, Bool.not_eq_true', Bool.not_eq_false', Bool.not_eq_eq_eq_not, Bool.not_true, Bool.not_false, gt_iff_lt, ge_iff_le, Int.not_lt, Int.not_le] at h8)
                
                refine wc_seq ?_
                refine wc_region ?_
                refine wl_val (r_assign rfl) (ltn rfl) ?_
                refine wl_val (r_assign rfl) (ltn rfl) ?_
                refine wl_nil ?_
                refine wq_seq ?_
                refine wc_ret ?_
                refine wq_then_ret ?_
                refine wq_end2 (.inl rfl) Tryd.results55 rfl rfl ?_
                exact ⟨by rw [decM_bad (j := 2) hne (by omega) (notj (by decide) (by omega))]; rfl, H2.right⟩
              · (try simp only [beq_iff_eq, bne_iff_ne, ne_eq, decide_eq_true_eq, decide_eq_false_iff_not, beq_eq_false_iff_ne, bne_eq_false_iff_eq, Bool.not_eq_true', Bool.not_eq_false', Bool.not_eq_eq_eq_not, Bool.not_true, Bool.not_false, gt_iff_lt, ge_iff_le, Int.not_lt, Int.not_le] at h8)
                
                refine wc_skip ?_
                refine wq_seq ?_
                refine wc_seq ?_
                refine wc_seq ?_
                refine wc_region ?_
                refine wl_val (r_move rfl) (ltn rfl) ?_
                refine wl_val (r_leq rfl rfl) (ltn rfl) ?_
                refine wl_nil ?_
                refine wq_seq ?_
                refine wc_cond rfl (fun h9 => ?_) (fun h9 => ?_)
                · (try simp only [beq_iff_eq, bne_iff_ne, ne_eq, decide_eq_true_eq, decide_eq_false_iff_not, beq_eq_false_iff_ne, bne_eq_false_iff_eq, Bool.not_eq_true', Bool.not_eq_false', Bool.not_eq_eq_eq_not, Bool.not_true, Bool.not_false, gt_iff_lt, ge_iff_le, Int.not_lt, Int.not_le] at h9)
                  
                  refine wc_seq ?_
                  refine wc_region ?_
                  refine wl_val (r_move rfl) (ltn rfl) ?_
                  refine wl_val (r_and_u8 4 15 16 (by decide) (by decide) (by decide) rfl rfl (by omega)) (ltn rfl) ?_
                  refine wl_val (r_conv_int rfl (by rw [Tryd.underlying5]; rfl) Tryd.underlying21 (fit_i32 (by omega))) (ltn rfl) ?_
                  refine wl_val (r_shl 12 4096 (by decide) (by decide) rfl rfl (fit_i32 (by omega))) (ltn rfl) ?_
                  refine wl_val (r_move rfl) (ltn rfl) ?_
                  refine wl_val (r_and_u8 6 63 64 (by decide) (by decide) (by decide) rfl rfl (by omega)) (ltn rfl) ?_
                  refine wl_val (r_conv_int rfl (by rw [Tryd.underlying5]; rfl) Tryd.underlying21 (fit_i32 (by omega))) (ltn rfl) ?_
                  refine wl_val (r_shl 6 64 (by decide) (by decide) rfl rfl (fit_i32 (by omega))) (ltn rfl) ?_
                  refine wl_val (r_or_i32 12 4096 (by decide) rfl rfl (by omega)) (ltn rfl) ?_
                  refine wl_val (r_move rfl) (ltn rfl) ?_
                  refine wl_val (r_and_u8 6 63 64 (by decide) (by decide) (by decide) rfl rfl (by omega)) (ltn rfl) ?_
                  refine wl_val (r_conv_int rfl (by rw [Tryd.underlying5]; rfl) Tryd.underlying21 (fit_i32 (by omega))) (ltn rfl) ?_
                  refine wl_val (r_or_i32 6 64 (by decide) rfl rfl (by omega)) (ltn rfl) ?_
                  refine wl_val (r_assign rfl) (ltn rfl) ?_
                  refine wl_val (r_assign rfl) (ltn rfl) ?_
                  refine wl_nil ?_
                  refine wq_seq ?_
                  refine wc_ret ?_
                  refine wq_then_ret ?_
                  refine wq_end2 (.inl rfl) Tryd.results55 rfl rfl ?_
                  exact ⟨by rw [decM_good (n := 3) hne (by omega) (by decide) (by omega) (by simp only [goodB, ok0, ok1 (b := b) (by omega) (by omega), okj (b := b) (j := 2) (by decide) (by omega), Bool.and_true])]; rfl, H2.right⟩
                · (try simp only [beq_iff_eq, bne_iff_ne, ne_eq, decide_eq_true_eq, decide_eq_false_iff_not, beq_eq_false_iff_ne, bne_eq_false_iff_eq, Bool.not_eq_true', Bool.not_eq_false', Bool.not_eq_eq_eq_not, Bool.not_true, Bool.not_false, gt_iff_lt, ge_iff_le, Int.not_lt, Int.not_le] at h9)
                  
                  refine wc_skip ?_
                  refine wq_seq ?_
                  refine wc_seq ?_
                  refine wc_region ?_
                  refine wl_val (r_move rfl) (ltn rfl) ?_
                  refine wl_val (r_index Tryd.underlying39 Tryd.sizeOf5 rfl rfl (by omega)) (ltn rfl) ?_
                  refine wl_val (r_load (plain_of Tryd.underlying5 rfl) rfl (RdI.atC 3 (hv _ (H2.right)) (by omega))) (ltn rfl) ?_
                  refine wl_val (r_assign rfl) (ltn rfl) ?_
                  refine wl_nil ?_
                  refine wq_seq ?_
                  refine wc_seq ?_
                  refine wc_seq ?_
                  refine wc_region ?_
                  refine wl_val (r_move rfl) (ltn rfl) ?_
                  refine wl_val (r_lss rfl rfl) (ltn rfl) ?_
                  refine wl_split rfl (ltn rfl) (fun h10 => ?_) (fun h10 => ?_)
                  · (try simp only [beq_iff_eq, bne_iff_ne, ne_eq, decide_eq_true_eq, decide_eq_false_iff_not, beq_eq_false_iff_ne, bne_eq_false_iff_eq, Bool.not_eq_true', Bool.not_eq_false', Bool.not_eq_eq_eq_not, Bool.not_true, Bool.not_false, gt_iff_lt, ge_iff_le, Int.not_lt, Int.not_le] at h10)
                    refine wl_no rfl rfl rfl (ltn rfl) ?_
                    refine wl_no rfl rfl rfl (ltn rfl) ?_
                    refine wl_val (r_pick_t rfl rfl) (ltn rfl) ?_
                    refine wl_nil ?_
                    refine wq_seq ?_
                    refine wc_cond_t rfl ?_
                    refine wc_seq ?_
                    refine wc_region ?_
                    refine wl_val (r_assign rfl) (ltn rfl) ?_
                    refine wl_val (r_assign rfl) (ltn rfl) ?_
                    refine wl_nil ?_
                    refine wq_seq ?_
                    refine wc_ret ?_
                    refine wq_then_ret ?_
                    refine wq_end2 (.inl rfl) Tryd.results55 rfl rfl ?_
                    exact ⟨by rw [decM_bad (j := 3) hne (by omega) (notj (by decide) (by omega))]; rfl, H2.right⟩
                  · (try simp only [beq_iff_eq, bne_iff_ne, ne_eq, decide_eq_true_eq, decide_eq_false_iff_not, beq_eq_false_iff_ne, bne_eq_false_iff_eq, Bool.not_eq_true', Bool.not_eq_false', Bool.not_eq_eq_eq_not, Bool.not_true, Bool.not_false, gt_iff_lt, ge_iff_le, Int.not_lt, Int.not_le] at h10)
                    refine wl_yes rfl rfl ?_
                    refine wl_val (r_move rfl) (ltn rfl) ?_
                    refine wl_yes rfl rfl ?_
                    refine wl_val (r_lss rfl rfl) (ltn rfl) ?_
                    refine wl_val (r_pick_f rfl rfl) (ltn rfl) ?_
                    refine wl_nil ?_
                    refine wq_seq ?_
                    refine wc_cond rfl (fun h11 => ?_) (fun h11 => ?_)
                    · (try simp only [beq_iff_eq, bne_iff_ne, ne_eq, decide_eq_true_eq, decide_eq_false_iff_not, beq_eq_false_iff_ne, bne_eq_false_iff_eq, Bool.not_eq_true', Bool.not_eq_false', Bool.not_eq_eq_eq_not, Bool.not_true, Bool.not_false, gt_iff_lt, ge_iff_le, Int.not_lt, Int.not_le] at h11)
                      
                      refine wc_seq ?_
                      refine wc_region ?_
                      refine wl_val (r_assign rfl) (ltn rfl) ?_
                      refine wl_val (r_assign rfl) (ltn rfl) ?_
                      refine wl_nil ?_
                      refine wq_seq ?_
                      refine wc_ret ?_
                      refine wq_then_ret ?_
                      refine wq_end2 (.inl rfl) Tryd.results55 rfl rfl ?_
                      exact ⟨by rw [decM_bad (j := 3) hne (by omega) (notj (by decide) (by omega))]; rfl, H2.right⟩
                    · (try simp only [beq_iff_eq, bne_iff_ne, ne_eq, decide_eq_true_eq, decide_eq_false_iff_not, beq_eq_false_iff_ne, bne_eq_false_iff_eq, Bool.not_eq_true', Bool.not_eq_false', Bool.not_eq_eq_eq_not, Bool.not_true, Bool.not_false, gt_iff_lt, ge_iff_le, Int.not_lt, Int.not_le] at h11)
                      
                      refine wc_skip ?_
                      refine wq_seq ?_
                      refine wc_seq ?_
                      refine wc_region ?_
                      refine wl_val (r_move rfl) (ltn rfl) ?_
                      refine wl_val (r_and_u8 3 7 8 (by decide) (by decide) (by decide) rfl rfl (by omega)) (ltn rfl) ?_
                      refine wl_val (r_conv_int rfl (by rw [Tryd.underlying5]; rfl) Tryd.underlying21 (fit_i32 (by omega))) (ltn rfl) ?_
                      refine wl_val (r_shl 18 262144 (by decide) (by decide) rfl rfl (fit_i32 (by omega))) (ltn rfl) ?_
                      refine wl_val (r_move rfl) (ltn rfl) ?_
                      refine wl_val (r_and_u8 6 63 64 (by decide) (by decide) (by decide) rfl rfl (by omega)) (ltn rfl) ?_
                      refine wl_val (r_conv_int rfl (by rw [Tryd.underlying5]; rfl) Tryd.underlying21 (fit_i32 (by omega))) (ltn rfl) ?_
                      refine wl_val (r_shl 12 4096 (by decide) (by decide) rfl rfl (fit_i32 (by omega))) (ltn rfl) ?_
                      refine wl_val (r_or_i32 18 262144 (by decide) rfl rfl (by omega)) (ltn rfl) ?_
                      refine wl_val (r_move rfl) (ltn rfl) ?_
                      refine wl_val (r_and_u8 6 63 64 (by decide) (by decide) (by decide) rfl rfl (by omega)) (ltn rfl) ?_
                      refine wl_val (r_conv_int rfl (by rw [Tryd.underlying5]; rfl) Tryd.underlying21 (fit_i32 (by omega))) (ltn rfl) ?_
                      refine wl_val (r_shl 6 64 (by decide) (by decide) rfl rfl (fit_i32 (by omega))) (ltn rfl) ?_
                      refine wl_val (r_or_i32 12 4096 (by decide) rfl rfl (by omega)) (ltn rfl) ?_
                      refine wl_val (r_move rfl) (ltn rfl) ?_
                      refine wl_val (r_and_u8 6 63 64 (by decide) (by decide) (by decide) rfl rfl (by omega)) (ltn rfl) ?_
                      refine wl_val (r_conv_int rfl (by rw [Tryd.underlying5]; rfl) Tryd.underlying21 (fit_i32 (by omega))) (ltn rfl) ?_
                      refine wl_val (r_or_i32 6 64 (by decide) rfl rfl (by omega)) (ltn rfl) ?_
                      refine wl_val (r_assign rfl) (ltn rfl) ?_
                      refine wl_val (r_assign rfl) (ltn rfl) ?_
                      refine wl_nil ?_
                      refine wq_seq ?_
                      refine wc_ret ?_
                      refine wq_end2 (.inl rfl) Tryd.results55 rfl rfl ?_
                      exact ⟨by rw [decM_good (n := 4) hne (by omega) (by decide) (by omega) (by simp only [goodB, ok0, ok1 (b := b) (by omega) (by omega), okj (b := b) (j := 2) (by decide) (by omega), okj (b := b) (j := 3) (by decide) (by omega), Bool.and_true])]; rfl, H2.right⟩
end
end Go.Proofs.YtmkmffoadapmnaaDoor
