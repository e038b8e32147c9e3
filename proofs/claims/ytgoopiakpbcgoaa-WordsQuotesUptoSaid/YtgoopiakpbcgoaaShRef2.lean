/- The document's Quote, Strip; words joined; walked. -/
import Derived.Test.YtgoopiakpbcgoaaShRef
import Derived.Test.YtgoopiakpbcgoaaShQ
set_option linter.unusedSimpArgs false
set_option linter.unusedVariables false
namespace Go.Proofs.Ytgoopiakpbcgoaa
open Go.RowKit Go.Lib
theorem in4 {c : Int} : c ∈ sbs ⟨#[92, 34, 36, 96]⟩ ↔ (c = 92 ∨ c = 34 ∨ c = 36 ∨ c = 96) := by
  rw [show sbs ⟨#[92, 34, 36, 96]⟩ = [92, 34, 36, 96] from by decide]; simp
theorem in2 {c : Int} : c ∈ sbs ⟨#[92, 96]⟩ ↔ (c = 92 ∨ c = 96) := by
  rw [show sbs ⟨#[92, 96]⟩ = [92, 96] from by decide]; simp
theorem in14 {c : Int} : c ∈ sbs ⟨#[92, 36, 42, 63, 91, 93, 35, 126, 61, 37, 33, 123, 125, 64]⟩ ↔ (c = 92 ∨ c = 36 ∨ c = 42 ∨ c = 63 ∨ c = 91 ∨ c = 93 ∨ c = 35 ∨ c = 126 ∨ c = 61 ∨ c = 37 ∨ c = 33 ∨ c = 123 ∨ c = 125 ∨ c = 64) := by
  rw [show sbs ⟨#[92, 36, 42, 63, 91, 93, 35, 126, 61, 37, 33, 123, 125, 64]⟩ = [92, 36, 42, 63, 91, 93, 35, 126, 61, 37, 33, 123, 125, 64] from by decide]; simp
theorem bk_blank {c : Int} (h : blankS c = true) : backS c = true := by unfold blankS at h; unfold backS; rw [decide_eq_true_eq] at *; omega
theorem bk_op {c : Int} (h : operS c = true) : backS c = true := by unfold operS at h; unfold backS; rw [decide_eq_true_eq] at *; omega
theorem bk_in {c : Int} (h : c ∈ sbs ⟨#[92, 36, 42, 63, 91, 93, 35, 126, 61, 37, 33, 123, 125, 64]⟩) : backS c = true := by rw [in14] at h; unfold backS; rw [decide_eq_true_eq]; omega
theorem bk_is {c : Int} (h : c = 39 ∨ c = 34 ∨ c = 96) : backS c = true := by unfold backS; rw [decide_eq_true_eq]; omega
theorem bk_not {c : Int} (h1 : blankS c = false) (h2 : operS c = false) (h3 : ¬ c = 39) (h4 : ¬ c = 34) (h5 : ¬ c = 96) (h6 : ¬ c ∈ sbs ⟨#[92, 36, 42, 63, 91, 93, 35, 126, 61, 37, 33, 123, 125, 64]⟩) : ¬ backS c = true := by
  rw [in14] at h6; unfold blankS at h1; unfold operS at h2; unfold backS
  rw [decide_eq_false_iff_not] at h1 h2; rw [decide_eq_true_eq]; omega
/-- What the document's Strip knows. -/
structure SR (l : List Int) (k : Nat) (sv : Int) (out : List Int) : Prop where
  le : k ≤ l.length
  q : (stS l k).1 = sv
  b : k < l.length → (stS l k).2 = false
  strip : out ++ stripR (stS l k) (l.drop k) = stripS l
  len : out.length ≤ k
section
variable {l : List Int} {k : Nat} {sv : Int} {out : List Int}
theorem SR.st (h : SR l k sv out) (hk : k < l.length) : stS l k = (sv, false) := Prod.ext h.q (h.b hk)
theorem SR.set (h : SR l k sv out) : sv = 0 ∨ sv = 39 ∨ sv = 34 ∨ sv = 96 := by have := stS_set l k; rw [h.q] at this; exact this
theorem sr_zero : SR l 0 0 [] := ⟨Nat.zero_le _, by rw [stS_zero], fun _ => by rw [stS_zero], by rw [stS_zero]; rfl, Nat.le_refl _⟩
theorem SR.next {q : Int} {p : List Int} (h : SR l k sv out) (hk : k < l.length) (hn : nextS (sv, false) (l.getD k 0) = (q, false)) (hp : pieceS (sv, false) (l.getD k 0) (l.drop (k + 1)) = p) (hp1 : p.length ≤ 1) : SR l (k + 1) q (out ++ p) := by
  have e := h.st hk
  have e1 : stS l (k + 1) = (q, false) := by rw [stS_succ hk, e, hn]
  refine ⟨hk, by rw [e1], fun _ => by rw [e1], ?_, by have := h.len; rw [List.length_append]; omega⟩
  rw [← h.strip, strip_step hk, e, hp, List.append_assoc]
theorem sr_end (h : SR l k sv out) (hk : k < l.length) (h0 : ¬ sv = 0) (hc : l.getD k 0 = sv) : SR l (k + 1) 0 out := by
  have hq := h.set
  have hn : nextS (sv, false) (l.getD k 0) = (0, false) := by
    unfold nextS; rw [if_neg Bool.false_ne_true, if_neg (by dsimp only; omega), if_neg (by dsimp only; omega), if_pos ⟨h0, hc⟩]
  have := h.next hk hn (p_turn rfl (by rw [hn]) (by rw [hn]; exact fun q => h0 q.symm)) (by simp)
  rwa [List.append_nil] at this
theorem sr_open (h : SR l k sv out) (hk : k < l.length) (h0 : sv = 0) (hc : l.getD k 0 = 39 ∨ l.getD k 0 = 34 ∨ l.getD k 0 = 96) : SR l (k + 1) (l.getD k 0) out := by
  subst h0
  have hn : nextS (0, false) (l.getD k 0) = (l.getD k 0, false) := by
    unfold nextS; rw [if_neg Bool.false_ne_true, if_neg (by dsimp only; omega), if_pos ⟨rfl, hc⟩]
  have := h.next hk hn (p_turn rfl (by rw [hn]) (by rw [hn]; dsimp only; omega)) (by simp)
  rwa [List.append_nil] at this
theorem sr_stay (h : SR l k sv out) (hk : k < l.length) (h1 : ¬ (¬ sv = 0 ∧ l.getD k 0 = sv)) (h2 : ¬ (¬ sv = 39 ∧ l.getD k 0 = 92)) (h3 : ¬ (sv = 0 ∧ (l.getD k 0 = 39 ∨ l.getD k 0 = 34 ∨ l.getD k 0 = 96))) : SR l (k + 1) sv (out ++ [l.getD k 0]) := by
  have hn : nextS (sv, false) (l.getD k 0) = (sv, false) := by
    unfold nextS; rw [if_neg Bool.false_ne_true, if_neg (fun q => h2 ⟨q.2, q.1⟩), if_neg h3, if_neg h1]
  exact h.next hk hn (p_stay rfl (by rw [hn]) (by rw [hn])) (by simp)
theorem SR.esc (h : SR l k sv out) (hk : k < l.length) (h1 : ¬ sv = 39) (hc : l.getD k 0 = 92) : nextS (sv, false) (l.getD k 0) = (sv, true) := by
  rw [hc]; unfold nextS; rw [if_neg Bool.false_ne_true, if_pos ⟨rfl, h1⟩]
theorem SR.esc2 {p : List Int} (h : SR l k sv out) (hk : k + 1 < l.length) (h1 : ¬ sv = 39) (hc : l.getD k 0 = 92) (hp : pieceS (sv, false) (l.getD k 0) (l.drop (k + 1)) = p) (hp1 : p.length ≤ 1) : SR l (k + 1 + 1) sv ((out ++ p) ++ [l.getD (k + 1) 0]) := by
  have e := h.st (by omega)
  have hn := h.esc (by omega) h1 hc
  have e1 : stS l (k + 1) = (sv, true) := by rw [stS_succ (by omega), e, hn]
  have e2 : stS l (k + 1 + 1) = (sv, false) := by rw [stS_succ hk, e1]; rfl
  refine ⟨by omega, by rw [e2], fun _ => by rw [e2], ?_, by have := h.len; simp only [List.length_append, List.length_singleton]; omega⟩
  rw [← h.strip, strip_step (k := k) (by omega), e, hp, strip_step (k := k + 1) hk, e1, p_back rfl]
  simp only [List.append_assoc]
theorem sr_back1 (h : SR l k sv out) (hk : k + 1 < l.length) (h1 : ¬ sv = 39) (hc : l.getD k 0 = 92) (h0 : ¬ sv = 0) (hg : goesL sv (l.drop (k + 1)) = false) : SR l (k + 1 + 1) sv ((out ++ [l.getD k 0]) ++ [l.getD (k + 1) 0]) :=
  h.esc2 hk h1 hc (p_esc1 rfl (by rw [h.esc (by omega) h1 hc]) h0 hg) (by simp)
theorem sr_back0 (h : SR l k sv out) (hk : k + 1 < l.length) (h1 : ¬ sv = 39) (hc : l.getD k 0 = 92) (hg : sv = 0 ∨ goesL sv (l.drop (k + 1)) = true) : SR l (k + 1 + 1) sv (out ++ [l.getD (k + 1) 0]) := by
  have hp : pieceS (sv, false) (l.getD k 0) (l.drop (k + 1)) = [] := by
    rcases hg with hg | hg
    · exact p_esc0 rfl (by rw [h.esc (by omega) h1 hc]) hg
    · exact p_esc2 rfl (by rw [h.esc (by omega) h1 hc]) hg
  have := h.esc2 hk h1 hc hp (by simp)
  rwa [List.append_nil] at this
theorem sr_last (h : SR l k sv out) (hk : k < l.length) (hk1 : ¬ k + 1 < l.length) (h1 : ¬ sv = 39) (hc : l.getD k 0 = 92) : SR l (k + 1) sv out := by
  have e := h.st hk
  have hn := h.esc hk h1 hc
  have e1 : stS l (k + 1) = (sv, true) := by rw [stS_succ hk, e, hn]
  have hd : l.drop (k + 1) = [] := List.drop_eq_nil_of_le (by omega)
  have hp : pieceS (sv, false) (l.getD k 0) (l.drop (k + 1)) = [] := p_esc2 rfl (by rw [hn]) (by rw [hd]; rfl)
  refine ⟨hk, by rw [e1], fun q => absurd q hk1, ?_, by have := h.len; omega⟩
  rw [← h.strip, strip_step hk, e, hp, List.nil_append]
theorem goes34 (hk : k < l.length) : goesL 34 (l.drop k) = decide (l.getD k 0 = 92 ∨ l.getD k 0 = 34 ∨ l.getD k 0 = 36 ∨ l.getD k 0 = 96) := by
  rw [drop_at hk]; show (if (34 : Int) = 96 then decide (l.getD k 0 = 92 ∨ l.getD k 0 = 96) else decide (l.getD k 0 = 92 ∨ l.getD k 0 = 34 ∨ l.getD k 0 = 36 ∨ l.getD k 0 = 96)) = _; rw [if_neg (by decide)]
theorem goes96 (hk : k < l.length) : goesL 96 (l.drop k) = decide (l.getD k 0 = 92 ∨ l.getD k 0 = 96) := by
  rw [drop_at hk]; show (if (96 : Int) = 96 then decide (l.getD k 0 = 92 ∨ l.getD k 0 = 96) else decide (l.getD k 0 = 92 ∨ l.getD k 0 = 34 ∨ l.getD k 0 = 36 ∨ l.getD k 0 = 96)) = _; rw [if_pos rfl]
end
set_option maxHeartbeats 2000000
section
variable {w0 w : World} {F : HP} {v u : Value} {l : List Int} {st : Int}
theorem ref_quote_ret (H : Holds w0 w F) (hv : FRdI w0 F .i32 v l) (hL : l.length ≤ 4294967296) : Ret Try.prog 19 #[v, .int .i64 st] w fun v' w' => ∃ u, v' = .tuple #[u, .int .i64 (quoteE st l)] ∧ Holds w0 w' (RowI 21 .i32 u (quoteR st l) • F) := by
  refine ret_enter Try.func19 rfl Try.ntmps19 (Nat.le_of_ble_eq_true rfl) ?_
  dsimp only [slots0, Nat.reduceAdd]
  refine wc_seq ?_
  refine wc_region ?_
  refine wl_val (r_assign rfl) (ltn rfl) ?_
  refine wl_val (r_assign rfl) (ltn rfl) ?_
  refine wl_nil ?_
  refine wq_seq ?_
  refine wc_seq ?_
  refine wc_region ?_
  refine wl_val (r_assign rfl) (ltn rfl) ?_
  refine wl_nil ?_
  refine wq_seq ?_
  refine wc_seq ?_
  refine wc_seq ?_
  refine wc_region ?_
  refine wl_val (r_move rfl) (ltn rfl) ?_
  refine wl_nil ?_
  refine wq_seq ?_
  refine wc_block ?_
  refine wc_seq ?_
  refine wc_region ?_
  refine wl_val (r_eql rfl rfl) (ltn rfl) ?_
  refine wl_val (r_assign rfl) (ltn rfl) ?_
  refine wl_nil ?_
  refine wq_seq ?_
  refine wc_cond rfl (fun h1 => ?_) (fun h1 => ?_)
  · (try simp only [beq_iff_eq, bne_iff_ne, ne_eq, decide_eq_true_eq, decide_eq_false_iff_not, beq_eq_false_iff_ne, bne_eq_false_iff_eq, Bool.not_eq_true', Bool.not_eq_false', Bool.not_eq_eq_eq_not, Bool.not_true, Bool.not_false, gt_iff_lt, ge_iff_le, Int.not_lt, Int.not_le] at h1)
    
    refine wc_seq ?_
    refine wc_region ?_
    refine wl_val (r_move rfl) (ltn rfl) ?_
    refine wl_eff (e_lit_ints (k := .i32) (l := [39]) H Try.underlying22 Try.sizeOf21 Try.zeroValue21 rfl rfl rfl (by decide)) (ltn rfl) ?_
    rintro l1 w1 H1
    refine wl_eff (e_append_ints (l := []) (H1.row_nil none) ((H1).row_rd) Try.underlying22 (show (Try.prog.info? 21).map (fun i => (i.zero, i.size, i.bytes)) = some (some (.int .i32 0), 1, 4) by kernel_rfl) rfl rfl (by first | omega | (simp only [List.length_append, List.length_nil, List.length_cons]; omega) | (simp; omega)) (by first | omega | (simp only [List.length_append, List.length_nil, List.length_cons]; omega) | (simp; omega))) (ltn rfl) ?_
    rintro l2 w2 H2
    try simp only [List.nil_append] at H2
    refine wl_val (r_assign rfl) (ltn rfl) ?_
    refine wl_nil ?_
    refine wq_seq ?_
    refine wc_seq ?_
    refine wc_seq ?_
    refine wc_region ?_
    refine wl_val (r_assign rfl) (ltn rfl) ?_
    refine wl_nil ?_
    refine wq_seq ?_
    refine wc_block ?_
    refine wc_loop [(0, _)] (fun (⟨k, u⟩ : Nat × Value) => [(7, .int .i64 (k : Int)), (6, u)]) (fun (⟨k, u⟩ : Nat × Value) W => ∃ out, (k ≤ l.length ∧ out = 39 :: (l.take k).flatMap enc1) ∧ Holds w0 W (RowI 21 .i32 u out • F)) (fun (⟨k, u⟩ : Nat × Value) => l.length - k) ((0, l2)) (Sub.cons rfl (Sub.nil _)) (Sub.cons rfl (Sub.cons rfl (Sub.nil _))) ⟨_, ⟨by omega, rfl⟩, H2.f2.right⟩ ?_
    rintro ⟨k, u⟩ w3 ⟨out, ⟨hk, hout⟩, HL⟩
    dsimp only [List.cons_append, List.nil_append]
    refine wc_seq ?_
    refine wc_seq ?_
    refine wc_region ?_
    refine wl_val (r_move rfl) (ltn rfl) ?_
    refine wl_val (r_move rfl) (ltn rfl) ?_
    refine wl_val (r_lenR (hv _ (HL.right)) Try.underlying22 rfl) (ltn rfl) ?_
    refine wl_val (r_lss rfl rfl) (ltn rfl) ?_
    refine wl_nil ?_
    refine wq_seq ?_
    refine wc_cond rfl (fun h2 => ?_) (fun h2 => ?_)
    · (try simp only [beq_iff_eq, bne_iff_ne, ne_eq, decide_eq_true_eq, decide_eq_false_iff_not, beq_eq_false_iff_ne, bne_eq_false_iff_eq, Bool.not_eq_true', Bool.not_eq_false', Bool.not_eq_eq_eq_not, Bool.not_true, Bool.not_false, gt_iff_lt, ge_iff_le, Int.not_lt, Int.not_le] at h2)
      
      refine wc_skip ?_
      refine wq_seq ?_
      refine wc_seq ?_
      refine wc_block ?_
      refine wc_seq ?_
      refine wc_seq ?_
      have hkl : k < l.length := by omega
      have hle : out.length ≤ 4 * l.length + 1 := by rw [hout]; have := enc_len enc1_le (l.take k); rw [List.length_cons]; rw [List.length_take] at this; omega
      refine wc_region ?_
      refine wl_val (r_move rfl) (ltn rfl) ?_
      refine wl_val (r_move rfl) (ltn rfl) ?_
      obtain ⟨bv, ov, cv, ev⟩ := RdI.posV (hv _ (HL.right)) (by omega)
      cases ev
      refine wl_val (r_index Try.underlying22 Try.sizeOf21 rfl rfl (by omega)) (ltn rfl) ?_
      refine wl_val (r_load (plain_of Try.underlying21 rfl) rfl (by first | exact RdI.at1n (hv _ (HL.right)) (by omega) | exact RdI.at0 (hv _ (HL.right)) (by omega) | exact RdI.at1 (hv _ (HL.right)) (by omega))) (ltn rfl) ?_
      refine wl_val (r_eql rfl rfl) (ltn rfl) ?_
      refine wl_nil ?_
      refine wq_seq ?_
      refine wc_cond rfl (fun h3 => ?_) (fun h3 => ?_)
      · (try simp only [beq_iff_eq, bne_iff_ne, ne_eq, decide_eq_true_eq, decide_eq_false_iff_not, beq_eq_false_iff_ne, bne_eq_false_iff_eq, Bool.not_eq_true', Bool.not_eq_false', Bool.not_eq_eq_eq_not, Bool.not_true, Bool.not_false, gt_iff_lt, ge_iff_le, Int.not_lt, Int.not_le] at h3)
        have hr : l.getD k 0 = 39 := by simpa using h3
        refine wc_region ?_
        refine wl_val (r_move rfl) (ltn rfl) ?_
        refine wl_eff (e_lit_ints (k := .i32) (l := [39, 92, 39]) HL Try.underlying22 Try.sizeOf21 Try.zeroValue21 rfl rfl rfl (by decide)) (ltn rfl) ?_
        rintro l4 w4 H4
        refine wl_eff (e_append_ints H4.f2 ((H4).row_rd) Try.underlying22 (show (Try.prog.info? 21).map (fun i => (i.zero, i.size, i.bytes)) = some (some (.int .i32 0), 1, 4) by kernel_rfl) rfl rfl (by first | omega | (simp only [List.length_append, List.length_nil, List.length_cons]; omega) | (simp; omega)) (by first | omega | (simp only [List.length_append, List.length_nil, List.length_cons]; omega) | (simp; omega))) (ltn rfl) ?_
        rintro l5 w5 H5
        try simp only [List.nil_append] at H5
        refine wl_val (r_assign rfl) (ltn rfl) ?_
        refine wl_nil ?_
        refine wq_seq ?_
        refine wc_region ?_
        refine wl_val (r_move rfl) (ltn rfl) ?_
        refine wl_val (r_move rfl) (ltn rfl) ?_
        refine wl_val (r_move rfl) (ltn rfl) ?_
        refine wl_val (r_index Try.underlying22 Try.sizeOf21 rfl rfl (by omega)) (ltn rfl) ?_
        refine wl_val (r_load (plain_of Try.underlying21 rfl) rfl (by first | exact RdI.at1n (hv _ (H5.right.right)) (by omega) | exact RdI.at0 (hv _ (H5.right.right)) (by omega) | exact RdI.at1 (hv _ (H5.right.right)) (by omega))) (ltn rfl) ?_
        refine wl_eff (e_lit_ints (k := .i32) (l := [_]) H5 Try.underlying22 Try.sizeOf21 Try.zeroValue21 rfl rfl rfl (by decide)) (ltn rfl) ?_
        rintro l6 w6 H6
        refine wl_eff (e_append_ints H6.f2 ((H6).row_rd) Try.underlying22 (show (Try.prog.info? 21).map (fun i => (i.zero, i.size, i.bytes)) = some (some (.int .i32 0), 1, 4) by kernel_rfl) rfl rfl (by first | omega | (simp only [List.length_append, List.length_nil, List.length_cons]; omega) | (simp; omega)) (by first | omega | (simp only [List.length_append, List.length_nil, List.length_cons]; omega) | (simp; omega))) (ltn rfl) ?_
        rintro l7 w7 H7
        try simp only [List.nil_append] at H7
        refine wl_val (r_assign rfl) (ltn rfl) ?_
        refine wl_nil ?_
        refine wq_block_normal ?_
        refine wq_seq ?_
        refine wc_region ?_
        refine wl_val (r_move rfl) (ltn rfl) ?_
        refine wl_val (r_add rfl rfl (by omega)) (ltn rfl) ?_
        refine wl_val (r_assign rfl) (ltn rfl) ?_
        refine wl_nil ?_
        refine wq_round ((k + 1, l7)) ?_ ?_ ?_ ?_
        · exact (Sub.cons rfl (Sub.cons rfl (Sub.nil _)))
        · exact (Sub.cons rfl (Sub.nil _))
        · (try dsimp only)
          exact ⟨_, ⟨by omega, by subst hout; rw [flat_snoc hkl]; unfold enc1; first | (rw [if_pos hr, hr]; simp; done) | (rw [if_pos hr]; simp; done) | (rw [if_neg hr]; done) | (rw [if_neg hr]; simp; done)⟩, H7.f2.right.f2.right⟩
        · (try dsimp only); omega
      · (try simp only [beq_iff_eq, bne_iff_ne, ne_eq, decide_eq_true_eq, decide_eq_false_iff_not, beq_eq_false_iff_ne, bne_eq_false_iff_eq, Bool.not_eq_true', Bool.not_eq_false', Bool.not_eq_eq_eq_not, Bool.not_true, Bool.not_false, gt_iff_lt, ge_iff_le, Int.not_lt, Int.not_le] at h3)
        have hr : ¬ l.getD k 0 = 39 := by simpa using h3
        refine wc_skip ?_
        refine wq_seq ?_
        refine wc_region ?_
        refine wl_val (r_move rfl) (ltn rfl) ?_
        refine wl_val (r_move rfl) (ltn rfl) ?_
        refine wl_val (r_move rfl) (ltn rfl) ?_
        refine wl_val (r_index Try.underlying22 Try.sizeOf21 rfl rfl (by omega)) (ltn rfl) ?_
        refine wl_val (r_load (plain_of Try.underlying21 rfl) rfl (by first | exact RdI.at1n (hv _ (HL.right)) (by omega) | exact RdI.at0 (hv _ (HL.right)) (by omega) | exact RdI.at1 (hv _ (HL.right)) (by omega))) (ltn rfl) ?_
        refine wl_eff (e_lit_ints (k := .i32) (l := [_]) HL Try.underlying22 Try.sizeOf21 Try.zeroValue21 rfl rfl rfl (by decide)) (ltn rfl) ?_
        rintro l8 w8 H8
        refine wl_eff (e_append_ints H8.f2 ((H8).row_rd) Try.underlying22 (show (Try.prog.info? 21).map (fun i => (i.zero, i.size, i.bytes)) = some (some (.int .i32 0), 1, 4) by kernel_rfl) rfl rfl (by first | omega | (simp only [List.length_append, List.length_nil, List.length_cons]; omega) | (simp; omega)) (by first | omega | (simp only [List.length_append, List.length_nil, List.length_cons]; omega) | (simp; omega))) (ltn rfl) ?_
        rintro l9 w9 H9
        try simp only [List.nil_append] at H9
        refine wl_val (r_assign rfl) (ltn rfl) ?_
        refine wl_nil ?_
        refine wq_block_normal ?_
        refine wq_seq ?_
        refine wc_region ?_
        refine wl_val (r_move rfl) (ltn rfl) ?_
        refine wl_val (r_add rfl rfl (by omega)) (ltn rfl) ?_
        refine wl_val (r_assign rfl) (ltn rfl) ?_
        refine wl_nil ?_
        refine wq_round ((k + 1, l9)) ?_ ?_ ?_ ?_
        · exact (Sub.cons rfl (Sub.cons rfl (Sub.nil _)))
        · exact (Sub.cons rfl (Sub.nil _))
        · (try dsimp only)
          exact ⟨_, ⟨by omega, by subst hout; rw [flat_snoc hkl]; unfold enc1; first | (rw [if_pos hr, hr]; simp; done) | (rw [if_pos hr]; simp; done) | (rw [if_neg hr]; done) | (rw [if_neg hr]; simp; done)⟩, H9.f2.right⟩
        · (try dsimp only); omega
    · (try simp only [beq_iff_eq, bne_iff_ne, ne_eq, decide_eq_true_eq, decide_eq_false_iff_not, beq_eq_false_iff_ne, bne_eq_false_iff_eq, Bool.not_eq_true', Bool.not_eq_false', Bool.not_eq_eq_eq_not, Bool.not_true, Bool.not_false, gt_iff_lt, ge_iff_le, Int.not_lt, Int.not_le] at h2)
      
      refine wc_exit ?_
      refine wq_then_exit ?_
      refine wq_then_exit ?_
      refine wq_block_hit ?_
      refine wq_seq ?_
      have hle : out.length ≤ 4 * l.length + 1 := by rw [hout]; have := enc_len enc1_le (l.take k); rw [List.length_cons]; rw [List.length_take] at this; omega
      refine wc_region ?_
      refine wl_val (r_move rfl) (ltn rfl) ?_
      refine wl_eff (e_lit_ints (k := .i32) (l := [39]) HL Try.underlying22 Try.sizeOf21 Try.zeroValue21 rfl rfl rfl (by decide)) (ltn rfl) ?_
      rintro l10 w10 H10
      refine wl_eff (e_append_ints H10.f2 ((H10).row_rd) Try.underlying22 (show (Try.prog.info? 21).map (fun i => (i.zero, i.size, i.bytes)) = some (some (.int .i32 0), 1, 4) by kernel_rfl) rfl rfl (by first | omega | (simp only [List.length_append, List.length_nil, List.length_cons]; omega) | (simp; omega)) (by first | omega | (simp only [List.length_append, List.length_nil, List.length_cons]; omega) | (simp; omega))) (ltn rfl) ?_
      rintro l11 w11 H11
      try simp only [List.nil_append] at H11
      refine wl_val (r_assign rfl) (ltn rfl) ?_
      refine wl_nil ?_
      refine wq_block_normal ?_
      refine wq_seq ?_
      refine wc_seq ?_
      refine wc_seq ?_
      obtain ⟨ol, hol, HQ⟩ : ∃ ol, ol = quoteL st l ∧ Holds w0 w11 (RowI 21 .i32 l11 ol • F) := by
        refine ⟨_, ?_, H11.f2.right⟩
        unfold quoteL
        first
          | (rw [if_pos (by omega), hout, show k = l.length by omega, List.take_length]; done)
          | (rw [if_neg (by omega), if_pos (by omega), hout, show k = l.length by omega, List.take_length]; done)
          | (have hn : l = [] := List.eq_nil_of_length_eq_zero (by omega)
             rw [if_neg (by omega), if_neg (by omega), if_pos hn, hout, hn, List.take_nil]; rfl)
          | (rw [if_neg (by omega), if_neg (by omega), if_neg (by intro q; subst q; simp at *), hout, show k = l.length by omega, List.take_length]; done)
      have hst : 1 ≤ st ∧ st ≤ 3 := by omega
      refine wc_region ?_
      refine wl_val (r_move rfl) (ltn rfl) ?_
      refine wl_val (r_lenR ((HQ).row_rd) Try.underlying22 rfl) (ltn rfl) ?_
      refine wl_val (r_gtr rfl rfl) (ltn rfl) ?_
      refine wl_nil ?_
      refine wq_seq ?_
      refine wc_cond rfl (fun h4 => ?_) (fun h4 => ?_)
      · (try simp only [beq_iff_eq, bne_iff_ne, ne_eq, decide_eq_true_eq, decide_eq_false_iff_not, beq_eq_false_iff_ne, bne_eq_false_iff_eq, Bool.not_eq_true', Bool.not_eq_false', Bool.not_eq_eq_eq_not, Bool.not_true, Bool.not_false, gt_iff_lt, ge_iff_le, Int.not_lt, Int.not_le] at h4)
        
        refine wc_seq ?_
        refine wc_region ?_
        refine wl_val (r_assign rfl) (ltn rfl) ?_
        refine wl_val (r_assign rfl) (ltn rfl) ?_
        refine wl_nil ?_
        refine wq_seq ?_
        refine wc_ret ?_
        refine wq_then_ret ?_
        refine wq_end2 (.inl rfl) Try.results19 rfl rfl ?_
        have hq : quoteE st l = 3 := by unfold quoteE; rw [if_neg (by omega), if_pos (by rw [← hol]; omega)]
        refine ⟨_, by rw [hq], ?_⟩
        unfold quoteR; rw [hq, if_neg (by decide)]; exact (HQ.right).row_nil none
      · (try simp only [beq_iff_eq, bne_iff_ne, ne_eq, decide_eq_true_eq, decide_eq_false_iff_not, beq_eq_false_iff_ne, bne_eq_false_iff_eq, Bool.not_eq_true', Bool.not_eq_false', Bool.not_eq_eq_eq_not, Bool.not_true, Bool.not_false, gt_iff_lt, ge_iff_le, Int.not_lt, Int.not_le] at h4)
        
        refine wc_skip ?_
        refine wq_seq ?_
        refine wc_seq ?_
        refine wc_region ?_
        refine wl_val (r_move rfl) (ltn rfl) ?_
        refine wl_val (r_assign rfl) (ltn rfl) ?_
        refine wl_val (r_assign rfl) (ltn rfl) ?_
        refine wl_nil ?_
        refine wq_seq ?_
        refine wc_ret ?_
        refine wq_end2 (.inl rfl) Try.results19 rfl rfl ?_
        have hq : quoteE st l = 0 := by unfold quoteE; rw [if_neg (by omega), if_neg (by rw [← hol]; omega)]
        refine ⟨_, by rw [hq], ?_⟩
        unfold quoteR; rw [hq, if_pos rfl, ← hol]; exact HQ
  · (try simp only [beq_iff_eq, bne_iff_ne, ne_eq, decide_eq_true_eq, decide_eq_false_iff_not, beq_eq_false_iff_ne, bne_eq_false_iff_eq, Bool.not_eq_true', Bool.not_eq_false', Bool.not_eq_eq_eq_not, Bool.not_true, Bool.not_false, gt_iff_lt, ge_iff_le, Int.not_lt, Int.not_le] at h1)
    
    refine wc_seq ?_
    refine wc_region ?_
    refine wl_val (r_eql rfl rfl) (ltn rfl) ?_
    refine wl_val (r_assign rfl) (ltn rfl) ?_
    refine wl_nil ?_
    refine wq_seq ?_
    refine wc_cond rfl (fun h5 => ?_) (fun h5 => ?_)
    · (try simp only [beq_iff_eq, bne_iff_ne, ne_eq, decide_eq_true_eq, decide_eq_false_iff_not, beq_eq_false_iff_ne, bne_eq_false_iff_eq, Bool.not_eq_true', Bool.not_eq_false', Bool.not_eq_eq_eq_not, Bool.not_true, Bool.not_false, gt_iff_lt, ge_iff_le, Int.not_lt, Int.not_le] at h5)
      
      refine wc_seq ?_
      refine wc_region ?_
      refine wl_val (r_move rfl) (ltn rfl) ?_
      refine wl_eff (e_lit_ints (k := .i32) (l := [34]) H Try.underlying22 Try.sizeOf21 Try.zeroValue21 rfl rfl rfl (by decide)) (ltn rfl) ?_
      rintro l12 w12 H12
      refine wl_eff (e_append_ints (l := []) (H12.row_nil none) ((H12).row_rd) Try.underlying22 (show (Try.prog.info? 21).map (fun i => (i.zero, i.size, i.bytes)) = some (some (.int .i32 0), 1, 4) by kernel_rfl) rfl rfl (by first | omega | (simp only [List.length_append, List.length_nil, List.length_cons]; omega) | (simp; omega)) (by first | omega | (simp only [List.length_append, List.length_nil, List.length_cons]; omega) | (simp; omega))) (ltn rfl) ?_
      rintro l13 w13 H13
      try simp only [List.nil_append] at H13
      refine wl_val (r_assign rfl) (ltn rfl) ?_
      refine wl_nil ?_
      refine wq_seq ?_
      refine wc_seq ?_
      refine wc_seq ?_
      refine wc_region ?_
      refine wl_val (r_assign rfl) (ltn rfl) ?_
      refine wl_nil ?_
      refine wq_seq ?_
      refine wc_block ?_
      refine wc_loop [(0, _)] (fun (⟨k, u⟩ : Nat × Value) => [(8, .int .i64 (k : Int)), (6, u)]) (fun (⟨k, u⟩ : Nat × Value) W => ∃ out, (k ≤ l.length ∧ out = 34 :: (l.take k).flatMap enc2) ∧ Holds w0 W (RowI 21 .i32 u out • F)) (fun (⟨k, u⟩ : Nat × Value) => l.length - k) ((0, l13)) (Sub.cons rfl (Sub.nil _)) (Sub.cons rfl (Sub.cons rfl (Sub.nil _))) ⟨_, ⟨by omega, rfl⟩, H13.f2.right⟩ ?_
      rintro ⟨k, u⟩ w14 ⟨out, ⟨hk, hout⟩, HL⟩
      dsimp only [List.cons_append, List.nil_append]
      refine wc_seq ?_
      refine wc_seq ?_
      refine wc_region ?_
      refine wl_val (r_move rfl) (ltn rfl) ?_
      refine wl_val (r_move rfl) (ltn rfl) ?_
      refine wl_val (r_lenR (hv _ (HL.right)) Try.underlying22 rfl) (ltn rfl) ?_
      refine wl_val (r_lss rfl rfl) (ltn rfl) ?_
      refine wl_nil ?_
      refine wq_seq ?_
      refine wc_cond rfl (fun h6 => ?_) (fun h6 => ?_)
      · (try simp only [beq_iff_eq, bne_iff_ne, ne_eq, decide_eq_true_eq, decide_eq_false_iff_not, beq_eq_false_iff_ne, bne_eq_false_iff_eq, Bool.not_eq_true', Bool.not_eq_false', Bool.not_eq_eq_eq_not, Bool.not_true, Bool.not_false, gt_iff_lt, ge_iff_le, Int.not_lt, Int.not_le] at h6)
        
        refine wc_skip ?_
        refine wq_seq ?_
        refine wc_seq ?_
        refine wc_block ?_
        refine wc_seq ?_
        refine wc_seq ?_
        have hkl : k < l.length := by omega
        have hle : out.length ≤ 4 * l.length + 1 := by rw [hout]; have := enc_len enc2_le (l.take k); rw [List.length_cons]; rw [List.length_take] at this; omega
        refine wc_region ?_
        refine wl_val (r_move rfl) (ltn rfl) ?_
        refine wl_val (r_move rfl) (ltn rfl) ?_
        obtain ⟨bv, ov, cv, ev⟩ := RdI.posV (hv _ (HL.right)) (by omega)
        cases ev
        refine wl_val (r_index Try.underlying22 Try.sizeOf21 rfl rfl (by omega)) (ltn rfl) ?_
        refine wl_val (r_load (plain_of Try.underlying21 rfl) rfl (by first | exact RdI.at1n (hv _ (HL.right)) (by omega) | exact RdI.at0 (hv _ (HL.right)) (by omega) | exact RdI.at1 (hv _ (HL.right)) (by omega))) (ltn rfl) ?_
        refine wl_eff (e_call (r_call rfl Try.func38 rfl rfl) (ref_in_ret (by decide))) (ltn rfl) ?_
        rintro _ _ ⟨rfl, rfl⟩
        refine wl_nil ?_
        refine wq_seq ?_
        refine wc_cond rfl (fun h7 => ?_) (fun h7 => ?_)
        · (try simp only [beq_iff_eq, bne_iff_ne, ne_eq, decide_eq_true_eq, decide_eq_false_iff_not, beq_eq_false_iff_ne, bne_eq_false_iff_eq, Bool.not_eq_true', Bool.not_eq_false', Bool.not_eq_eq_eq_not, Bool.not_true, Bool.not_false, gt_iff_lt, ge_iff_le, Int.not_lt, Int.not_le] at h7)
          have hr := in4.1 h7
          refine wc_region ?_
          refine wl_val (r_move rfl) (ltn rfl) ?_
          refine wl_eff (e_lit_ints (k := .i32) (l := [92]) HL Try.underlying22 Try.sizeOf21 Try.zeroValue21 rfl rfl rfl (by decide)) (ltn rfl) ?_
          rintro l16 w16 H16
          refine wl_eff (e_append_ints H16.f2 ((H16).row_rd) Try.underlying22 (show (Try.prog.info? 21).map (fun i => (i.zero, i.size, i.bytes)) = some (some (.int .i32 0), 1, 4) by kernel_rfl) rfl rfl (by first | omega | (simp only [List.length_append, List.length_nil, List.length_cons]; omega) | (simp; omega)) (by first | omega | (simp only [List.length_append, List.length_nil, List.length_cons]; omega) | (simp; omega))) (ltn rfl) ?_
          rintro l17 w17 H17
          try simp only [List.nil_append] at H17
          refine wl_val (r_assign rfl) (ltn rfl) ?_
          refine wl_nil ?_
          refine wq_seq ?_
          refine wc_region ?_
          refine wl_val (r_move rfl) (ltn rfl) ?_
          refine wl_val (r_move rfl) (ltn rfl) ?_
          refine wl_val (r_move rfl) (ltn rfl) ?_
          refine wl_val (r_index Try.underlying22 Try.sizeOf21 rfl rfl (by omega)) (ltn rfl) ?_
          refine wl_val (r_load (plain_of Try.underlying21 rfl) rfl (by first | exact RdI.at1n (hv _ (H17.right.right)) (by omega) | exact RdI.at0 (hv _ (H17.right.right)) (by omega) | exact RdI.at1 (hv _ (H17.right.right)) (by omega))) (ltn rfl) ?_
          refine wl_eff (e_lit_ints (k := .i32) (l := [_]) H17 Try.underlying22 Try.sizeOf21 Try.zeroValue21 rfl rfl rfl (by decide)) (ltn rfl) ?_
          rintro l18 w18 H18
          refine wl_eff (e_append_ints H18.f2 ((H18).row_rd) Try.underlying22 (show (Try.prog.info? 21).map (fun i => (i.zero, i.size, i.bytes)) = some (some (.int .i32 0), 1, 4) by kernel_rfl) rfl rfl (by first | omega | (simp only [List.length_append, List.length_nil, List.length_cons]; omega) | (simp; omega)) (by first | omega | (simp only [List.length_append, List.length_nil, List.length_cons]; omega) | (simp; omega))) (ltn rfl) ?_
          rintro l19 w19 H19
          try simp only [List.nil_append] at H19
          refine wl_val (r_assign rfl) (ltn rfl) ?_
          refine wl_nil ?_
          refine wq_block_normal ?_
          refine wq_seq ?_
          refine wc_region ?_
          refine wl_val (r_move rfl) (ltn rfl) ?_
          refine wl_val (r_add rfl rfl (by omega)) (ltn rfl) ?_
          refine wl_val (r_assign rfl) (ltn rfl) ?_
          refine wl_nil ?_
          refine wq_round ((k + 1, l19)) ?_ ?_ ?_ ?_
          · exact (Sub.cons rfl (Sub.cons rfl (Sub.nil _)))
          · exact (Sub.cons rfl (Sub.nil _))
          · (try dsimp only)
            exact ⟨_, ⟨by omega, by subst hout; rw [flat_snoc hkl]; unfold enc2; first | (rw [if_pos hr, hr]; simp; done) | (rw [if_pos hr]; simp; done) | (rw [if_neg hr]; done) | (rw [if_neg hr]; simp; done)⟩, H19.f2.right.f2.right⟩
          · (try dsimp only); omega
        · (try simp only [beq_iff_eq, bne_iff_ne, ne_eq, decide_eq_true_eq, decide_eq_false_iff_not, beq_eq_false_iff_ne, bne_eq_false_iff_eq, Bool.not_eq_true', Bool.not_eq_false', Bool.not_eq_eq_eq_not, Bool.not_true, Bool.not_false, gt_iff_lt, ge_iff_le, Int.not_lt, Int.not_le] at h7)
          have hr := fun q => h7 (in4.2 q)
          refine wc_skip ?_
          refine wq_seq ?_
          refine wc_region ?_
          refine wl_val (r_move rfl) (ltn rfl) ?_
          refine wl_val (r_move rfl) (ltn rfl) ?_
          refine wl_val (r_move rfl) (ltn rfl) ?_
          refine wl_val (r_index Try.underlying22 Try.sizeOf21 rfl rfl (by omega)) (ltn rfl) ?_
          refine wl_val (r_load (plain_of Try.underlying21 rfl) rfl (by first | exact RdI.at1n (hv _ (HL.right)) (by omega) | exact RdI.at0 (hv _ (HL.right)) (by omega) | exact RdI.at1 (hv _ (HL.right)) (by omega))) (ltn rfl) ?_
          refine wl_eff (e_lit_ints (k := .i32) (l := [_]) HL Try.underlying22 Try.sizeOf21 Try.zeroValue21 rfl rfl rfl (by decide)) (ltn rfl) ?_
          rintro l20 w20 H20
          refine wl_eff (e_append_ints H20.f2 ((H20).row_rd) Try.underlying22 (show (Try.prog.info? 21).map (fun i => (i.zero, i.size, i.bytes)) = some (some (.int .i32 0), 1, 4) by kernel_rfl) rfl rfl (by first | omega | (simp only [List.length_append, List.length_nil, List.length_cons]; omega) | (simp; omega)) (by first | omega | (simp only [List.length_append, List.length_nil, List.length_cons]; omega) | (simp; omega))) (ltn rfl) ?_
          rintro l21 w21 H21
          try simp only [List.nil_append] at H21
          refine wl_val (r_assign rfl) (ltn rfl) ?_
          refine wl_nil ?_
          refine wq_block_normal ?_
          refine wq_seq ?_
          refine wc_region ?_
          refine wl_val (r_move rfl) (ltn rfl) ?_
          refine wl_val (r_add rfl rfl (by omega)) (ltn rfl) ?_
          refine wl_val (r_assign rfl) (ltn rfl) ?_
          refine wl_nil ?_
          refine wq_round ((k + 1, l21)) ?_ ?_ ?_ ?_
          · exact (Sub.cons rfl (Sub.cons rfl (Sub.nil _)))
          · exact (Sub.cons rfl (Sub.nil _))
          · (try dsimp only)
            exact ⟨_, ⟨by omega, by subst hout; rw [flat_snoc hkl]; unfold enc2; first | (rw [if_pos hr, hr]; simp; done) | (rw [if_pos hr]; simp; done) | (rw [if_neg hr]; done) | (rw [if_neg hr]; simp; done)⟩, H21.f2.right⟩
          · (try dsimp only); omega
      · (try simp only [beq_iff_eq, bne_iff_ne, ne_eq, decide_eq_true_eq, decide_eq_false_iff_not, beq_eq_false_iff_ne, bne_eq_false_iff_eq, Bool.not_eq_true', Bool.not_eq_false', Bool.not_eq_eq_eq_not, Bool.not_true, Bool.not_false, gt_iff_lt, ge_iff_le, Int.not_lt, Int.not_le] at h6)
        
        refine wc_exit ?_
        refine wq_then_exit ?_
        refine wq_then_exit ?_
        refine wq_block_hit ?_
        refine wq_seq ?_
        have hle : out.length ≤ 4 * l.length + 1 := by rw [hout]; have := enc_len enc2_le (l.take k); rw [List.length_cons]; rw [List.length_take] at this; omega
        refine wc_region ?_
        refine wl_val (r_move rfl) (ltn rfl) ?_
        refine wl_eff (e_lit_ints (k := .i32) (l := [34]) HL Try.underlying22 Try.sizeOf21 Try.zeroValue21 rfl rfl rfl (by decide)) (ltn rfl) ?_
        rintro l22 w22 H22
        refine wl_eff (e_append_ints H22.f2 ((H22).row_rd) Try.underlying22 (show (Try.prog.info? 21).map (fun i => (i.zero, i.size, i.bytes)) = some (some (.int .i32 0), 1, 4) by kernel_rfl) rfl rfl (by first | omega | (simp only [List.length_append, List.length_nil, List.length_cons]; omega) | (simp; omega)) (by first | omega | (simp only [List.length_append, List.length_nil, List.length_cons]; omega) | (simp; omega))) (ltn rfl) ?_
        rintro l23 w23 H23
        try simp only [List.nil_append] at H23
        refine wl_val (r_assign rfl) (ltn rfl) ?_
        refine wl_nil ?_
        refine wq_block_normal ?_
        refine wq_seq ?_
        refine wc_seq ?_
        refine wc_seq ?_
        obtain ⟨ol, hol, HQ⟩ : ∃ ol, ol = quoteL st l ∧ Holds w0 w23 (RowI 21 .i32 l23 ol • F) := by
          refine ⟨_, ?_, H23.f2.right⟩
          unfold quoteL
          first
            | (rw [if_pos (by omega), hout, show k = l.length by omega, List.take_length]; done)
            | (rw [if_neg (by omega), if_pos (by omega), hout, show k = l.length by omega, List.take_length]; done)
            | (have hn : l = [] := List.eq_nil_of_length_eq_zero (by omega)
               rw [if_neg (by omega), if_neg (by omega), if_pos hn, hout, hn, List.take_nil]; rfl)
            | (rw [if_neg (by omega), if_neg (by omega), if_neg (by intro q; subst q; simp at *), hout, show k = l.length by omega, List.take_length]; done)
        have hst : 1 ≤ st ∧ st ≤ 3 := by omega
        refine wc_region ?_
        refine wl_val (r_move rfl) (ltn rfl) ?_
        refine wl_val (r_lenR ((HQ).row_rd) Try.underlying22 rfl) (ltn rfl) ?_
        refine wl_val (r_gtr rfl rfl) (ltn rfl) ?_
        refine wl_nil ?_
        refine wq_seq ?_
        refine wc_cond rfl (fun h8 => ?_) (fun h8 => ?_)
        · (try simp only [beq_iff_eq, bne_iff_ne, ne_eq, decide_eq_true_eq, decide_eq_false_iff_not, beq_eq_false_iff_ne, bne_eq_false_iff_eq, Bool.not_eq_true', Bool.not_eq_false', Bool.not_eq_eq_eq_not, Bool.not_true, Bool.not_false, gt_iff_lt, ge_iff_le, Int.not_lt, Int.not_le] at h8)
          
          refine wc_seq ?_
          refine wc_region ?_
          refine wl_val (r_assign rfl) (ltn rfl) ?_
          refine wl_val (r_assign rfl) (ltn rfl) ?_
          refine wl_nil ?_
          refine wq_seq ?_
          refine wc_ret ?_
          refine wq_then_ret ?_
          refine wq_end2 (.inl rfl) Try.results19 rfl rfl ?_
          have hq : quoteE st l = 3 := by unfold quoteE; rw [if_neg (by omega), if_pos (by rw [← hol]; omega)]
          refine ⟨_, by rw [hq], ?_⟩
          unfold quoteR; rw [hq, if_neg (by decide)]; exact (HQ.right).row_nil none
        · (try simp only [beq_iff_eq, bne_iff_ne, ne_eq, decide_eq_true_eq, decide_eq_false_iff_not, beq_eq_false_iff_ne, bne_eq_false_iff_eq, Bool.not_eq_true', Bool.not_eq_false', Bool.not_eq_eq_eq_not, Bool.not_true, Bool.not_false, gt_iff_lt, ge_iff_le, Int.not_lt, Int.not_le] at h8)
          
          refine wc_skip ?_
          refine wq_seq ?_
          refine wc_seq ?_
          refine wc_region ?_
          refine wl_val (r_move rfl) (ltn rfl) ?_
          refine wl_val (r_assign rfl) (ltn rfl) ?_
          refine wl_val (r_assign rfl) (ltn rfl) ?_
          refine wl_nil ?_
          refine wq_seq ?_
          refine wc_ret ?_
          refine wq_end2 (.inl rfl) Try.results19 rfl rfl ?_
          have hq : quoteE st l = 0 := by unfold quoteE; rw [if_neg (by omega), if_neg (by rw [← hol]; omega)]
          refine ⟨_, by rw [hq], ?_⟩
          unfold quoteR; rw [hq, if_pos rfl, ← hol]; exact HQ
    · (try simp only [beq_iff_eq, bne_iff_ne, ne_eq, decide_eq_true_eq, decide_eq_false_iff_not, beq_eq_false_iff_ne, bne_eq_false_iff_eq, Bool.not_eq_true', Bool.not_eq_false', Bool.not_eq_eq_eq_not, Bool.not_true, Bool.not_false, gt_iff_lt, ge_iff_le, Int.not_lt, Int.not_le] at h5)
      
      refine wc_seq ?_
      refine wc_region ?_
      refine wl_val (r_eql rfl rfl) (ltn rfl) ?_
      refine wl_val (r_assign rfl) (ltn rfl) ?_
      refine wl_nil ?_
      refine wq_seq ?_
      refine wc_cond rfl (fun h9 => ?_) (fun h9 => ?_)
      · (try simp only [beq_iff_eq, bne_iff_ne, ne_eq, decide_eq_true_eq, decide_eq_false_iff_not, beq_eq_false_iff_ne, bne_eq_false_iff_eq, Bool.not_eq_true', Bool.not_eq_false', Bool.not_eq_eq_eq_not, Bool.not_true, Bool.not_false, gt_iff_lt, ge_iff_le, Int.not_lt, Int.not_le] at h9)
        
        refine wc_seq ?_
        refine wc_seq ?_
        refine wc_region ?_
        refine wl_val (r_assign rfl) (ltn rfl) ?_
        refine wl_nil ?_
        refine wq_seq ?_
        refine wc_block ?_
        refine wc_loop [(0, _)] (fun (⟨k, u⟩ : Nat × Value) => [(9, .int .i64 (k : Int)), (6, u)]) (fun (⟨k, u⟩ : Nat × Value) W => ∃ out, (k ≤ l.length ∧ out = (l.take k).flatMap enc3) ∧ Holds w0 W (RowI 21 .i32 u out • F)) (fun (⟨k, u⟩ : Nat × Value) => l.length - k) ((0, .slice none 0 0)) (Sub.cons rfl (Sub.nil _)) (Sub.cons rfl (Sub.cons rfl (Sub.nil _))) ⟨_, ⟨by omega, rfl⟩, (H).row_nil none⟩ ?_
        rintro ⟨k, u⟩ w24 ⟨out, ⟨hk, hout⟩, HL⟩
        dsimp only [List.cons_append, List.nil_append]
        refine wc_seq ?_
        refine wc_seq ?_
        refine wc_region ?_
        refine wl_val (r_move rfl) (ltn rfl) ?_
        refine wl_val (r_move rfl) (ltn rfl) ?_
        refine wl_val (r_lenR (hv _ (HL.right)) Try.underlying22 rfl) (ltn rfl) ?_
        refine wl_val (r_lss rfl rfl) (ltn rfl) ?_
        refine wl_nil ?_
        refine wq_seq ?_
        refine wc_cond rfl (fun h10 => ?_) (fun h10 => ?_)
        · (try simp only [beq_iff_eq, bne_iff_ne, ne_eq, decide_eq_true_eq, decide_eq_false_iff_not, beq_eq_false_iff_ne, bne_eq_false_iff_eq, Bool.not_eq_true', Bool.not_eq_false', Bool.not_eq_eq_eq_not, Bool.not_true, Bool.not_false, gt_iff_lt, ge_iff_le, Int.not_lt, Int.not_le] at h10)
          
          refine wc_skip ?_
          refine wq_seq ?_
          refine wc_seq ?_
          refine wc_block ?_
          refine wc_seq ?_
          have hkl : k < l.length := by omega
          have hle : out.length ≤ 4 * l.length + 1 := by rw [hout]; have := enc_len enc3_le (l.take k); rw [List.length_take] at this; omega
          refine wc_region ?_
          refine wl_val (r_move rfl) (ltn rfl) ?_
          refine wl_val (r_move rfl) (ltn rfl) ?_
          obtain ⟨bv, ov, cv, ev⟩ := RdI.posV (hv _ (HL.right)) (by omega)
          cases ev
          refine wl_val (r_index Try.underlying22 Try.sizeOf21 rfl rfl (by omega)) (ltn rfl) ?_
          refine wl_val (r_load (plain_of Try.underlying21 rfl) rfl (by first | exact RdI.at1n (hv _ (HL.right)) (by omega) | exact RdI.at0 (hv _ (HL.right)) (by omega) | exact RdI.at1 (hv _ (HL.right)) (by omega))) (ltn rfl) ?_
          refine wl_val (r_assign rfl) (ltn rfl) ?_
          refine wl_nil ?_
          refine wq_seq ?_
          refine wc_seq ?_
          refine wc_seq ?_
          refine wc_region ?_
          refine wl_val (r_move rfl) (ltn rfl) ?_
          refine wl_eff (e_call (r_call rfl Try.func39 rfl rfl) (ref_blank_ret)) (ltn rfl) ?_
          rintro _ _ ⟨rfl, rfl⟩
          refine wl_split rfl (ltn rfl) (fun h11 => ?_) (fun h11 => ?_)
          · (try simp only [beq_iff_eq, bne_iff_ne, ne_eq, decide_eq_true_eq, decide_eq_false_iff_not, beq_eq_false_iff_ne, bne_eq_false_iff_eq, Bool.not_eq_true', Bool.not_eq_false', Bool.not_eq_eq_eq_not, Bool.not_true, Bool.not_false, gt_iff_lt, ge_iff_le, Int.not_lt, Int.not_le] at h11)
            refine wl_no rfl rfl rfl (ltn rfl) ?_
            refine wl_no rfl rfl rfl (ltn rfl) ?_
            refine wl_val (r_pick_t rfl rfl) (ltn rfl) ?_
            refine wl_val (r_move rfl) (ltn rfl) ?_
            refine wl_no rfl rfl rfl (ltn rfl) ?_
            refine wl_no rfl rfl rfl (ltn rfl) ?_
            refine wl_val (r_pick_t rfl rfl) (ltn rfl) ?_
            refine wl_val (r_move rfl) (ltn rfl) ?_
            refine wl_no rfl rfl rfl (ltn rfl) ?_
            refine wl_no rfl rfl rfl (ltn rfl) ?_
            refine wl_val (r_pick_t rfl rfl) (ltn rfl) ?_
            refine wl_val (r_move rfl) (ltn rfl) ?_
            refine wl_no rfl rfl rfl (ltn rfl) ?_
            refine wl_no rfl rfl rfl (ltn rfl) ?_
            refine wl_val (r_pick_t rfl rfl) (ltn rfl) ?_
            refine wl_val (r_move rfl) (ltn rfl) ?_
            refine wl_no rfl rfl rfl (ltn rfl) ?_
            refine wl_no rfl rfl rfl (ltn rfl) ?_
            refine wl_val (r_pick_t rfl rfl) (ltn rfl) ?_
            refine wl_nil ?_
            refine wq_seq ?_
            refine wc_cond_t rfl ?_
            have hr : backS (l.getD k 0) = true := by first | exact bk_blank (by assumption) | exact bk_op (by assumption) | exact bk_in (by assumption) | exact bk_is (by omega)
            refine wc_region ?_
            refine wl_val (r_move rfl) (ltn rfl) ?_
            refine wl_eff (e_lit_ints (k := .i32) (l := [92]) HL Try.underlying22 Try.sizeOf21 Try.zeroValue21 rfl rfl rfl (by decide)) (ltn rfl) ?_
            rintro l26 w26 H26
            refine wl_eff (e_append_ints H26.f2 ((H26).row_rd) Try.underlying22 (show (Try.prog.info? 21).map (fun i => (i.zero, i.size, i.bytes)) = some (some (.int .i32 0), 1, 4) by kernel_rfl) rfl rfl (by first | omega | (simp only [List.length_append, List.length_nil, List.length_cons]; omega) | (simp; omega)) (by first | omega | (simp only [List.length_append, List.length_nil, List.length_cons]; omega) | (simp; omega))) (ltn rfl) ?_
            rintro l27 w27 H27
            try simp only [List.nil_append] at H27
            refine wl_val (r_assign rfl) (ltn rfl) ?_
            refine wl_nil ?_
            refine wq_seq ?_
            refine wc_region ?_
            refine wl_val (r_move rfl) (ltn rfl) ?_
            refine wl_val (r_move rfl) (ltn rfl) ?_
            refine wl_eff (e_lit_ints (k := .i32) (l := [_]) H27 Try.underlying22 Try.sizeOf21 Try.zeroValue21 rfl rfl rfl (by decide)) (ltn rfl) ?_
            rintro l28 w28 H28
            refine wl_eff (e_append_ints H28.f2 ((H28).row_rd) Try.underlying22 (show (Try.prog.info? 21).map (fun i => (i.zero, i.size, i.bytes)) = some (some (.int .i32 0), 1, 4) by kernel_rfl) rfl rfl (by first | omega | (simp only [List.length_append, List.length_nil, List.length_cons]; omega) | (simp; omega)) (by first | omega | (simp only [List.length_append, List.length_nil, List.length_cons]; omega) | (simp; omega))) (ltn rfl) ?_
            rintro l29 w29 H29
            try simp only [List.nil_append] at H29
            refine wl_val (r_assign rfl) (ltn rfl) ?_
            refine wl_nil ?_
            refine wq_block_normal ?_
            refine wq_seq ?_
            refine wc_region ?_
            refine wl_val (r_move rfl) (ltn rfl) ?_
            refine wl_val (r_add rfl rfl (by omega)) (ltn rfl) ?_
            refine wl_val (r_assign rfl) (ltn rfl) ?_
            refine wl_nil ?_
            refine wq_round ((k + 1, l29)) ?_ ?_ ?_ ?_
            · exact (Sub.cons rfl (Sub.cons rfl (Sub.nil _)))
            · exact (Sub.cons rfl (Sub.nil _))
            · (try dsimp only)
              exact ⟨_, ⟨by omega, by subst hout; rw [flat_snoc hkl]; unfold enc3; first | (rw [if_pos hr, hr]; simp; done) | (rw [if_pos hr]; simp; done) | (rw [if_neg hr]; done) | (rw [if_neg hr]; simp; done)⟩, H29.f2.right.f2.right⟩
            · (try dsimp only); omega
          · (try simp only [beq_iff_eq, bne_iff_ne, ne_eq, decide_eq_true_eq, decide_eq_false_iff_not, beq_eq_false_iff_ne, bne_eq_false_iff_eq, Bool.not_eq_true', Bool.not_eq_false', Bool.not_eq_eq_eq_not, Bool.not_true, Bool.not_false, gt_iff_lt, ge_iff_le, Int.not_lt, Int.not_le] at h11)
            refine wl_yes rfl rfl ?_
            refine wl_val (r_move rfl) (ltn rfl) ?_
            refine wl_yes rfl rfl ?_
            refine wl_eff (e_call (r_call rfl Try.func40 rfl rfl) (ref_op_ret)) (ltn rfl) ?_
            rintro _ _ ⟨rfl, rfl⟩
            refine wl_val (r_pick_f rfl rfl) (ltn rfl) ?_
            refine wl_split rfl (ltn rfl) (fun h12 => ?_) (fun h12 => ?_)
            · (try simp only [beq_iff_eq, bne_iff_ne, ne_eq, decide_eq_true_eq, decide_eq_false_iff_not, beq_eq_false_iff_ne, bne_eq_false_iff_eq, Bool.not_eq_true', Bool.not_eq_false', Bool.not_eq_eq_eq_not, Bool.not_true, Bool.not_false, gt_iff_lt, ge_iff_le, Int.not_lt, Int.not_le] at h12)
              refine wl_no rfl rfl rfl (ltn rfl) ?_
              refine wl_no rfl rfl rfl (ltn rfl) ?_
              refine wl_val (r_pick_t rfl rfl) (ltn rfl) ?_
              refine wl_val (r_move rfl) (ltn rfl) ?_
              refine wl_no rfl rfl rfl (ltn rfl) ?_
              refine wl_no rfl rfl rfl (ltn rfl) ?_
              refine wl_val (r_pick_t rfl rfl) (ltn rfl) ?_
              refine wl_val (r_move rfl) (ltn rfl) ?_
              refine wl_no rfl rfl rfl (ltn rfl) ?_
              refine wl_no rfl rfl rfl (ltn rfl) ?_
              refine wl_val (r_pick_t rfl rfl) (ltn rfl) ?_
              refine wl_val (r_move rfl) (ltn rfl) ?_
              refine wl_no rfl rfl rfl (ltn rfl) ?_
              refine wl_no rfl rfl rfl (ltn rfl) ?_
              refine wl_val (r_pick_t rfl rfl) (ltn rfl) ?_
              refine wl_nil ?_
              refine wq_seq ?_
              refine wc_cond_t rfl ?_
              have hr : backS (l.getD k 0) = true := by first | exact bk_blank (by assumption) | exact bk_op (by assumption) | exact bk_in (by assumption) | exact bk_is (by omega)
              refine wc_region ?_
              refine wl_val (r_move rfl) (ltn rfl) ?_
              refine wl_eff (e_lit_ints (k := .i32) (l := [92]) HL Try.underlying22 Try.sizeOf21 Try.zeroValue21 rfl rfl rfl (by decide)) (ltn rfl) ?_
              rintro l31 w31 H31
              refine wl_eff (e_append_ints H31.f2 ((H31).row_rd) Try.underlying22 (show (Try.prog.info? 21).map (fun i => (i.zero, i.size, i.bytes)) = some (some (.int .i32 0), 1, 4) by kernel_rfl) rfl rfl (by first | omega | (simp only [List.length_append, List.length_nil, List.length_cons]; omega) | (simp; omega)) (by first | omega | (simp only [List.length_append, List.length_nil, List.length_cons]; omega) | (simp; omega))) (ltn rfl) ?_
              rintro l32 w32 H32
              try simp only [List.nil_append] at H32
              refine wl_val (r_assign rfl) (ltn rfl) ?_
              refine wl_nil ?_
              refine wq_seq ?_
              refine wc_region ?_
              refine wl_val (r_move rfl) (ltn rfl) ?_
              refine wl_val (r_move rfl) (ltn rfl) ?_
              refine wl_eff (e_lit_ints (k := .i32) (l := [_]) H32 Try.underlying22 Try.sizeOf21 Try.zeroValue21 rfl rfl rfl (by decide)) (ltn rfl) ?_
              rintro l33 w33 H33
              refine wl_eff (e_append_ints H33.f2 ((H33).row_rd) Try.underlying22 (show (Try.prog.info? 21).map (fun i => (i.zero, i.size, i.bytes)) = some (some (.int .i32 0), 1, 4) by kernel_rfl) rfl rfl (by first | omega | (simp only [List.length_append, List.length_nil, List.length_cons]; omega) | (simp; omega)) (by first | omega | (simp only [List.length_append, List.length_nil, List.length_cons]; omega) | (simp; omega))) (ltn rfl) ?_
              rintro l34 w34 H34
              try simp only [List.nil_append] at H34
              refine wl_val (r_assign rfl) (ltn rfl) ?_
              refine wl_nil ?_
              refine wq_block_normal ?_
              refine wq_seq ?_
              refine wc_region ?_
              refine wl_val (r_move rfl) (ltn rfl) ?_
              refine wl_val (r_add rfl rfl (by omega)) (ltn rfl) ?_
              refine wl_val (r_assign rfl) (ltn rfl) ?_
              refine wl_nil ?_
              refine wq_round ((k + 1, l34)) ?_ ?_ ?_ ?_
              · exact (Sub.cons rfl (Sub.cons rfl (Sub.nil _)))
              · exact (Sub.cons rfl (Sub.nil _))
              · (try dsimp only)
                exact ⟨_, ⟨by omega, by subst hout; rw [flat_snoc hkl]; unfold enc3; first | (rw [if_pos hr, hr]; simp; done) | (rw [if_pos hr]; simp; done) | (rw [if_neg hr]; done) | (rw [if_neg hr]; simp; done)⟩, H34.f2.right.f2.right⟩
              · (try dsimp only); omega
            · (try simp only [beq_iff_eq, bne_iff_ne, ne_eq, decide_eq_true_eq, decide_eq_false_iff_not, beq_eq_false_iff_ne, bne_eq_false_iff_eq, Bool.not_eq_true', Bool.not_eq_false', Bool.not_eq_eq_eq_not, Bool.not_true, Bool.not_false, gt_iff_lt, ge_iff_le, Int.not_lt, Int.not_le] at h12)
              refine wl_yes rfl rfl ?_
              refine wl_val (r_move rfl) (ltn rfl) ?_
              refine wl_yes rfl rfl ?_
              refine wl_val (r_eql rfl rfl) (ltn rfl) ?_
              refine wl_val (r_pick_f rfl rfl) (ltn rfl) ?_
              refine wl_split rfl (ltn rfl) (fun h13 => ?_) (fun h13 => ?_)
              · (try simp only [beq_iff_eq, bne_iff_ne, ne_eq, decide_eq_true_eq, decide_eq_false_iff_not, beq_eq_false_iff_ne, bne_eq_false_iff_eq, Bool.not_eq_true', Bool.not_eq_false', Bool.not_eq_eq_eq_not, Bool.not_true, Bool.not_false, gt_iff_lt, ge_iff_le, Int.not_lt, Int.not_le] at h13)
                refine wl_no rfl rfl rfl (ltn rfl) ?_
                refine wl_no rfl rfl rfl (ltn rfl) ?_
                refine wl_val (r_pick_t rfl rfl) (ltn rfl) ?_
                refine wl_val (r_move rfl) (ltn rfl) ?_
                refine wl_no rfl rfl rfl (ltn rfl) ?_
                refine wl_no rfl rfl rfl (ltn rfl) ?_
                refine wl_val (r_pick_t rfl rfl) (ltn rfl) ?_
                refine wl_val (r_move rfl) (ltn rfl) ?_
                refine wl_no rfl rfl rfl (ltn rfl) ?_
                refine wl_no rfl rfl rfl (ltn rfl) ?_
                refine wl_val (r_pick_t rfl rfl) (ltn rfl) ?_
                refine wl_nil ?_
                refine wq_seq ?_
                refine wc_cond_t rfl ?_
                have hr : backS (l.getD k 0) = true := by first | exact bk_blank (by assumption) | exact bk_op (by assumption) | exact bk_in (by assumption) | exact bk_is (by omega)
                refine wc_region ?_
                refine wl_val (r_move rfl) (ltn rfl) ?_
                refine wl_eff (e_lit_ints (k := .i32) (l := [92]) HL Try.underlying22 Try.sizeOf21 Try.zeroValue21 rfl rfl rfl (by decide)) (ltn rfl) ?_
                rintro l35 w35 H35
                refine wl_eff (e_append_ints H35.f2 ((H35).row_rd) Try.underlying22 (show (Try.prog.info? 21).map (fun i => (i.zero, i.size, i.bytes)) = some (some (.int .i32 0), 1, 4) by kernel_rfl) rfl rfl (by first | omega | (simp only [List.length_append, List.length_nil, List.length_cons]; omega) | (simp; omega)) (by first | omega | (simp only [List.length_append, List.length_nil, List.length_cons]; omega) | (simp; omega))) (ltn rfl) ?_
                rintro l36 w36 H36
                try simp only [List.nil_append] at H36
                refine wl_val (r_assign rfl) (ltn rfl) ?_
                refine wl_nil ?_
                refine wq_seq ?_
                refine wc_region ?_
                refine wl_val (r_move rfl) (ltn rfl) ?_
                refine wl_val (r_move rfl) (ltn rfl) ?_
                refine wl_eff (e_lit_ints (k := .i32) (l := [_]) H36 Try.underlying22 Try.sizeOf21 Try.zeroValue21 rfl rfl rfl (by decide)) (ltn rfl) ?_
                rintro l37 w37 H37
                refine wl_eff (e_append_ints H37.f2 ((H37).row_rd) Try.underlying22 (show (Try.prog.info? 21).map (fun i => (i.zero, i.size, i.bytes)) = some (some (.int .i32 0), 1, 4) by kernel_rfl) rfl rfl (by first | omega | (simp only [List.length_append, List.length_nil, List.length_cons]; omega) | (simp; omega)) (by first | omega | (simp only [List.length_append, List.length_nil, List.length_cons]; omega) | (simp; omega))) (ltn rfl) ?_
                rintro l38 w38 H38
                try simp only [List.nil_append] at H38
                refine wl_val (r_assign rfl) (ltn rfl) ?_
                refine wl_nil ?_
                refine wq_block_normal ?_
                refine wq_seq ?_
                refine wc_region ?_
                refine wl_val (r_move rfl) (ltn rfl) ?_
                refine wl_val (r_add rfl rfl (by omega)) (ltn rfl) ?_
                refine wl_val (r_assign rfl) (ltn rfl) ?_
                refine wl_nil ?_
                refine wq_round ((k + 1, l38)) ?_ ?_ ?_ ?_
                · exact (Sub.cons rfl (Sub.cons rfl (Sub.nil _)))
                · exact (Sub.cons rfl (Sub.nil _))
                · (try dsimp only)
                  exact ⟨_, ⟨by omega, by subst hout; rw [flat_snoc hkl]; unfold enc3; first | (rw [if_pos hr, hr]; simp; done) | (rw [if_pos hr]; simp; done) | (rw [if_neg hr]; done) | (rw [if_neg hr]; simp; done)⟩, H38.f2.right.f2.right⟩
                · (try dsimp only); omega
              · (try simp only [beq_iff_eq, bne_iff_ne, ne_eq, decide_eq_true_eq, decide_eq_false_iff_not, beq_eq_false_iff_ne, bne_eq_false_iff_eq, Bool.not_eq_true', Bool.not_eq_false', Bool.not_eq_eq_eq_not, Bool.not_true, Bool.not_false, gt_iff_lt, ge_iff_le, Int.not_lt, Int.not_le] at h13)
                refine wl_yes rfl rfl ?_
                refine wl_val (r_move rfl) (ltn rfl) ?_
                refine wl_yes rfl rfl ?_
                refine wl_val (r_eql rfl rfl) (ltn rfl) ?_
                refine wl_val (r_pick_f rfl rfl) (ltn rfl) ?_
                refine wl_split rfl (ltn rfl) (fun h14 => ?_) (fun h14 => ?_)
                · (try simp only [beq_iff_eq, bne_iff_ne, ne_eq, decide_eq_true_eq, decide_eq_false_iff_not, beq_eq_false_iff_ne, bne_eq_false_iff_eq, Bool.not_eq_true', Bool.not_eq_false', Bool.not_eq_eq_eq_not, Bool.not_true, Bool.not_false, gt_iff_lt, ge_iff_le, Int.not_lt, Int.not_le] at h14)
                  refine wl_no rfl rfl rfl (ltn rfl) ?_
                  refine wl_no rfl rfl rfl (ltn rfl) ?_
                  refine wl_val (r_pick_t rfl rfl) (ltn rfl) ?_
                  refine wl_val (r_move rfl) (ltn rfl) ?_
                  refine wl_no rfl rfl rfl (ltn rfl) ?_
                  refine wl_no rfl rfl rfl (ltn rfl) ?_
                  refine wl_val (r_pick_t rfl rfl) (ltn rfl) ?_
                  refine wl_nil ?_
                  refine wq_seq ?_
                  refine wc_cond_t rfl ?_
                  have hr : backS (l.getD k 0) = true := by first | exact bk_blank (by assumption) | exact bk_op (by assumption) | exact bk_in (by assumption) | exact bk_is (by omega)
                  refine wc_region ?_
                  refine wl_val (r_move rfl) (ltn rfl) ?_
                  refine wl_eff (e_lit_ints (k := .i32) (l := [92]) HL Try.underlying22 Try.sizeOf21 Try.zeroValue21 rfl rfl rfl (by decide)) (ltn rfl) ?_
                  rintro l39 w39 H39
                  refine wl_eff (e_append_ints H39.f2 ((H39).row_rd) Try.underlying22 (show (Try.prog.info? 21).map (fun i => (i.zero, i.size, i.bytes)) = some (some (.int .i32 0), 1, 4) by kernel_rfl) rfl rfl (by first | omega | (simp only [List.length_append, List.length_nil, List.length_cons]; omega) | (simp; omega)) (by first | omega | (simp only [List.length_append, List.length_nil, List.length_cons]; omega) | (simp; omega))) (ltn rfl) ?_
                  rintro l40 w40 H40
                  try simp only [List.nil_append] at H40
                  refine wl_val (r_assign rfl) (ltn rfl) ?_
                  refine wl_nil ?_
                  refine wq_seq ?_
                  refine wc_region ?_
                  refine wl_val (r_move rfl) (ltn rfl) ?_
                  refine wl_val (r_move rfl) (ltn rfl) ?_
                  refine wl_eff (e_lit_ints (k := .i32) (l := [_]) H40 Try.underlying22 Try.sizeOf21 Try.zeroValue21 rfl rfl rfl (by decide)) (ltn rfl) ?_
                  rintro l41 w41 H41
                  refine wl_eff (e_append_ints H41.f2 ((H41).row_rd) Try.underlying22 (show (Try.prog.info? 21).map (fun i => (i.zero, i.size, i.bytes)) = some (some (.int .i32 0), 1, 4) by kernel_rfl) rfl rfl (by first | omega | (simp only [List.length_append, List.length_nil, List.length_cons]; omega) | (simp; omega)) (by first | omega | (simp only [List.length_append, List.length_nil, List.length_cons]; omega) | (simp; omega))) (ltn rfl) ?_
                  rintro l42 w42 H42
                  try simp only [List.nil_append] at H42
                  refine wl_val (r_assign rfl) (ltn rfl) ?_
                  refine wl_nil ?_
                  refine wq_block_normal ?_
                  refine wq_seq ?_
                  refine wc_region ?_
                  refine wl_val (r_move rfl) (ltn rfl) ?_
                  refine wl_val (r_add rfl rfl (by omega)) (ltn rfl) ?_
                  refine wl_val (r_assign rfl) (ltn rfl) ?_
                  refine wl_nil ?_
                  refine wq_round ((k + 1, l42)) ?_ ?_ ?_ ?_
                  · exact (Sub.cons rfl (Sub.cons rfl (Sub.nil _)))
                  · exact (Sub.cons rfl (Sub.nil _))
                  · (try dsimp only)
                    exact ⟨_, ⟨by omega, by subst hout; rw [flat_snoc hkl]; unfold enc3; first | (rw [if_pos hr, hr]; simp; done) | (rw [if_pos hr]; simp; done) | (rw [if_neg hr]; done) | (rw [if_neg hr]; simp; done)⟩, H42.f2.right.f2.right⟩
                  · (try dsimp only); omega
                · (try simp only [beq_iff_eq, bne_iff_ne, ne_eq, decide_eq_true_eq, decide_eq_false_iff_not, beq_eq_false_iff_ne, bne_eq_false_iff_eq, Bool.not_eq_true', Bool.not_eq_false', Bool.not_eq_eq_eq_not, Bool.not_true, Bool.not_false, gt_iff_lt, ge_iff_le, Int.not_lt, Int.not_le] at h14)
                  refine wl_yes rfl rfl ?_
                  refine wl_val (r_move rfl) (ltn rfl) ?_
                  refine wl_yes rfl rfl ?_
                  refine wl_val (r_eql rfl rfl) (ltn rfl) ?_
                  refine wl_val (r_pick_f rfl rfl) (ltn rfl) ?_
                  refine wl_split rfl (ltn rfl) (fun h15 => ?_) (fun h15 => ?_)
                  · (try simp only [beq_iff_eq, bne_iff_ne, ne_eq, decide_eq_true_eq, decide_eq_false_iff_not, beq_eq_false_iff_ne, bne_eq_false_iff_eq, Bool.not_eq_true', Bool.not_eq_false', Bool.not_eq_eq_eq_not, Bool.not_true, Bool.not_false, gt_iff_lt, ge_iff_le, Int.not_lt, Int.not_le] at h15)
                    refine wl_no rfl rfl rfl (ltn rfl) ?_
                    refine wl_no rfl rfl rfl (ltn rfl) ?_
                    refine wl_val (r_pick_t rfl rfl) (ltn rfl) ?_
                    refine wl_nil ?_
                    refine wq_seq ?_
                    refine wc_cond_t rfl ?_
                    have hr : backS (l.getD k 0) = true := by first | exact bk_blank (by assumption) | exact bk_op (by assumption) | exact bk_in (by assumption) | exact bk_is (by omega)
                    refine wc_region ?_
                    refine wl_val (r_move rfl) (ltn rfl) ?_
                    refine wl_eff (e_lit_ints (k := .i32) (l := [92]) HL Try.underlying22 Try.sizeOf21 Try.zeroValue21 rfl rfl rfl (by decide)) (ltn rfl) ?_
                    rintro l43 w43 H43
                    refine wl_eff (e_append_ints H43.f2 ((H43).row_rd) Try.underlying22 (show (Try.prog.info? 21).map (fun i => (i.zero, i.size, i.bytes)) = some (some (.int .i32 0), 1, 4) by kernel_rfl) rfl rfl (by first | omega | (simp only [List.length_append, List.length_nil, List.length_cons]; omega) | (simp; omega)) (by first | omega | (simp only [List.length_append, List.length_nil, List.length_cons]; omega) | (simp; omega))) (ltn rfl) ?_
                    rintro l44 w44 H44
                    try simp only [List.nil_append] at H44
                    refine wl_val (r_assign rfl) (ltn rfl) ?_
                    refine wl_nil ?_
                    refine wq_seq ?_
                    refine wc_region ?_
                    refine wl_val (r_move rfl) (ltn rfl) ?_
                    refine wl_val (r_move rfl) (ltn rfl) ?_
                    refine wl_eff (e_lit_ints (k := .i32) (l := [_]) H44 Try.underlying22 Try.sizeOf21 Try.zeroValue21 rfl rfl rfl (by decide)) (ltn rfl) ?_
                    rintro l45 w45 H45
                    refine wl_eff (e_append_ints H45.f2 ((H45).row_rd) Try.underlying22 (show (Try.prog.info? 21).map (fun i => (i.zero, i.size, i.bytes)) = some (some (.int .i32 0), 1, 4) by kernel_rfl) rfl rfl (by first | omega | (simp only [List.length_append, List.length_nil, List.length_cons]; omega) | (simp; omega)) (by first | omega | (simp only [List.length_append, List.length_nil, List.length_cons]; omega) | (simp; omega))) (ltn rfl) ?_
                    rintro l46 w46 H46
                    try simp only [List.nil_append] at H46
                    refine wl_val (r_assign rfl) (ltn rfl) ?_
                    refine wl_nil ?_
                    refine wq_block_normal ?_
                    refine wq_seq ?_
                    refine wc_region ?_
                    refine wl_val (r_move rfl) (ltn rfl) ?_
                    refine wl_val (r_add rfl rfl (by omega)) (ltn rfl) ?_
                    refine wl_val (r_assign rfl) (ltn rfl) ?_
                    refine wl_nil ?_
                    refine wq_round ((k + 1, l46)) ?_ ?_ ?_ ?_
                    · exact (Sub.cons rfl (Sub.cons rfl (Sub.nil _)))
                    · exact (Sub.cons rfl (Sub.nil _))
                    · (try dsimp only)
                      exact ⟨_, ⟨by omega, by subst hout; rw [flat_snoc hkl]; unfold enc3; first | (rw [if_pos hr, hr]; simp; done) | (rw [if_pos hr]; simp; done) | (rw [if_neg hr]; done) | (rw [if_neg hr]; simp; done)⟩, H46.f2.right.f2.right⟩
                    · (try dsimp only); omega
                  · (try simp only [beq_iff_eq, bne_iff_ne, ne_eq, decide_eq_true_eq, decide_eq_false_iff_not, beq_eq_false_iff_ne, bne_eq_false_iff_eq, Bool.not_eq_true', Bool.not_eq_false', Bool.not_eq_eq_eq_not, Bool.not_true, Bool.not_false, gt_iff_lt, ge_iff_le, Int.not_lt, Int.not_le] at h15)
                    refine wl_yes rfl rfl ?_
                    refine wl_val (r_move rfl) (ltn rfl) ?_
                    refine wl_yes rfl rfl ?_
                    refine wl_eff (e_call (r_call rfl Try.func38 rfl rfl) (ref_in_ret (by decide))) (ltn rfl) ?_
                    rintro _ _ ⟨rfl, rfl⟩
                    refine wl_val (r_pick_f rfl rfl) (ltn rfl) ?_
                    refine wl_nil ?_
                    refine wq_seq ?_
                    refine wc_cond rfl (fun h16 => ?_) (fun h16 => ?_)
                    · (try simp only [beq_iff_eq, bne_iff_ne, ne_eq, decide_eq_true_eq, decide_eq_false_iff_not, beq_eq_false_iff_ne, bne_eq_false_iff_eq, Bool.not_eq_true', Bool.not_eq_false', Bool.not_eq_eq_eq_not, Bool.not_true, Bool.not_false, gt_iff_lt, ge_iff_le, Int.not_lt, Int.not_le] at h16)
                      
                      have hr : backS (l.getD k 0) = true := by first | exact bk_blank (by assumption) | exact bk_op (by assumption) | exact bk_in (by assumption) | exact bk_is (by omega)
                      refine wc_region ?_
                      refine wl_val (r_move rfl) (ltn rfl) ?_
                      refine wl_eff (e_lit_ints (k := .i32) (l := [92]) HL Try.underlying22 Try.sizeOf21 Try.zeroValue21 rfl rfl rfl (by decide)) (ltn rfl) ?_
                      rintro l48 w48 H48
                      refine wl_eff (e_append_ints H48.f2 ((H48).row_rd) Try.underlying22 (show (Try.prog.info? 21).map (fun i => (i.zero, i.size, i.bytes)) = some (some (.int .i32 0), 1, 4) by kernel_rfl) rfl rfl (by first | omega | (simp only [List.length_append, List.length_nil, List.length_cons]; omega) | (simp; omega)) (by first | omega | (simp only [List.length_append, List.length_nil, List.length_cons]; omega) | (simp; omega))) (ltn rfl) ?_
                      rintro l49 w49 H49
                      try simp only [List.nil_append] at H49
                      refine wl_val (r_assign rfl) (ltn rfl) ?_
                      refine wl_nil ?_
                      refine wq_seq ?_
                      refine wc_region ?_
                      refine wl_val (r_move rfl) (ltn rfl) ?_
                      refine wl_val (r_move rfl) (ltn rfl) ?_
                      refine wl_eff (e_lit_ints (k := .i32) (l := [_]) H49 Try.underlying22 Try.sizeOf21 Try.zeroValue21 rfl rfl rfl (by decide)) (ltn rfl) ?_
                      rintro l50 w50 H50
                      refine wl_eff (e_append_ints H50.f2 ((H50).row_rd) Try.underlying22 (show (Try.prog.info? 21).map (fun i => (i.zero, i.size, i.bytes)) = some (some (.int .i32 0), 1, 4) by kernel_rfl) rfl rfl (by first | omega | (simp only [List.length_append, List.length_nil, List.length_cons]; omega) | (simp; omega)) (by first | omega | (simp only [List.length_append, List.length_nil, List.length_cons]; omega) | (simp; omega))) (ltn rfl) ?_
                      rintro l51 w51 H51
                      try simp only [List.nil_append] at H51
                      refine wl_val (r_assign rfl) (ltn rfl) ?_
                      refine wl_nil ?_
                      refine wq_block_normal ?_
                      refine wq_seq ?_
                      refine wc_region ?_
                      refine wl_val (r_move rfl) (ltn rfl) ?_
                      refine wl_val (r_add rfl rfl (by omega)) (ltn rfl) ?_
                      refine wl_val (r_assign rfl) (ltn rfl) ?_
                      refine wl_nil ?_
                      refine wq_round ((k + 1, l51)) ?_ ?_ ?_ ?_
                      · exact (Sub.cons rfl (Sub.cons rfl (Sub.nil _)))
                      · exact (Sub.cons rfl (Sub.nil _))
                      · (try dsimp only)
                        exact ⟨_, ⟨by omega, by subst hout; rw [flat_snoc hkl]; unfold enc3; first | (rw [if_pos hr, hr]; simp; done) | (rw [if_pos hr]; simp; done) | (rw [if_neg hr]; done) | (rw [if_neg hr]; simp; done)⟩, H51.f2.right.f2.right⟩
                      · (try dsimp only); omega
                    · (try simp only [beq_iff_eq, bne_iff_ne, ne_eq, decide_eq_true_eq, decide_eq_false_iff_not, beq_eq_false_iff_ne, bne_eq_false_iff_eq, Bool.not_eq_true', Bool.not_eq_false', Bool.not_eq_eq_eq_not, Bool.not_true, Bool.not_false, gt_iff_lt, ge_iff_le, Int.not_lt, Int.not_le] at h16)
                      have hr : ¬ backS (l.getD k 0) = true := bk_not (by assumption) (by assumption) (by assumption) (by assumption) (by assumption) h16
                      refine wc_skip ?_
                      refine wq_seq ?_
                      refine wc_region ?_
                      refine wl_val (r_move rfl) (ltn rfl) ?_
                      refine wl_val (r_move rfl) (ltn rfl) ?_
                      refine wl_eff (e_lit_ints (k := .i32) (l := [_]) HL Try.underlying22 Try.sizeOf21 Try.zeroValue21 rfl rfl rfl (by decide)) (ltn rfl) ?_
                      rintro l52 w52 H52
                      refine wl_eff (e_append_ints H52.f2 ((H52).row_rd) Try.underlying22 (show (Try.prog.info? 21).map (fun i => (i.zero, i.size, i.bytes)) = some (some (.int .i32 0), 1, 4) by kernel_rfl) rfl rfl (by first | omega | (simp only [List.length_append, List.length_nil, List.length_cons]; omega) | (simp; omega)) (by first | omega | (simp only [List.length_append, List.length_nil, List.length_cons]; omega) | (simp; omega))) (ltn rfl) ?_
                      rintro l53 w53 H53
                      try simp only [List.nil_append] at H53
                      refine wl_val (r_assign rfl) (ltn rfl) ?_
                      refine wl_nil ?_
                      refine wq_block_normal ?_
                      refine wq_seq ?_
                      refine wc_region ?_
                      refine wl_val (r_move rfl) (ltn rfl) ?_
                      refine wl_val (r_add rfl rfl (by omega)) (ltn rfl) ?_
                      refine wl_val (r_assign rfl) (ltn rfl) ?_
                      refine wl_nil ?_
                      refine wq_round ((k + 1, l53)) ?_ ?_ ?_ ?_
                      · exact (Sub.cons rfl (Sub.cons rfl (Sub.nil _)))
                      · exact (Sub.cons rfl (Sub.nil _))
                      · (try dsimp only)
                        exact ⟨_, ⟨by omega, by subst hout; rw [flat_snoc hkl]; unfold enc3; first | (rw [if_pos hr, hr]; simp; done) | (rw [if_pos hr]; simp; done) | (rw [if_neg hr]; done) | (rw [if_neg hr]; simp; done)⟩, H53.f2.right⟩
                      · (try dsimp only); omega
        · (try simp only [beq_iff_eq, bne_iff_ne, ne_eq, decide_eq_true_eq, decide_eq_false_iff_not, beq_eq_false_iff_ne, bne_eq_false_iff_eq, Bool.not_eq_true', Bool.not_eq_false', Bool.not_eq_eq_eq_not, Bool.not_true, Bool.not_false, gt_iff_lt, ge_iff_le, Int.not_lt, Int.not_le] at h10)
          
          refine wc_exit ?_
          refine wq_then_exit ?_
          refine wq_then_exit ?_
          refine wq_block_hit ?_
          refine wq_seq ?_
          refine wc_seq ?_
          refine wc_region ?_
          refine wl_val (r_move rfl) (ltn rfl) ?_
          refine wl_val (r_lenR (hv _ (HL.right)) Try.underlying22 rfl) (ltn rfl) ?_
          refine wl_val (r_eql rfl rfl) (ltn rfl) ?_
          refine wl_nil ?_
          refine wq_seq ?_
          refine wc_cond rfl (fun h17 => ?_) (fun h17 => ?_)
          · (try simp only [beq_iff_eq, bne_iff_ne, ne_eq, decide_eq_true_eq, decide_eq_false_iff_not, beq_eq_false_iff_ne, bne_eq_false_iff_eq, Bool.not_eq_true', Bool.not_eq_false', Bool.not_eq_eq_eq_not, Bool.not_true, Bool.not_false, gt_iff_lt, ge_iff_le, Int.not_lt, Int.not_le] at h17)
            
            have hle : out.length ≤ 4 * l.length + 1 := by rw [hout]; have := enc_len enc3_le (l.take k); rw [List.length_take] at this; omega
            refine wc_region ?_
            refine wl_val (r_move rfl) (ltn rfl) ?_
            refine wl_eff (e_lit_ints (k := .i32) (l := [39, 39]) HL Try.underlying22 Try.sizeOf21 Try.zeroValue21 rfl rfl rfl (by decide)) (ltn rfl) ?_
            rintro l54 w54 H54
            refine wl_eff (e_append_ints H54.f2 ((H54).row_rd) Try.underlying22 (show (Try.prog.info? 21).map (fun i => (i.zero, i.size, i.bytes)) = some (some (.int .i32 0), 1, 4) by kernel_rfl) rfl rfl (by first | omega | (simp only [List.length_append, List.length_nil, List.length_cons]; omega) | (simp; omega)) (by first | omega | (simp only [List.length_append, List.length_nil, List.length_cons]; omega) | (simp; omega))) (ltn rfl) ?_
            rintro l55 w55 H55
            try simp only [List.nil_append] at H55
            refine wl_val (r_assign rfl) (ltn rfl) ?_
            refine wl_nil ?_
            refine wq_block_normal ?_
            refine wq_seq ?_
            refine wc_seq ?_
            refine wc_seq ?_
            obtain ⟨ol, hol, HQ⟩ : ∃ ol, ol = quoteL st l ∧ Holds w0 w55 (RowI 21 .i32 l55 ol • F) := by
              refine ⟨_, ?_, H55.f2.right⟩
              unfold quoteL
              first
                | (rw [if_pos (by omega), hout, show k = l.length by omega, List.take_length]; done)
                | (rw [if_neg (by omega), if_pos (by omega), hout, show k = l.length by omega, List.take_length]; done)
                | (have hn : l = [] := List.eq_nil_of_length_eq_zero (by omega)
                   rw [if_neg (by omega), if_neg (by omega), if_pos hn, hout, hn, List.take_nil]; rfl)
                | (rw [if_neg (by omega), if_neg (by omega), if_neg (by intro q; subst q; simp at *), hout, show k = l.length by omega, List.take_length]; done)
            have hst : 1 ≤ st ∧ st ≤ 3 := by omega
            refine wc_region ?_
            refine wl_val (r_move rfl) (ltn rfl) ?_
            refine wl_val (r_lenR ((HQ).row_rd) Try.underlying22 rfl) (ltn rfl) ?_
            refine wl_val (r_gtr rfl rfl) (ltn rfl) ?_
            refine wl_nil ?_
            refine wq_seq ?_
            refine wc_cond rfl (fun h18 => ?_) (fun h18 => ?_)
            · (try simp only [beq_iff_eq, bne_iff_ne, ne_eq, decide_eq_true_eq, decide_eq_false_iff_not, beq_eq_false_iff_ne, bne_eq_false_iff_eq, Bool.not_eq_true', Bool.not_eq_false', Bool.not_eq_eq_eq_not, Bool.not_true, Bool.not_false, gt_iff_lt, ge_iff_le, Int.not_lt, Int.not_le] at h18)
              
              refine wc_seq ?_
              refine wc_region ?_
              refine wl_val (r_assign rfl) (ltn rfl) ?_
              refine wl_val (r_assign rfl) (ltn rfl) ?_
              refine wl_nil ?_
              refine wq_seq ?_
              refine wc_ret ?_
              refine wq_then_ret ?_
              refine wq_end2 (.inl rfl) Try.results19 rfl rfl ?_
              have hq : quoteE st l = 3 := by unfold quoteE; rw [if_neg (by omega), if_pos (by rw [← hol]; omega)]
              refine ⟨_, by rw [hq], ?_⟩
              unfold quoteR; rw [hq, if_neg (by decide)]; exact (HQ.right).row_nil none
            · (try simp only [beq_iff_eq, bne_iff_ne, ne_eq, decide_eq_true_eq, decide_eq_false_iff_not, beq_eq_false_iff_ne, bne_eq_false_iff_eq, Bool.not_eq_true', Bool.not_eq_false', Bool.not_eq_eq_eq_not, Bool.not_true, Bool.not_false, gt_iff_lt, ge_iff_le, Int.not_lt, Int.not_le] at h18)
              
              refine wc_skip ?_
              refine wq_seq ?_
              refine wc_seq ?_
              refine wc_region ?_
              refine wl_val (r_move rfl) (ltn rfl) ?_
              refine wl_val (r_assign rfl) (ltn rfl) ?_
              refine wl_val (r_assign rfl) (ltn rfl) ?_
              refine wl_nil ?_
              refine wq_seq ?_
              refine wc_ret ?_
              refine wq_end2 (.inl rfl) Try.results19 rfl rfl ?_
              have hq : quoteE st l = 0 := by unfold quoteE; rw [if_neg (by omega), if_neg (by rw [← hol]; omega)]
              refine ⟨_, by rw [hq], ?_⟩
              unfold quoteR; rw [hq, if_pos rfl, ← hol]; exact HQ
          · (try simp only [beq_iff_eq, bne_iff_ne, ne_eq, decide_eq_true_eq, decide_eq_false_iff_not, beq_eq_false_iff_ne, bne_eq_false_iff_eq, Bool.not_eq_true', Bool.not_eq_false', Bool.not_eq_eq_eq_not, Bool.not_true, Bool.not_false, gt_iff_lt, ge_iff_le, Int.not_lt, Int.not_le] at h17)
            
            refine wc_skip ?_
            refine wq_block_normal ?_
            refine wq_seq ?_
            refine wc_seq ?_
            refine wc_seq ?_
            obtain ⟨ol, hol, HQ⟩ : ∃ ol, ol = quoteL st l ∧ Holds w0 w24 (RowI 21 .i32 u ol • F) := by
              refine ⟨_, ?_, HL⟩
              unfold quoteL
              first
                | (rw [if_pos (by omega), hout, show k = l.length by omega, List.take_length]; done)
                | (rw [if_neg (by omega), if_pos (by omega), hout, show k = l.length by omega, List.take_length]; done)
                | (have hn : l = [] := List.eq_nil_of_length_eq_zero (by omega)
                   rw [if_neg (by omega), if_neg (by omega), if_pos hn, hout, hn, List.take_nil]; rfl)
                | (rw [if_neg (by omega), if_neg (by omega), if_neg (by intro q; subst q; simp at *), hout, show k = l.length by omega, List.take_length]; done)
            have hst : 1 ≤ st ∧ st ≤ 3 := by omega
            refine wc_region ?_
            refine wl_val (r_move rfl) (ltn rfl) ?_
            refine wl_val (r_lenR ((HQ).row_rd) Try.underlying22 rfl) (ltn rfl) ?_
            refine wl_val (r_gtr rfl rfl) (ltn rfl) ?_
            refine wl_nil ?_
            refine wq_seq ?_
            refine wc_cond rfl (fun h19 => ?_) (fun h19 => ?_)
            · (try simp only [beq_iff_eq, bne_iff_ne, ne_eq, decide_eq_true_eq, decide_eq_false_iff_not, beq_eq_false_iff_ne, bne_eq_false_iff_eq, Bool.not_eq_true', Bool.not_eq_false', Bool.not_eq_eq_eq_not, Bool.not_true, Bool.not_false, gt_iff_lt, ge_iff_le, Int.not_lt, Int.not_le] at h19)
              
              refine wc_seq ?_
              refine wc_region ?_
              refine wl_val (r_assign rfl) (ltn rfl) ?_
              refine wl_val (r_assign rfl) (ltn rfl) ?_
              refine wl_nil ?_
              refine wq_seq ?_
              refine wc_ret ?_
              refine wq_then_ret ?_
              refine wq_end2 (.inl rfl) Try.results19 rfl rfl ?_
              have hq : quoteE st l = 3 := by unfold quoteE; rw [if_neg (by omega), if_pos (by rw [← hol]; omega)]
              refine ⟨_, by rw [hq], ?_⟩
              unfold quoteR; rw [hq, if_neg (by decide)]; exact (HQ.right).row_nil none
            · (try simp only [beq_iff_eq, bne_iff_ne, ne_eq, decide_eq_true_eq, decide_eq_false_iff_not, beq_eq_false_iff_ne, bne_eq_false_iff_eq, Bool.not_eq_true', Bool.not_eq_false', Bool.not_eq_eq_eq_not, Bool.not_true, Bool.not_false, gt_iff_lt, ge_iff_le, Int.not_lt, Int.not_le] at h19)
              
              refine wc_skip ?_
              refine wq_seq ?_
              refine wc_seq ?_
              refine wc_region ?_
              refine wl_val (r_move rfl) (ltn rfl) ?_
              refine wl_val (r_assign rfl) (ltn rfl) ?_
              refine wl_val (r_assign rfl) (ltn rfl) ?_
              refine wl_nil ?_
              refine wq_seq ?_
              refine wc_ret ?_
              refine wq_end2 (.inl rfl) Try.results19 rfl rfl ?_
              have hq : quoteE st l = 0 := by unfold quoteE; rw [if_neg (by omega), if_neg (by rw [← hol]; omega)]
              refine ⟨_, by rw [hq], ?_⟩
              unfold quoteR; rw [hq, if_pos rfl, ← hol]; exact HQ
      · (try simp only [beq_iff_eq, bne_iff_ne, ne_eq, decide_eq_true_eq, decide_eq_false_iff_not, beq_eq_false_iff_ne, bne_eq_false_iff_eq, Bool.not_eq_true', Bool.not_eq_false', Bool.not_eq_eq_eq_not, Bool.not_true, Bool.not_false, gt_iff_lt, ge_iff_le, Int.not_lt, Int.not_le] at h9)
        
        refine wc_seq ?_
        refine wc_region ?_
        refine wl_val (r_assign rfl) (ltn rfl) ?_
        refine wl_val (r_assign rfl) (ltn rfl) ?_
        refine wl_nil ?_
        refine wq_seq ?_
        refine wc_ret ?_
        refine wq_block_ret ?_
        refine wq_then_ret ?_
        refine wq_end2 (.inl rfl) Try.results19 rfl rfl ?_
        have hq : quoteE st l = 1 := by unfold quoteE; rw [if_pos (by omega)]
        refine ⟨_, by rw [hq], ?_⟩
        unfold quoteR; rw [hq, if_neg (by decide)]; exact (H).row_nil none
end
end Go.Proofs.Ytgoopiakpbcgoaa
