/- UndoTakesBack, walked. -/
import Derived.Test.YtaabgcfeghcmnaaUChain
set_option linter.unusedSimpArgs false
set_option linter.unusedVariables false
namespace Go.Proofs.Ytaabgcfeghcmnaa
open Go.RowKit
/-- A step as it stands in memory. -/
structure BSt where
  a : Int
  m : Int
  z : Value
  il : List Int
  x1 : Bool
  x2 : Bool
instance : Inhabited BSt := ⟨⟨0, 0, .slice none 0 0, [], false, false⟩⟩
def BSt.enc (e : BSt) : List Value := [.int .i64 e.a, .int .i64 e.m, e.z, .bool e.x1, .bool e.x2]
theorem BSt.enc_len (e : BSt) : e.enc.length = 5 := rfl
def BSt.Reads (W : World) (e : BSt) : Prop := RdI W .i32 e.z e.il ∧ e.il.length ≤ 35184372087808 ∧ e.a ≤ 9223372036854775807
theorem len_add {G : List (List EdA)} {N : List EdA} {op a : Int} {dl il : List Int} (he : addE G N a dl il = 0) (hN : op ≤ 0 → N = []) :
    ((G.length : Int) + min 1 N.length < (addG G N op a dl il).length + min 1 (addN G N op a dl il).length) ↔ ¬ (0 < op ∧ N ≠ []) := by
  by_cases ho : 0 < op
  · rw [addG_in he ho, addN_in he ho, List.length_append]
    by_cases hNe : N = []
    · subst hNe; simp [ho]; omega
    · have : 0 < N.length := List.length_pos_iff.2 hNe
      simp [ho, hNe]; omega
  · obtain rfl := hN (by omega)
    rw [addG_out he ho, addN_out he ho]
    simp [ho]; omega
theorem addE_why {G : List (List EdA)} {N : List EdA} {q : Nat} {dl il : List Int} (h : 0 < dl.length + il.length) (he : addE G N q dl il ≠ 0) : 16384 ≤ uTot G N := by
  unfold addE at he
  rw [if_neg (by omega)] at he
  by_cases c : 16384 ≤ uTot G N
  · exact c
  · rw [if_neg c] at he; exact absurd rfl he
theorem closeG_len {G : List (List EdA)} {N : List EdA} : (closeG G N).length ≤ G.length + 1 := by
  unfold closeG; split <;> simp
theorem closeG_len2 {G : List (List EdA)} {N : List EdA} : (closeG G N).length = G.length + min 1 N.length := by
  unfold closeG; split
  · rename_i h; subst h; rfl
  · rename_i h; have := List.length_pos_iff.2 h; rw [List.length_append, List.length_singleton]; omega
theorem undo_chain {L cur x : List Int} {G : List (List EdA)} {N : List EdA} {wr : List (List Int)} (h : chainR L (closeG G N).reverse (x :: wr) cur) :
    undoE G N = 0 ∧ doneM cur (undoR G N) = some x ∧ chainR L (closeG (undoG G N) (undoN G N)).reverse wr x := by
  have hl := chainR_len h
  have h0 : ¬ G.length + N.length = 0 := by
    have h1 := closeG_len2 (G := G) (N := N)
    simp only [List.length_reverse, List.length_cons] at hl
    omega
  unfold undoE undoR undoG undoN
  rw [if_neg h0, if_neg h0, if_neg h0, if_neg h0, closeG_nil rfl]
  rcases List.eq_nil_or_concat (closeG G N) with hc | ⟨hs, g, hc⟩
  · rw [hc] at h; exact h.elim
  · rw [List.concat_eq_append] at hc
    rw [hc, List.reverse_append] at h
    rw [hc]
    refine ⟨rfl, ?_, ?_⟩
    · simpa using h.1
    · simpa using h.2
theorem done_len {L x : List Int} {l : List EdA} (h : doneM L l = some x) : x.length ≤ max L.length 1024 := by
  induction l generalizing L with
  | nil => obtain rfl : L = x := Option.some.inj h; omega
  | cons e r ih =>
    have h2 : (if uE L e.1 e.2.1 e.2.2 = 0 then doneM (uL L e.1 e.2.1 e.2.2) r else none) = some x := h
    by_cases c : uE L e.1 e.2.1 e.2.2 = 0
    · rw [if_pos c] at h2
      have := ih h2
      have := uL_le c
      omega
    · rw [if_neg c] at h2; cases h2
theorem EB_inv {e : EdA} (h : EB e) : EB (invA e) := ⟨h.2, h.1⟩
theorem EB_close {G : List (List EdA)} {N : List EdA} {op : Int} (h : UOk G N op) : ∀ g ∈ closeG G N, ∀ e ∈ g, EB e := by
  unfold closeG; split
  · exact h.2.2.2.2.1
  · exact EBs_snoc h.2.2.2.2.1 h.2.2.2.2.2
theorem EB_rev {G : List (List EdA)} {N : List EdA} {op : Int} (h : UOk G N op) : ∀ e ∈ revR G N, EB e := fun e he => by
  obtain ⟨x, hx, rfl⟩ := List.mem_map.1 he
  obtain ⟨g, hg, hxg⟩ := List.mem_flatten.1 (List.mem_reverse.1 hx)
  exact EB_inv (EB_close h g hg x hxg)
theorem len_rev {G : List (List EdA)} {N : List EdA} {op : Int} (h : UOk G N op) : (revR G N).length ≤ 16384 := by
  have h1 := h.2.1
  rw [← uTot_close] at h1
  unfold uTot at h1
  rw [sum_len] at h1
  simp only [revR, List.length_map, List.length_reverse]
  omega
theorem undoR_of {G : List (List EdA)} {N : List EdA} {op : Int} (h : UOk G N op) : (∀ e ∈ undoR G N, EB e) ∧ (undoR G N).length ≤ 16384 := by
  unfold undoR; split
  · simp
  · rcases List.eq_nil_or_concat (closeG G N) with hc | ⟨hs, g, hc⟩
    · rw [hc]; simp
    · have hg : g ∈ closeG G N := by rw [hc]; simp
      have hl : (closeG G N).getLastD [] = g := by rw [hc]; simp
      rw [hl]
      refine ⟨fun e he => ?_, ?_⟩
      · obtain ⟨x, hx, rfl⟩ := List.mem_map.1 he
        exact EB_inv (EB_close h g hg x (List.mem_reverse.1 hx))
      · have h1 := h.2.1
        rw [← uTot_close] at h1
        unfold uTot at h1
        have := len_mem hg
        simp only [List.length_map, List.length_reverse]
        omega
theorem Holds.uok {w0 w : World} {F : HP} {p : Nat} {G : List (List EdA)} {N : List EdA} {op : Int} (H : Holds w0 w (UList p G N op • F)) : UOk G N op := by obtain ⟨gv, nv, gs, now, k1, _⟩ := H.ulist; exact k1
theorem undo_takes {w : World} {v lv : Value} {L : List Int} {sts : List BSt} (g : RdI w .i32 v L) (b1 : L.length ≤ 35184372087808) (g2 : Rd w 5 lv sts.length (sts.flatMap BSt.enc)) (g3 : ∀ k, k < sts.length → (sts.getD k default).Reads w) :
    Ret Try.prog 6 #[v, lv] w fun v w' => v = .bool true ∧ Below w.heap.size w w' := by
  obtain ⟨F, H⟩ : ∃ F, Holds w w F := ⟨_, Holds.start w⟩
  have hl : FRdI w F .i32 v L := FRdI.of_start g F
  have hv : FRd w F 5 lv sts.length (sts.flatMap BSt.enc) := FRd.of_start g2 F
  have hbl : (sts.length : Int) ≤ 9223372036854775807 := by obtain ⟨_, a, c, _, h1, h2, _⟩ := g2; omega
  refine ret_enter Try.func6 rfl Try.ntmps6 (Nat.le_of_ble_eq_true rfl) ?_
  dsimp only [slots0, Nat.reduceAdd]
  refine wc_seq ?_
  refine wc_region ?_
  refine wl_val (r_assign rfl) (ltn rfl) ?_
  refine wl_nil ?_
  refine wq_seq ?_
  refine wc_seq ?_
  refine wc_region ?_
  refine wl_eff (e_call (r_call rfl Try.func19 rfl rfl) (undo_new_ret H)) (ltn rfl) ?_
  rintro _ w1 ⟨p1, rfl, H1⟩
  refine wl_val (r_assign rfl) (ltn rfl) ?_
  refine wl_nil ?_
  refine wq_seq ?_
  refine wc_seq ?_
  refine wc_seq ?_
  refine wc_region ?_
  refine wl_eff (e_call (r_call rfl Try.func13 rfl rfl) (begun_ret H1)) (ltn rfl) ?_
  rintro _ w2 ⟨rfl, H2⟩
  refine wl_val (r_not rfl) (ltn rfl) ?_
  refine wl_split rfl (ltn rfl) (fun h => by exfalso; (try simp only [beq_iff_eq, bne_iff_ne, ne_eq, decide_eq_true_eq, decide_eq_false_iff_not, beq_eq_false_iff_ne, bne_eq_false_iff_eq, Bool.not_eq_true', Bool.not_eq_false', Bool.not_eq_eq_eq_not, Bool.not_true, Bool.not_false, gt_iff_lt, ge_iff_le, Int.not_lt, Int.not_le] at h); simp at h) (fun h1 => ?_)
  (try simp only [beq_iff_eq, bne_iff_ne, ne_eq, decide_eq_true_eq, decide_eq_false_iff_not, beq_eq_false_iff_ne, bne_eq_false_iff_eq, Bool.not_eq_true', Bool.not_eq_false', Bool.not_eq_eq_eq_not, Bool.not_true, Bool.not_false, gt_iff_lt, ge_iff_le, Int.not_lt, Int.not_le] at h1)
  refine wl_yes rfl rfl ?_
  refine wl_val (r_move rfl) (ltn rfl) ?_
  refine wl_yes rfl rfl ?_
  refine wl_val (r_ptr_nil Try.underlying40 rfl rfl) (ltn rfl) ?_
  refine wl_val (r_pick_f rfl rfl) (ltn rfl) ?_
  refine wl_nil ?_
  refine wq_seq ?_
  refine wc_cond rfl (fun h => by exfalso; (try simp only [beq_iff_eq, bne_iff_ne, ne_eq, decide_eq_true_eq, decide_eq_false_iff_not, beq_eq_false_iff_ne, bne_eq_false_iff_eq, Bool.not_eq_true', Bool.not_eq_false', Bool.not_eq_eq_eq_not, Bool.not_true, Bool.not_false, gt_iff_lt, ge_iff_le, Int.not_lt, Int.not_le] at h); simp at h) (fun h2 => ?_)
  (try simp only [beq_iff_eq, bne_iff_ne, ne_eq, decide_eq_true_eq, decide_eq_false_iff_not, beq_eq_false_iff_ne, bne_eq_false_iff_eq, Bool.not_eq_true', Bool.not_eq_false', Bool.not_eq_eq_eq_not, Bool.not_true, Bool.not_false, gt_iff_lt, ge_iff_le, Int.not_lt, Int.not_le] at h2)
  refine wc_skip ?_
  refine wq_seq ?_
  refine wc_seq ?_
  refine wc_seq ?_
  refine wc_region ?_
  refine wl_val (r_move rfl) (ltn rfl) ?_
  refine wl_val (r_lenR (hl _ (H2.right)) Try.underlying22 rfl) (ltn rfl) ?_
  refine wl_val (r_gtr rfl rfl) (ltn rfl) ?_
  refine wl_nil ?_
  refine wq_seq ?_
  refine wc_cond rfl (fun h3 => ?_) (fun h3 => ?_)
  · (try simp only [beq_iff_eq, bne_iff_ne, ne_eq, decide_eq_true_eq, decide_eq_false_iff_not, beq_eq_false_iff_ne, bne_eq_false_iff_eq, Bool.not_eq_true', Bool.not_eq_false', Bool.not_eq_eq_eq_not, Bool.not_true, Bool.not_false, gt_iff_lt, ge_iff_le, Int.not_lt, Int.not_le] at h3)
    
    refine wc_seq ?_
    refine wc_region ?_
    refine wl_val (r_assign rfl) (ltn rfl) ?_
    refine wl_nil ?_
    refine wq_seq ?_
    refine wc_ret ?_
    refine wq_then_ret ?_
    refine wq_end1 (.inl rfl) Try.results6 rfl ?_
    exact ⟨rfl, H2.base⟩
  · (try simp only [beq_iff_eq, bne_iff_ne, ne_eq, decide_eq_true_eq, decide_eq_false_iff_not, beq_eq_false_iff_ne, bne_eq_false_iff_eq, Bool.not_eq_true', Bool.not_eq_false', Bool.not_eq_eq_eq_not, Bool.not_true, Bool.not_false, gt_iff_lt, ge_iff_le, Int.not_lt, Int.not_le] at h3)
    have hL1 : L.length ≤ 1024 := by have h9 := h3; omega
    refine wc_skip ?_
    refine wq_seq ?_
    refine wc_seq ?_
    refine wc_region ?_
    refine wl_val (r_move rfl) (ltn rfl) ?_
    refine wl_eff (e_append_ints (l := []) (H2.row_nil none) (hl _ (H2.right)) Try.underlying22 (show (Try.prog.info? 21).map (fun i => (i.zero, i.size, i.bytes)) = some (some (.int .i32 0), 1, 4) by kernel_rfl) rfl rfl (by first | omega | (simp only [List.length_append, List.length_nil, List.length_cons]; omega) | (simp; omega)) (by first | omega | (simp only [List.length_append, List.length_nil, List.length_cons]; omega) | (simp; omega))) (ltn rfl) ?_
    rintro l3 w3 H3
    try simp only [List.nil_append] at H3
    refine wl_val (r_assign rfl) (ltn rfl) ?_
    refine wl_nil ?_
    refine wq_seq ?_
    refine wc_seq ?_
    refine wc_region ?_
    refine wl_val (r_assign rfl) (ltn rfl) ?_
    refine wl_nil ?_
    refine wq_seq ?_
    refine wc_seq ?_
    refine wc_region ?_
    refine wl_val (r_assign rfl) (ltn rfl) ?_
    refine wl_nil ?_
    refine wq_seq ?_
    refine wc_seq ?_
    refine wc_seq ?_
    refine wc_region ?_
    refine wl_val (r_move rfl) (ltn rfl) ?_
    refine wl_val (r_lenS (hv _ (H3.right.right)) Try.underlying53 rfl) (ltn rfl) ?_
    refine wl_val (r_move rfl) (ltn rfl) ?_
    refine wl_nil ?_
    refine wq_seq ?_
    refine wc_block ?_
    refine wc_loop [(0, _), (5, _), (35, _), (36, _)] (fun (⟨k, cv, wv, ob⟩ : Nat × Value × Value × Bool) => [(6, cv), (7, wv), (8, .bool ob), (37, .int .i64 (k : Int))]) (fun (⟨k, cv, wv, ob⟩ : Nat × Value × Value × Bool) W => k ≤ sts.length ∧ ∃ G N op vs ws cur, (chainR L (closeG G N).reverse ws.reverse cur ∧ cur.length ≤ 1024 ∧ op = (if ob = true then 1 else 0) ∧ (op ≤ 0 → N = [])) ∧ Holds w W (immI .i32 cv cur • Row 22 1 wv ws.length vs • immsI .i32 vs ws • UList p1 G N op • F)) (fun (⟨k, cv, wv, ob⟩ : Nat × Value × Value × Bool) => sts.length - k) ((0, l3, .slice none 0 0, false)) (Sub.cons rfl (Sub.cons rfl (Sub.cons rfl (Sub.cons rfl (Sub.nil _))))) (Sub.cons rfl (Sub.cons rfl (Sub.cons rfl (Sub.cons rfl (Sub.nil _))))) ⟨by omega, [], [], 0, [], [], L, ⟨rfl, hL1, rfl, fun _ => rfl⟩, ((H3.f2.f2).freezeI.imms_nil.row_nil none).f3⟩ ?_
    rintro ⟨k, cv, wv, ob⟩ w4 ⟨hk, G, N, op, vs, ws, cur, ⟨hch, hcl, hop, hN⟩, HL⟩
    dsimp only [List.cons_append, List.nil_append]
    refine wc_seq ?_
    refine wc_region ?_
    refine wl_val (r_lss rfl rfl) (ltn rfl) ?_
    refine wl_nil ?_
    refine wq_seq ?_
    refine wc_seq ?_
    refine wc_cond rfl (fun h4 => ?_) (fun h4 => ?_)
    · (try simp only [beq_iff_eq, bne_iff_ne, ne_eq, decide_eq_true_eq, decide_eq_false_iff_not, beq_eq_false_iff_ne, bne_eq_false_iff_eq, Bool.not_eq_true', Bool.not_eq_false', Bool.not_eq_eq_eq_not, Bool.not_true, Bool.not_false, gt_iff_lt, ge_iff_le, Int.not_lt, Int.not_le] at h4)
      
      refine wc_skip ?_
      refine wq_seq ?_
      refine wc_join [(0, _), (5, _), (35, _), (36, _), (37, _)] (fun (⟨cv4, wv4, ob4⟩ : Value × Value × Bool) => [(6, cv4), (7, wv4), (8, .bool ob4)]) (fun (⟨cv4, wv4, ob4⟩ : Value × Value × Bool) W => ∃ G4 N4 op4 vs4 ws4 cur4, (chainR L (closeG G4 N4).reverse ws4.reverse cur4 ∧ cur4.length ≤ 1024 ∧ op4 = (if ob4 = true then 1 else 0) ∧ (op4 ≤ 0 → N4 = [])) ∧ Holds w W (immI .i32 cv4 cur4 • Row 22 1 wv4 ws4.length vs4 • immsI .i32 vs4 ws4 • UList p1 G4 N4 op4 • F)) (Sub.cons rfl (Sub.cons rfl (Sub.cons rfl (Sub.cons rfl (Sub.cons rfl (Sub.nil _)))))) ?_ ?_
      · rintro ⟨cv4, wv4, ob4⟩ w5 ⟨G4, N4, op4, vs4, ws4, cur4, hfin5, HJ4⟩
        dsimp only [List.cons_append, List.nil_append]
        refine wc_region ?_
        refine wl_val (r_add rfl rfl (by omega)) (ltn rfl) ?_
        refine wl_val (r_move rfl) (ltn rfl) ?_
        refine wl_nil ?_
        refine wq_round ((k + 1, cv4, wv4, ob4)) ?_ ?_ ?_ ?_
        · exact (Sub.cons rfl (Sub.cons rfl (Sub.cons rfl (Sub.cons rfl (Sub.nil _)))))
        · exact (Sub.cons rfl (Sub.cons rfl (Sub.cons rfl (Sub.cons rfl (Sub.nil _)))))
        · (try dsimp only)
          exact ⟨by omega, _, _, _, _, _, _, hfin5, HJ4.f4.f4.f4.f4⟩
        · (try dsimp only); omega
      · skip
        refine wc_block ?_
        refine wc_seq ?_
        refine wc_region ?_
        obtain ⟨blv, olv, clv, elv⟩ := Rd.posV (hv _ (HL.right.right.right.right)) (by omega)
        cases elv
        refine wl_val (r_index Try.underlying53 Try.sizeOf36 rfl rfl (by omega)) (ltn rfl) ?_
        refine wl_val (r_load_elem (ys := [_, _, _, _, _]) (hv _ (HL.right.right.right.right)) (by omega) Try.underlying36 rfl Try.sizeOf36 rfl (flat_elem BSt.enc_len (by omega) default) rfl) (ltn rfl) ?_
        have hkl : k < sts.length := by omega
        obtain ⟨r1, r2, r3⟩ := g3 k hkl
        have f1 := FRdI.of_start r1 F
        refine wl_eff (e_allocL (l := [_, _, _, _, _]) HL Try.zeroValue36 rfl) (ltn rfl) ?_
        rintro _ w6 ⟨b6, rfl, H6⟩
        refine wl_eff0 (e_storePL 0 (l' := [_, _, _, _, _]) (us := [_, _, _, _, _]) H6 Try.sizeOf36 rfl rfl rfl (ones_cons (by first | rfl | assumption) (ones_cons (by first | rfl | assumption) (ones_cons (by first | rfl | exact Rd.one (f1 _ (H6.right.right.right.right.right))) (ones_cons (by first | rfl | assumption) (ones_cons (by first | rfl | assumption) ones_nil))))) rfl rfl) ?_
        rintro _ w7 H7
        refine wl_nil ?_
        refine wq_seq ?_
        refine wc_join [(0, _), (5, _), (6, _), (7, _), (10, _), (35, _), (36, _), (37, _)] (fun (ob2 : Bool) => [(8, .bool ob2)]) (fun (ob2 : Bool) W => ∃ op2, ((op2 = if ob2 = true then 1 else 0) ∧ (op2 ≤ 0 → N = [])) ∧ Holds w W (immI .i32 cv cur • Row 22 1 wv ws.length vs • immsI .i32 vs ws • UList p1 G N op2 • blk b6 (.cells (sts.getD k default).enc.toArray 36 (0, 0)) • F)) (Sub.cons rfl (Sub.cons rfl (Sub.cons rfl (Sub.cons rfl (Sub.cons rfl (Sub.cons rfl (Sub.cons rfl (Sub.cons rfl (Sub.nil _))))))))) ?_ ?_
        · rintro ob2 w8 ⟨op2, ⟨hop2, hN2⟩, HJ⟩
          dsimp only [List.cons_append, List.nil_append]
          refine wc_seq ?_
          have hokA := (HJ.f4).uok
          have hwl : ws.length ≤ 16385 := by
            have h9 := chainR_len hch
            rw [List.length_reverse, List.length_reverse] at h9
            have h8 := closeG_len (G := G) (N := N)
            have h7 := hokA.len
            omega
          refine wc_region ?_
          refine wl_val (r_load_whole Try.underlying36 rfl Try.sizeOf36 rfl rfl (HJ.f5).get.2) (ltn rfl) ?_
          refine wl_val (r_move rfl) (ltn rfl) ?_
          refine wl_eff (e_call (r_call rfl Try.func18 rfl rfl) (step_edit_ret HJ (fun W HW => (HW).imm_rd) (fun W HW => f1 _ (HW.right.right.right.right.right)) (by omega) (by omega))) (ltn rfl) ?_
          rintro _ w9 ⟨q9, n9, d9, hq9, rfl, H9⟩
          obtain ⟨q, rfl⟩ : ∃ q, q = q9 := ⟨_, rfl⟩
          obtain ⟨n, rfl⟩ : ∃ n, n = n9 := ⟨_, rfl⟩
          have hq := hq9
          have hc := cutL_len hq
          refine wl_eff (e_allocL (l := [_, _, _]) H9 Try.zeroValue24 rfl) (ltn rfl) ?_
          rintro _ w10 ⟨b10, rfl, H10⟩
          refine wl_eff0 (e_storePL 0 (l' := [_, _, _]) (us := [_, _, _]) H10 Try.sizeOf24 rfl rfl rfl (ones_cons (by first | rfl | assumption) (ones_cons (by first | rfl | exact Rd.one ((H10.f2).row_rd)) (ones_cons (by first | rfl | exact Rd.one (f1 _ (H10.right.right.right.right.right.right.right))) ones_nil))) rfl rfl) ?_
          rintro _ w11 H11
          refine wl_nil ?_
          refine wq_seq ?_
          refine wc_seq ?_
          refine wc_region ?_
          refine wl_val (r_move rfl) (ltn rfl) ?_
          refine wl_val (r_load_whole Try.underlying24 rfl Try.sizeOf24 rfl rfl (H11).get.2) (ltn rfl) ?_
          refine wl_eff (e_call (r_call rfl Try.func9 rfl rfl) (undo_apply_ret H11 (fun W HW => (HW.f3).imm_rd) (fun W HW => (HW.f2).row_rd) (fun W HW => f1 _ (HW.right.right.right.right.right.right.right)) (by omega) (by omega) (by omega))) (ltn rfl) ?_
          rintro _ w12 ⟨u12, rfl, H12⟩
          refine wl_val (r_move rfl) (ltn rfl) ?_
          refine wl_val (r_extract rfl rfl) (ltn rfl) ?_
          refine wl_val (r_extract rfl rfl) (ltn rfl) ?_
          refine wl_val (r_assign rfl) (ltn rfl) ?_
          refine wl_val (r_assign rfl) (ltn rfl) ?_
          refine wl_nil ?_
          refine wq_seq ?_
          refine wc_join [(0, _), (5, _), (8, _), (10, _), (35, _), (36, _), (37, _)] (fun (⟨cv3, wv3⟩ : Value × Value) => [(6, cv3), (7, wv3)]) (fun (⟨cv3, wv3⟩ : Value × Value) W => ∃ G3 N3 vs3 ws3 cur3, (chainR L (closeG G3 N3).reverse ws3.reverse cur3 ∧ cur3.length ≤ 1024 ∧ (op2 ≤ 0 → N3 = [])) ∧ Holds w W (immI .i32 cv3 cur3 • Row 22 1 wv3 ws3.length vs3 • immsI .i32 vs3 ws3 • UList p1 G3 N3 op2 • blk b6 (.cells (sts.getD k default).enc.toArray 36 (0, 0)) • F)) (Sub.cons rfl (Sub.cons rfl (Sub.cons rfl (Sub.cons rfl (Sub.cons rfl (Sub.cons rfl (Sub.cons rfl (Sub.nil _)))))))) ?_ ?_
          · rintro ⟨cv3, wv3⟩ w13 ⟨G3, N3, vs3, ws3, cur3, ⟨hch3, hcl3, hN3⟩, HJ3⟩
            dsimp only [List.cons_append, List.nil_append]
            refine wc_seq ?_
            refine wc_region ?_
            refine wl_val ((by first | exact r_field0 4 Try.underlying36 rfl rfl Try.sizeOf4 (by decide) rfl | exact r_field 4 Try.underlying36 rfl rfl Try.sizeOf4 (by decide) rfl)) (ltn rfl) ?_
            refine wl_val (r_load (plain_of Try.underlying4 rfl) rfl (cell_of_blk (HJ3.f5).get.2 rfl)) (ltn rfl) ?_
            refine wl_split rfl (ltn rfl) (fun h5 => ?_) (fun h5 => ?_)
            · (try simp only [beq_iff_eq, bne_iff_ne, ne_eq, decide_eq_true_eq, decide_eq_false_iff_not, beq_eq_false_iff_ne, bne_eq_false_iff_eq, Bool.not_eq_true', Bool.not_eq_false', Bool.not_eq_eq_eq_not, Bool.not_true, Bool.not_false, gt_iff_lt, ge_iff_le, Int.not_lt, Int.not_le] at h5)
              refine wl_yes rfl rfl ?_
              refine wl_val (r_move rfl) (ltn rfl) ?_
              refine wl_val (r_pick_t rfl rfl) (ltn rfl) ?_
              have hfin4 := And.intro hch3 (And.intro hcl3 (And.intro hop2 hN3))
              refine wl_nil ?_
              refine wq_seq ?_
              refine wc_cond rfl (fun h6 => ?_) (fun h6 => ?_)
              · (try simp only [beq_iff_eq, bne_iff_ne, ne_eq, decide_eq_true_eq, decide_eq_false_iff_not, beq_eq_false_iff_ne, bne_eq_false_iff_eq, Bool.not_eq_true', Bool.not_eq_false', Bool.not_eq_eq_eq_not, Bool.not_true, Bool.not_false, gt_iff_lt, ge_iff_le, Int.not_lt, Int.not_le] at h6)
                
                refine wc_seq ?_
                refine wc_region ?_
                refine wl_val (r_move rfl) (ltn rfl) ?_
                refine wl_eff (e_call (r_call rfl Try.func29 rfl rfl) (undo_end_ret HJ3.f4)) (ltn rfl) ?_
                rintro _ w14 ⟨rfl, H14⟩
                have h1 : op2 = 1 := by simp_all
                have hfin4 : chainR L (closeG (endG G3 N3 op2) (endN N3 op2)).reverse ws3.reverse cur3 ∧ cur3.length ≤ 1024 ∧ endO op2 = (if false = true then 1 else 0) ∧ (endO op2 ≤ 0 → endN N3 op2 = []) := by
                  subst h1
                  exact ⟨hch3, hcl3, rfl, fun _ => rfl⟩
                refine wl_nil ?_
                refine wq_seq ?_
                refine wc_region ?_
                refine wl_val (r_assign rfl) (ltn rfl) ?_
                refine wl_nil ?_
                refine wq_block_normal ?_
                refine wq_join (_, _, _) (Sub.cons rfl (Sub.cons rfl (Sub.cons rfl (Sub.nil _)))) (Sub.cons rfl (Sub.cons rfl (Sub.cons rfl (Sub.cons rfl (Sub.cons rfl (Sub.nil _)))))) (by (try dsimp only); exact ⟨_, _, _, _, _, _, hfin4, H14.f5.right.f4.f4.f4⟩)
              · (try simp only [beq_iff_eq, bne_iff_ne, ne_eq, decide_eq_true_eq, decide_eq_false_iff_not, beq_eq_false_iff_ne, bne_eq_false_iff_eq, Bool.not_eq_true', Bool.not_eq_false', Bool.not_eq_eq_eq_not, Bool.not_true, Bool.not_false, gt_iff_lt, ge_iff_le, Int.not_lt, Int.not_le] at h6)
                
                refine wc_skip ?_
                refine wq_block_normal ?_
                refine wq_join (_, _, _) (Sub.cons rfl (Sub.cons rfl (Sub.cons rfl (Sub.nil _)))) (Sub.cons rfl (Sub.cons rfl (Sub.cons rfl (Sub.cons rfl (Sub.cons rfl (Sub.nil _)))))) (by (try dsimp only); exact ⟨_, _, _, _, _, _, hfin4, HJ3.f5.right.f4.f4.f4.f4⟩)
            · (try simp only [beq_iff_eq, bne_iff_ne, ne_eq, decide_eq_true_eq, decide_eq_false_iff_not, beq_eq_false_iff_ne, bne_eq_false_iff_eq, Bool.not_eq_true', Bool.not_eq_false', Bool.not_eq_eq_eq_not, Bool.not_true, Bool.not_false, gt_iff_lt, ge_iff_le, Int.not_lt, Int.not_le] at h5)
              refine wl_no rfl rfl rfl (ltn rfl) ?_
              refine wl_val (r_pick_f rfl rfl) (ltn rfl) ?_
              have hfin4 := And.intro hch3 (And.intro hcl3 (And.intro hop2 hN3))
              refine wl_nil ?_
              refine wq_seq ?_
              refine wc_cond_f rfl ?_
              refine wc_skip ?_
              refine wq_block_normal ?_
              refine wq_join (_, _, _) (Sub.cons rfl (Sub.cons rfl (Sub.cons rfl (Sub.nil _)))) (Sub.cons rfl (Sub.cons rfl (Sub.cons rfl (Sub.cons rfl (Sub.cons rfl (Sub.nil _)))))) (by (try dsimp only); exact ⟨_, _, _, _, _, _, hfin4, HJ3.f5.right.f4.f4.f4.f4⟩)
          · skip
            refine wc_seq ?_
            refine wc_region ?_
            refine wl_val (r_move rfl) (ltn rfl) ?_
            refine wl_val (r_eql rfl rfl) (ltn rfl) ?_
            refine wl_split rfl (ltn rfl) (fun h7 => ?_) (fun h7 => ?_)
            · (try simp only [beq_iff_eq, bne_iff_ne, ne_eq, decide_eq_true_eq, decide_eq_false_iff_not, beq_eq_false_iff_ne, bne_eq_false_iff_eq, Bool.not_eq_true', Bool.not_eq_false', Bool.not_eq_eq_eq_not, Bool.not_true, Bool.not_false, gt_iff_lt, ge_iff_le, Int.not_lt, Int.not_le] at h7)
              have hE : uE cur q (cutL cur q n) (sts.getD k default).il = 0 := by assumption
              refine wl_yes rfl rfl ?_
              refine wl_val ((by first | exact r_field0 1 Try.underlying24 rfl rfl Try.sizeOf22 (by decide) rfl | exact r_field 1 Try.underlying24 rfl rfl Try.sizeOf22 (by decide) rfl)) (ltn rfl) ?_
              refine wl_yes rfl rfl ?_
              refine wl_val (r_load (plain_of Try.underlying22 rfl) rfl (cell_of_blk (H12.f2).get.2 rfl)) (ltn rfl) ?_
              refine wl_yes rfl rfl ?_
              refine wl_val (r_lenR ((H12.f3).row_rd) Try.underlying22 rfl) (ltn rfl) ?_
              refine wl_yes rfl rfl ?_
              refine wl_val ((by first | exact r_field0 2 Try.underlying24 rfl rfl Try.sizeOf22 (by decide) rfl | exact r_field 2 Try.underlying24 rfl rfl Try.sizeOf22 (by decide) rfl)) (ltn rfl) ?_
              refine wl_yes rfl rfl ?_
              refine wl_val (r_load (plain_of Try.underlying22 rfl) rfl (cell_of_blk (H12.f2).get.2 rfl)) (ltn rfl) ?_
              refine wl_yes rfl rfl ?_
              refine wl_val (r_lenR (f1 _ (H12.right.right.right.right.right.right.right.right)) Try.underlying22 rfl) (ltn rfl) ?_
              refine wl_yes rfl rfl ?_
              refine wl_val (r_add rfl rfl (by omega)) (ltn rfl) ?_
              refine wl_yes rfl rfl ?_
              refine wl_val (r_gtr rfl rfl) (ltn rfl) ?_
              refine wl_val (r_pick_t rfl rfl) (ltn rfl) ?_
              refine wl_nil ?_
              refine wq_seq ?_
              refine wc_cond rfl (fun h8 => ?_) (fun h8 => ?_)
              · (try simp only [beq_iff_eq, bne_iff_ne, ne_eq, decide_eq_true_eq, decide_eq_false_iff_not, beq_eq_false_iff_ne, bne_eq_false_iff_eq, Bool.not_eq_true', Bool.not_eq_false', Bool.not_eq_eq_eq_not, Bool.not_true, Bool.not_false, gt_iff_lt, ge_iff_le, Int.not_lt, Int.not_le] at h8)
                have hpos : 0 < (cutL cur q n).length + (sts.getD k default).il.length := by have h9 := h8; omega
                refine wc_seq ?_
                refine wc_region ?_
                refine wl_val (r_move rfl) (ltn rfl) ?_
                refine wl_eff (e_call (r_call rfl Try.func27 rfl rfl) (undo_len_ret H12.f7)) (ltn rfl) ?_
                rintro _ w15 ⟨rfl, H15⟩
                refine wl_val (r_assign rfl) (ltn rfl) ?_
                refine wl_nil ?_
                refine wq_seq ?_
                refine wc_seq ?_
                refine wc_seq ?_
                refine wc_region ?_
                refine wl_val (r_move rfl) (ltn rfl) ?_
                refine wl_val (r_load_whole Try.underlying24 rfl Try.sizeOf24 rfl rfl (H15.f3).get.2) (ltn rfl) ?_
                refine wl_eff (e_call (r_call rfl Try.func21 rfl rfl) (undo_add_ret H15 (fun W HW => (HW.f3).row_rd) (fun W HW => f1 _ (HW.right.right.right.right.right.right.right)) (by omega) (by omega))) (ltn rfl) ?_
                rintro _ w16 ⟨rfl, H16⟩
                refine wl_val (r_neq rfl rfl) (ltn rfl) ?_
                refine wl_nil ?_
                refine wq_seq ?_
                refine wc_cond rfl (fun h9 => ?_) (fun h9 => ?_)
                · (try simp only [beq_iff_eq, bne_iff_ne, ne_eq, decide_eq_true_eq, decide_eq_false_iff_not, beq_eq_false_iff_ne, bne_eq_false_iff_eq, Bool.not_eq_true', Bool.not_eq_false', Bool.not_eq_eq_eq_not, Bool.not_true, Bool.not_false, gt_iff_lt, ge_iff_le, Int.not_lt, Int.not_le] at h9)
                  have hadd1 : addE G N q (cutL cur q n) (sts.getD k default).il ≠ 0 := by simpa using h9
                  refine wc_seq ?_
                  refine wc_region ?_
                  refine wl_val (r_move rfl) (ltn rfl) ?_
                  refine wl_eff (e_call (r_call rfl Try.func28 rfl rfl) (undo_edits_ret H16)) (ltn rfl) ?_
                  rintro _ w17 ⟨rfl, H17⟩
                  refine wl_val (r_geq rfl rfl) (ltn rfl) ?_
                  refine wl_val (r_assign rfl) (ltn rfl) ?_
                  refine wl_nil ?_
                  refine wq_seq ?_
                  refine wc_ret ?_
                  refine wq_then_ret ?_
                  refine wq_then_ret ?_
                  refine wq_block_ret ?_
                  refine wq_then_ret ?_
                  refine wq_then_ret ?_
                  refine wq_block_ret ?_
                  refine wq_then_ret ?_
                  refine wq_end1 (.inl rfl) Try.results6 rfl ?_
                  have h9 := addE_why hpos hadd1
                  rw [addG_not hadd1, addN_not hadd1]
                  exact ⟨by simp; omega, H17.base⟩
                · (try simp only [beq_iff_eq, bne_iff_ne, ne_eq, decide_eq_true_eq, decide_eq_false_iff_not, beq_eq_false_iff_ne, bne_eq_false_iff_eq, Bool.not_eq_true', Bool.not_eq_false', Bool.not_eq_eq_eq_not, Bool.not_true, Bool.not_false, gt_iff_lt, ge_iff_le, Int.not_lt, Int.not_le] at h9)
                  have hadd0 : addE G N q (cutL cur q n) (sts.getD k default).il = 0 := by simpa using h9
                  refine wc_skip ?_
                  refine wq_seq ?_
                  refine wc_seq ?_
                  refine wc_seq ?_
                  refine wc_region ?_
                  refine wl_val (r_move rfl) (ltn rfl) ?_
                  refine wl_eff (e_call (r_call rfl Try.func27 rfl rfl) (undo_len_ret H16)) (ltn rfl) ?_
                  rintro _ w18 ⟨rfl, H18⟩
                  refine wl_val (r_move rfl) (ltn rfl) ?_
                  refine wl_val (r_gtr rfl rfl) (ltn rfl) ?_
                  refine wl_nil ?_
                  refine wq_seq ?_
                  refine wc_cond rfl (fun h10 => ?_) (fun h10 => ?_)
                  · (try simp only [beq_iff_eq, bne_iff_ne, ne_eq, decide_eq_true_eq, decide_eq_false_iff_not, beq_eq_false_iff_ne, bne_eq_false_iff_eq, Bool.not_eq_true', Bool.not_eq_false', Bool.not_eq_eq_eq_not, Bool.not_true, Bool.not_false, gt_iff_lt, ge_iff_le, Int.not_lt, Int.not_le] at h10)
                    have hne := (len_add hadd0 hN2).1 h10
                    refine wc_region ?_
                    refine wl_val (r_move rfl) (ltn rfl) ?_
                    refine wl_val (r_move rfl) (ltn rfl) ?_
                    refine wl_eff (e_lit_row (vs := [_]) H18 Try.underlying54 Try.sizeOf22 Try.zeroValue22 rfl rfl rfl (by decide) (ones_cons (by first | rfl | exact Rd.one ((H18.f5).imm_rd)) ones_nil)) (ltn rfl) ?_
                    rintro l19 w19 H19
                    refine wl_eff (e_append H19.f7 Try.underlying54 (show (Try.prog.info? 22).map (fun i => (i.zero, i.size, i.bytes)) = some (some (.slice none 0 0), 1, 24) by kernel_rfl) rfl rfl rfl ((H19).row_rd) (ones_cons (by first | rfl | exact Rd.one ((H19.f6).imm_rd)) ones_nil) (by omega) (by omega)) (ltn rfl) ?_
                    rintro l20 w20 H20
                    have Hd21 := H20.f2.right
                    refine wl_val (r_assign rfl) (ltn rfl) ?_
                    have hnb : doneM (uL cur q (cutL cur q n) (sts.getD k default).il) [invA ((q : Int), cutL cur q n, (sts.getD k default).il)] = some cur := by rw [uL_cut hq hE]; exact step_back hq hcl
                    have hnl := uL_le hE
                    have hNn : op2 ≤ 0 → addN G N op2 q (cutL cur q n) (sts.getD k default).il = [] := fun h9 => by rw [addN_out hadd0 (by omega)]; exact hN2 h9
                    have hnx := chainR_add hch hnb hadd0 hN2
                    rw [if_neg hne] at hnx
                    have hnx2 : chainR L (closeG (addG G N op2 q (cutL cur q n) (sts.getD k default).il) (addN G N op2 q (cutL cur q n) (sts.getD k default).il)).reverse (ws ++ [cur]).reverse (uL cur q (cutL cur q n) (sts.getD k default).il) := by rw [List.reverse_append]; exact hnx
                    have hfin := And.intro hnx2 (And.intro hnl hNn)
                    have HX := (Hd21.f4.right.f4.right.f6.f3.f6.f4.f6.f6).freezeI
                    have HFIN := (HX.f2.f4.imms_snoc).f3.f3
                    rw [show ws.length + 1 = (ws ++ [cur]).length from by simp] at HFIN
                    refine wl_nil ?_
                    refine wq_seq ?_
                    refine wc_region ?_
                    refine wl_val (r_move rfl) (ltn rfl) ?_
                    refine wl_val (r_assign rfl) (ltn rfl) ?_
                    refine wl_nil ?_
                    refine wq_join (_, _) (Sub.cons rfl (Sub.cons rfl (Sub.nil _))) (Sub.cons rfl (Sub.cons rfl (Sub.cons rfl (Sub.cons rfl (Sub.cons rfl (Sub.cons rfl (Sub.cons rfl (Sub.nil _)))))))) (by (try dsimp only); exact ⟨_, _, _, _, _, hfin, HFIN⟩)
                  · (try simp only [beq_iff_eq, bne_iff_ne, ne_eq, decide_eq_true_eq, decide_eq_false_iff_not, beq_eq_false_iff_ne, bne_eq_false_iff_eq, Bool.not_eq_true', Bool.not_eq_false', Bool.not_eq_eq_eq_not, Bool.not_true, Bool.not_false, gt_iff_lt, ge_iff_le, Int.not_lt, Int.not_le] at h10)
                    have hne : 0 < op2 ∧ N ≠ [] := Decidable.byContradiction fun c => by have h9 := (len_add hadd0 hN2).2 c; have h8 := h10; omega
                    have hnb : doneM (uL cur q (cutL cur q n) (sts.getD k default).il) [invA ((q : Int), cutL cur q n, (sts.getD k default).il)] = some cur := by rw [uL_cut hq hE]; exact step_back hq hcl
                    have hnl := uL_le hE
                    have hNn : op2 ≤ 0 → addN G N op2 q (cutL cur q n) (sts.getD k default).il = [] := fun h9 => by rw [addN_out hadd0 (by omega)]; exact hN2 h9
                    have hnx := chainR_add hch hnb hadd0 hN2
                    rw [if_pos hne] at hnx
                    have hfin := And.intro hnx (And.intro hnl hNn)
                    have HFIN := (H18.f3.right.f3.right.f3.right.f5.f2.f5.f5.f5).freezeI
                    refine wc_skip ?_
                    refine wq_seq ?_
                    refine wc_region ?_
                    refine wl_val (r_move rfl) (ltn rfl) ?_
                    refine wl_val (r_assign rfl) (ltn rfl) ?_
                    refine wl_nil ?_
                    refine wq_join (_, _) (Sub.cons rfl (Sub.cons rfl (Sub.nil _))) (Sub.cons rfl (Sub.cons rfl (Sub.cons rfl (Sub.cons rfl (Sub.cons rfl (Sub.cons rfl (Sub.cons rfl (Sub.nil _)))))))) (by (try dsimp only); exact ⟨_, _, _, _, _, hfin, HFIN⟩)
              · (try simp only [beq_iff_eq, bne_iff_ne, ne_eq, decide_eq_true_eq, decide_eq_false_iff_not, beq_eq_false_iff_ne, bne_eq_false_iff_eq, Bool.not_eq_true', Bool.not_eq_false', Bool.not_eq_eq_eq_not, Bool.not_true, Bool.not_false, gt_iff_lt, ge_iff_le, Int.not_lt, Int.not_le] at h8)
                
                refine wc_seq ?_
                have hfin := And.intro hch (And.intro hcl hN2)
                have HFIN := H12.right.right.right.f5.f5.f5.f5.f5
                refine wc_region ?_
                refine wl_val (r_move rfl) (ltn rfl) ?_
                refine wl_val (r_neq rfl rfl) (ltn rfl) ?_
                refine wl_split rfl (ltn rfl) (fun h11 => ?_) (fun h11 => ?_)
                · (try simp only [beq_iff_eq, bne_iff_ne, ne_eq, decide_eq_true_eq, decide_eq_false_iff_not, beq_eq_false_iff_ne, bne_eq_false_iff_eq, Bool.not_eq_true', Bool.not_eq_false', Bool.not_eq_eq_eq_not, Bool.not_true, Bool.not_false, gt_iff_lt, ge_iff_le, Int.not_lt, Int.not_le] at h11)
                  refine wl_yes rfl rfl ?_
                  refine wl_val (r_move rfl) (ltn rfl) ?_
                  refine wl_yes rfl rfl ?_
                  refine wl_val (r_neq rfl rfl) (ltn rfl) ?_
                  refine wl_val (r_pick_t rfl rfl) (ltn rfl) ?_
                  refine wl_nil ?_
                  refine wq_seq ?_
                  refine wc_cond rfl (fun h => by exfalso; (try simp only [beq_iff_eq, bne_iff_ne, ne_eq, decide_eq_true_eq, decide_eq_false_iff_not, beq_eq_false_iff_ne, bne_eq_false_iff_eq, Bool.not_eq_true', Bool.not_eq_false', Bool.not_eq_eq_eq_not, Bool.not_true, Bool.not_false, gt_iff_lt, ge_iff_le, Int.not_lt, Int.not_le] at h); simp_all) (fun h12 => ?_)
                  (try simp only [beq_iff_eq, bne_iff_ne, ne_eq, decide_eq_true_eq, decide_eq_false_iff_not, beq_eq_false_iff_ne, bne_eq_false_iff_eq, Bool.not_eq_true', Bool.not_eq_false', Bool.not_eq_eq_eq_not, Bool.not_true, Bool.not_false, gt_iff_lt, ge_iff_le, Int.not_lt, Int.not_le] at h12)
                  refine wc_skip ?_
                  refine wq_join (_, _) (Sub.cons rfl (Sub.cons rfl (Sub.nil _))) (Sub.cons rfl (Sub.cons rfl (Sub.cons rfl (Sub.cons rfl (Sub.cons rfl (Sub.cons rfl (Sub.cons rfl (Sub.nil _)))))))) (by (try dsimp only); exact ⟨_, _, _, _, _, hfin, HFIN⟩)
                · (try simp only [beq_iff_eq, bne_iff_ne, ne_eq, decide_eq_true_eq, decide_eq_false_iff_not, beq_eq_false_iff_ne, bne_eq_false_iff_eq, Bool.not_eq_true', Bool.not_eq_false', Bool.not_eq_eq_eq_not, Bool.not_true, Bool.not_false, gt_iff_lt, ge_iff_le, Int.not_lt, Int.not_le] at h11)
                  refine wl_no rfl rfl rfl (ltn rfl) ?_
                  refine wl_no rfl rfl rfl (ltn rfl) ?_
                  refine wl_val (r_pick_f rfl rfl) (ltn rfl) ?_
                  refine wl_nil ?_
                  refine wq_seq ?_
                  refine wc_cond_f rfl ?_
                  refine wc_skip ?_
                  refine wq_join (_, _) (Sub.cons rfl (Sub.cons rfl (Sub.nil _))) (Sub.cons rfl (Sub.cons rfl (Sub.cons rfl (Sub.cons rfl (Sub.cons rfl (Sub.cons rfl (Sub.cons rfl (Sub.nil _)))))))) (by (try dsimp only); exact ⟨_, _, _, _, _, hfin, HFIN⟩)
            · (try simp only [beq_iff_eq, bne_iff_ne, ne_eq, decide_eq_true_eq, decide_eq_false_iff_not, beq_eq_false_iff_ne, bne_eq_false_iff_eq, Bool.not_eq_true', Bool.not_eq_false', Bool.not_eq_eq_eq_not, Bool.not_true, Bool.not_false, gt_iff_lt, ge_iff_le, Int.not_lt, Int.not_le] at h7)
              have hE3 : uE cur q (cutL cur q n) (sts.getD k default).il = 3 := (uE_cut_or hq).resolve_left (by assumption)
              refine wl_no rfl rfl rfl (ltn rfl) ?_
              refine wl_no rfl rfl rfl (ltn rfl) ?_
              refine wl_no rfl rfl rfl (ltn rfl) ?_
              refine wl_no rfl rfl rfl (ltn rfl) ?_
              refine wl_no rfl rfl rfl (ltn rfl) ?_
              refine wl_no rfl rfl rfl (ltn rfl) ?_
              refine wl_no rfl rfl rfl (ltn rfl) ?_
              refine wl_no rfl rfl rfl (ltn rfl) ?_
              refine wl_val (r_pick_f rfl rfl) (ltn rfl) ?_
              refine wl_nil ?_
              refine wq_seq ?_
              refine wc_cond_f rfl ?_
              refine wc_seq ?_
              have hfin := And.intro hch (And.intro hcl hN2)
              have HFIN := H12.right.right.right.f5.f5.f5.f5.f5
              refine wc_region ?_
              refine wl_val (r_move rfl) (ltn rfl) ?_
              refine wl_val (r_neq rfl rfl) (ltn rfl) ?_
              refine wl_split rfl (ltn rfl) (fun h13 => ?_) (fun h13 => ?_)
              · (try simp only [beq_iff_eq, bne_iff_ne, ne_eq, decide_eq_true_eq, decide_eq_false_iff_not, beq_eq_false_iff_ne, bne_eq_false_iff_eq, Bool.not_eq_true', Bool.not_eq_false', Bool.not_eq_eq_eq_not, Bool.not_true, Bool.not_false, gt_iff_lt, ge_iff_le, Int.not_lt, Int.not_le] at h13)
                refine wl_yes rfl rfl ?_
                refine wl_val (r_move rfl) (ltn rfl) ?_
                refine wl_yes rfl rfl ?_
                refine wl_val (r_neq rfl rfl) (ltn rfl) ?_
                refine wl_val (r_pick_t rfl rfl) (ltn rfl) ?_
                refine wl_nil ?_
                refine wq_seq ?_
                refine wc_cond rfl (fun h => by exfalso; (try simp only [beq_iff_eq, bne_iff_ne, ne_eq, decide_eq_true_eq, decide_eq_false_iff_not, beq_eq_false_iff_ne, bne_eq_false_iff_eq, Bool.not_eq_true', Bool.not_eq_false', Bool.not_eq_eq_eq_not, Bool.not_true, Bool.not_false, gt_iff_lt, ge_iff_le, Int.not_lt, Int.not_le] at h); simp_all) (fun h14 => ?_)
                (try simp only [beq_iff_eq, bne_iff_ne, ne_eq, decide_eq_true_eq, decide_eq_false_iff_not, beq_eq_false_iff_ne, bne_eq_false_iff_eq, Bool.not_eq_true', Bool.not_eq_false', Bool.not_eq_eq_eq_not, Bool.not_true, Bool.not_false, gt_iff_lt, ge_iff_le, Int.not_lt, Int.not_le] at h14)
                refine wc_skip ?_
                refine wq_join (_, _) (Sub.cons rfl (Sub.cons rfl (Sub.nil _))) (Sub.cons rfl (Sub.cons rfl (Sub.cons rfl (Sub.cons rfl (Sub.cons rfl (Sub.cons rfl (Sub.cons rfl (Sub.nil _)))))))) (by (try dsimp only); exact ⟨_, _, _, _, _, hfin, HFIN⟩)
              · (try simp only [beq_iff_eq, bne_iff_ne, ne_eq, decide_eq_true_eq, decide_eq_false_iff_not, beq_eq_false_iff_ne, bne_eq_false_iff_eq, Bool.not_eq_true', Bool.not_eq_false', Bool.not_eq_eq_eq_not, Bool.not_true, Bool.not_false, gt_iff_lt, ge_iff_le, Int.not_lt, Int.not_le] at h13)
                refine wl_no rfl rfl rfl (ltn rfl) ?_
                refine wl_no rfl rfl rfl (ltn rfl) ?_
                refine wl_val (r_pick_f rfl rfl) (ltn rfl) ?_
                refine wl_nil ?_
                refine wq_seq ?_
                refine wc_cond_f rfl ?_
                refine wc_skip ?_
                refine wq_join (_, _) (Sub.cons rfl (Sub.cons rfl (Sub.nil _))) (Sub.cons rfl (Sub.cons rfl (Sub.cons rfl (Sub.cons rfl (Sub.cons rfl (Sub.cons rfl (Sub.cons rfl (Sub.nil _)))))))) (by (try dsimp only); exact ⟨_, _, _, _, _, hfin, HFIN⟩)
        · skip
          refine wc_seq ?_
          refine wc_region ?_
          refine wl_val ((by first | exact r_field0 3 Try.underlying36 rfl rfl Try.sizeOf4 (by decide) rfl | exact r_field 3 Try.underlying36 rfl rfl Try.sizeOf4 (by decide) rfl)) (ltn rfl) ?_
          refine wl_val (r_load (plain_of Try.underlying4 rfl) rfl (cell_of_blk (H7).get.2 rfl)) (ltn rfl) ?_
          refine wl_split rfl (ltn rfl) (fun h15 => ?_) (fun h15 => ?_)
          · (try simp only [beq_iff_eq, bne_iff_ne, ne_eq, decide_eq_true_eq, decide_eq_false_iff_not, beq_eq_false_iff_ne, bne_eq_false_iff_eq, Bool.not_eq_true', Bool.not_eq_false', Bool.not_eq_eq_eq_not, Bool.not_true, Bool.not_false, gt_iff_lt, ge_iff_le, Int.not_lt, Int.not_le] at h15)
            refine wl_yes rfl rfl ?_
            refine wl_val (r_move rfl) (ltn rfl) ?_
            refine wl_yes rfl rfl ?_
            refine wl_val (r_not rfl) (ltn rfl) ?_
            refine wl_val (r_pick_t rfl rfl) (ltn rfl) ?_
            refine wl_nil ?_
            refine wq_seq ?_
            refine wc_cond rfl (fun h16 => ?_) (fun h16 => ?_)
            · (try simp only [beq_iff_eq, bne_iff_ne, ne_eq, decide_eq_true_eq, decide_eq_false_iff_not, beq_eq_false_iff_ne, bne_eq_false_iff_eq, Bool.not_eq_true', Bool.not_eq_false', Bool.not_eq_eq_eq_not, Bool.not_true, Bool.not_false, gt_iff_lt, ge_iff_le, Int.not_lt, Int.not_le] at h16)
              
              refine wc_seq ?_
              refine wc_region ?_
              refine wl_val (r_move rfl) (ltn rfl) ?_
              refine wl_eff (e_call (r_call rfl Try.func26 rfl rfl) (undo_begin_ret H7.f5 (by omega))) (ltn rfl) ?_
              rintro _ w22 ⟨rfl, H22⟩
              refine wl_nil ?_
              refine wq_seq ?_
              refine wc_region ?_
              refine wl_val (r_assign rfl) (ltn rfl) ?_
              refine wl_nil ?_
              refine wq_join (_) (Sub.cons rfl (Sub.nil _)) (Sub.cons rfl (Sub.cons rfl (Sub.cons rfl (Sub.cons rfl (Sub.cons rfl (Sub.cons rfl (Sub.cons rfl (Sub.cons rfl (Sub.nil _))))))))) (by (try dsimp only); exact ⟨_, ⟨by first | exact hop | (rw [hop]; simp_all), by first | exact hN | (intro h9; split at hop <;> omega)⟩, H22.f2.f2.f5.f5.f5⟩)
            · (try simp only [beq_iff_eq, bne_iff_ne, ne_eq, decide_eq_true_eq, decide_eq_false_iff_not, beq_eq_false_iff_ne, bne_eq_false_iff_eq, Bool.not_eq_true', Bool.not_eq_false', Bool.not_eq_eq_eq_not, Bool.not_true, Bool.not_false, gt_iff_lt, ge_iff_le, Int.not_lt, Int.not_le] at h16)
              
              refine wc_skip ?_
              refine wq_join (_) (Sub.cons rfl (Sub.nil _)) (Sub.cons rfl (Sub.cons rfl (Sub.cons rfl (Sub.cons rfl (Sub.cons rfl (Sub.cons rfl (Sub.cons rfl (Sub.cons rfl (Sub.nil _))))))))) (by (try dsimp only); exact ⟨_, ⟨by first | exact hop | (rw [hop]; simp_all), by first | exact hN | (intro h9; split at hop <;> omega)⟩, H7.f5.f5.f5.f5⟩)
          · (try simp only [beq_iff_eq, bne_iff_ne, ne_eq, decide_eq_true_eq, decide_eq_false_iff_not, beq_eq_false_iff_ne, bne_eq_false_iff_eq, Bool.not_eq_true', Bool.not_eq_false', Bool.not_eq_eq_eq_not, Bool.not_true, Bool.not_false, gt_iff_lt, ge_iff_le, Int.not_lt, Int.not_le] at h15)
            refine wl_no rfl rfl rfl (ltn rfl) ?_
            refine wl_no rfl rfl rfl (ltn rfl) ?_
            refine wl_val (r_pick_f rfl rfl) (ltn rfl) ?_
            refine wl_nil ?_
            refine wq_seq ?_
            refine wc_cond_f rfl ?_
            refine wc_skip ?_
            refine wq_join (_) (Sub.cons rfl (Sub.nil _)) (Sub.cons rfl (Sub.cons rfl (Sub.cons rfl (Sub.cons rfl (Sub.cons rfl (Sub.cons rfl (Sub.cons rfl (Sub.cons rfl (Sub.nil _))))))))) (by (try dsimp only); exact ⟨_, ⟨by first | exact hop | (rw [hop]; simp_all), by first | exact hN | (intro h9; split at hop <;> omega)⟩, H7.f5.f5.f5.f5⟩)
    · (try simp only [beq_iff_eq, bne_iff_ne, ne_eq, decide_eq_true_eq, decide_eq_false_iff_not, beq_eq_false_iff_ne, bne_eq_false_iff_eq, Bool.not_eq_true', Bool.not_eq_false', Bool.not_eq_eq_eq_not, Bool.not_true, Bool.not_false, gt_iff_lt, ge_iff_le, Int.not_lt, Int.not_le] at h4)
      
      refine wc_exit ?_
      refine wq_then_exit ?_
      refine wq_then_exit ?_
      refine wq_block_hit ?_
      refine wq_seq ?_
      refine wc_seq ?_
      have hokB := (HL.f4).uok
      have hwl2 : ws.length = G.length + min 1 N.length := by
        have h9 := chainR_len hch
        rw [List.length_reverse, List.length_reverse, closeG_len2] at h9
        omega
      have hwl3 := hokB.len
      refine wc_region ?_
      refine wl_val (r_move rfl) (ltn rfl) ?_
      refine wl_eff (e_call (r_call rfl Try.func30 rfl rfl) (undo_clone_ret HL.f4)) (ltn rfl) ?_
      rintro _ w23 ⟨q23, rfl, H23⟩
      refine wl_val (r_assign rfl) (ltn rfl) ?_
      refine wl_nil ?_
      refine wq_seq ?_
      refine wc_seq ?_
      refine wc_seq ?_
      refine wc_region ?_
      refine wl_val (r_move rfl) (ltn rfl) ?_
      refine wl_val (r_ptr_nil Try.underlying40 rfl rfl) (ltn rfl) ?_
      refine wl_split rfl (ltn rfl) (fun h => by exfalso; (try simp only [beq_iff_eq, bne_iff_ne, ne_eq, decide_eq_true_eq, decide_eq_false_iff_not, beq_eq_false_iff_ne, bne_eq_false_iff_eq, Bool.not_eq_true', Bool.not_eq_false', Bool.not_eq_eq_eq_not, Bool.not_true, Bool.not_false, gt_iff_lt, ge_iff_le, Int.not_lt, Int.not_le] at h); simp at h) (fun h17 => ?_)
      (try simp only [beq_iff_eq, bne_iff_ne, ne_eq, decide_eq_true_eq, decide_eq_false_iff_not, beq_eq_false_iff_ne, bne_eq_false_iff_eq, Bool.not_eq_true', Bool.not_eq_false', Bool.not_eq_eq_eq_not, Bool.not_true, Bool.not_false, gt_iff_lt, ge_iff_le, Int.not_lt, Int.not_le] at h17)
      refine wl_yes rfl rfl ?_
      refine wl_val (r_move rfl) (ltn rfl) ?_
      refine wl_yes rfl rfl ?_
      refine wl_eff (e_call (r_call rfl Try.func27 rfl rfl) (undo_len_ret H23.f2)) (ltn rfl) ?_
      rintro _ w24 ⟨rfl, H24⟩
      refine wl_yes rfl rfl ?_
      refine wl_val (r_move rfl) (ltn rfl) ?_
      refine wl_yes rfl rfl ?_
      refine wl_val (r_lenS ((H24.f4).row_rd) Try.underlying54 rfl) (ltn rfl) ?_
      refine wl_yes rfl rfl ?_
      refine wl_val (r_neq rfl rfl) (ltn rfl) ?_
      refine wl_val (r_pick_f rfl rfl) (ltn rfl) ?_
      refine wl_nil ?_
      refine wq_seq ?_
      refine wc_cond rfl (fun h => by exfalso; (try simp only [beq_iff_eq, bne_iff_ne, ne_eq, decide_eq_true_eq, decide_eq_false_iff_not, beq_eq_false_iff_ne, bne_eq_false_iff_eq, Bool.not_eq_true', Bool.not_eq_false', Bool.not_eq_eq_eq_not, Bool.not_true, Bool.not_false, gt_iff_lt, ge_iff_le, Int.not_lt, Int.not_le] at h); omega) (fun h18 => ?_)
      (try simp only [beq_iff_eq, bne_iff_ne, ne_eq, decide_eq_true_eq, decide_eq_false_iff_not, beq_eq_false_iff_ne, bne_eq_false_iff_eq, Bool.not_eq_true', Bool.not_eq_false', Bool.not_eq_eq_eq_not, Bool.not_true, Bool.not_false, gt_iff_lt, ge_iff_le, Int.not_lt, Int.not_le] at h18)
      refine wc_skip ?_
      refine wq_seq ?_
      refine wc_seq ?_
      have hok := (H24).uok
      refine wc_region ?_
      refine wl_val (r_move rfl) (ltn rfl) ?_
      refine wl_val (r_move rfl) (ltn rfl) ?_
      refine wl_eff (e_call (r_call rfl Try.func32 rfl rfl) (undo_revert_ret H24.f2)) (ltn rfl) ?_
      rintro u25 w25 ⟨fs25, hfs25, H25⟩
      obtain ⟨fr, rfl⟩ : ∃ q, q = fs25 := ⟨_, rfl⟩
      have hfr := hfs25
      have Ho26 := H25.f2.f2
      have Hc27 := Holds.edL_freeze (es := fr) Ho26.deep
      have hLr : fr.length ≤ 16384 := by have h9 := congrArg List.length hfr; rw [List.length_map] at h9; have := len_rev hok; omega
      have hBr := EB_of hfr (EB_rev hok)
      have hdr : doneM cur (fr.map BEd.says) = some L := by rw [hfr]; unfold revR; rw [revR_eq]; exact chainR_revert hch
      refine wl_eff (e_call (r_call rfl Try.func31 rfl rfl) (done_ret Hc27.f4 hdr hBr hLr (by omega))) (ltn rfl) ?_
      rintro _ w28 ⟨u28, rfl, H28⟩
      refine wl_val (r_move rfl) (ltn rfl) ?_
      refine wl_val (r_extract rfl rfl) (ltn rfl) ?_
      refine wl_val (r_extract rfl rfl) (ltn rfl) ?_
      refine wl_val (r_assign rfl) (ltn rfl) ?_
      refine wl_val (r_assign rfl) (ltn rfl) ?_
      refine wl_nil ?_
      refine wq_seq ?_
      refine wc_seq ?_
      refine wc_seq ?_
      refine wc_region ?_
      refine wl_val (r_move rfl) (ltn rfl) ?_
      refine wl_val (r_not rfl) (ltn rfl) ?_
      refine wl_split rfl (ltn rfl) (fun h => by exfalso; (try simp only [beq_iff_eq, bne_iff_ne, ne_eq, decide_eq_true_eq, decide_eq_false_iff_not, beq_eq_false_iff_ne, bne_eq_false_iff_eq, Bool.not_eq_true', Bool.not_eq_false', Bool.not_eq_eq_eq_not, Bool.not_true, Bool.not_false, gt_iff_lt, ge_iff_le, Int.not_lt, Int.not_le] at h); simp at h) (fun h19 => ?_)
      (try simp only [beq_iff_eq, bne_iff_ne, ne_eq, decide_eq_true_eq, decide_eq_false_iff_not, beq_eq_false_iff_ne, bne_eq_false_iff_eq, Bool.not_eq_true', Bool.not_eq_false', Bool.not_eq_eq_eq_not, Bool.not_true, Bool.not_false, gt_iff_lt, ge_iff_le, Int.not_lt, Int.not_le] at h19)
      refine wl_yes rfl rfl ?_
      refine wl_val (r_move rfl) (ltn rfl) ?_
      refine wl_yes rfl rfl ?_
      refine wl_val (r_move rfl) (ltn rfl) ?_
      refine wl_yes rfl rfl ?_
      refine wl_eff (e_call (r_call rfl Try.func14 rfl rfl) (same_runes_eq _ _ _ _ ((H28).imm_rd) (hl _ (H28.right.right.right.right.right.right.right)))) (ltn rfl) ?_
      rintro _ w29 ⟨rfl, hD29⟩
      have HD29 := H28.drewn hD29
      refine wl_yes rfl rfl ?_
      refine wl_val (r_not rfl) (ltn rfl) ?_
      refine wl_val (r_pick_f rfl rfl) (ltn rfl) ?_
      refine wl_nil ?_
      refine wq_seq ?_
      refine wc_cond rfl (fun h => by exfalso; (try simp only [beq_iff_eq, bne_iff_ne, ne_eq, decide_eq_true_eq, decide_eq_false_iff_not, beq_eq_false_iff_ne, bne_eq_false_iff_eq, Bool.not_eq_true', Bool.not_eq_false', Bool.not_eq_eq_eq_not, Bool.not_true, Bool.not_false, gt_iff_lt, ge_iff_le, Int.not_lt, Int.not_le] at h); simp at h) (fun h20 => ?_)
      (try simp only [beq_iff_eq, bne_iff_ne, ne_eq, decide_eq_true_eq, decide_eq_false_iff_not, beq_eq_false_iff_ne, bne_eq_false_iff_eq, Bool.not_eq_true', Bool.not_eq_false', Bool.not_eq_eq_eq_not, Bool.not_true, Bool.not_false, gt_iff_lt, ge_iff_le, Int.not_lt, Int.not_le] at h20)
      refine wc_skip ?_
      refine wq_seq ?_
      refine wc_seq ?_
      refine wc_seq ?_
      refine wc_region ?_
      refine wl_val (r_move rfl) (ltn rfl) ?_
      refine wl_val (r_lenS ((HD29.f6).row_rd) Try.underlying54 rfl) (ltn rfl) ?_
      refine wl_val (r_sub rfl rfl (by omega)) (ltn rfl) ?_
      refine wl_val (r_assign rfl) (ltn rfl) ?_
      refine wl_nil ?_
      refine wq_seq ?_
      refine wc_block ?_
      obtain ⟨awv, cwv, ewv, -⟩ := ((HD29.f6).row_rd).form
      subst ewv
      refine wc_loop [(5, _), (7, _)] (fun (⟨k2, cv5⟩ : Nat × Value) => [(6, cv5), (18, .int .i64 ((k2 : Int) - 1))]) (fun (⟨k2, cv5⟩ : Nat × Value) W => k2 ≤ ws.length ∧ ∃ G5 N5 op5 cur5, (chainR L (closeG G5 N5).reverse (ws.take k2).reverse cur5 ∧ cur5.length ≤ 35184372087808) ∧ Holds w W (immI .i32 cv5 cur5 • Row 22 1 (.slice awv (ws.length) cwv) ws.length vs • immsI .i32 vs ws • UList p1 G5 N5 op5 • F)) (fun (⟨k2, cv5⟩ : Nat × Value) => k2) ((ws.length, cv)) (Sub.cons rfl (Sub.cons rfl (Sub.nil _))) (Sub.cons rfl (Sub.cons rfl (Sub.nil _))) ⟨by omega, _, _, _, _, ⟨by rw [List.take_of_length_le (Nat.le_refl _)]; exact hch, by omega⟩, HD29.right.f2.right.f2.right.f2.f4.f4.f4⟩ ?_
      rintro ⟨k2, cv5⟩ w31 ⟨hk2, G5, N5, op5, cur5, ⟨hc5, hl5⟩, HL5⟩
      dsimp only [List.cons_append, List.nil_append]
      refine wc_seq ?_
      refine wc_seq ?_
      refine wc_region ?_
      refine wl_val (r_move rfl) (ltn rfl) ?_
      refine wl_val (r_geq rfl rfl) (ltn rfl) ?_
      refine wl_nil ?_
      refine wq_seq ?_
      refine wc_cond rfl (fun h21 => ?_) (fun h21 => ?_)
      · (try simp only [beq_iff_eq, bne_iff_ne, ne_eq, decide_eq_true_eq, decide_eq_false_iff_not, beq_eq_false_iff_ne, bne_eq_false_iff_eq, Bool.not_eq_true', Bool.not_eq_false', Bool.not_eq_eq_eq_not, Bool.not_true, Bool.not_false, gt_iff_lt, ge_iff_le, Int.not_lt, Int.not_le] at h21)
        
        refine wc_skip ?_
        refine wq_seq ?_
        refine wc_seq ?_
        refine wc_block ?_
        refine wc_seq ?_
        obtain ⟨m, rfl⟩ : ∃ m, k2 = m + 1 := ⟨k2 - 1, by omega⟩
        rw [show (((m + 1 : Nat) : Int) - 1) = (m : Int) from by omega]
        have hokC := (HL5.f4).uok
        have ht : (ws.take (m + 1)).reverse = ws.getD m [] :: (ws.take m).reverse := by
          rw [List.take_succ_eq_append_getElem (by omega), List.reverse_append, List.getD_eq_getElem?_getD, List.getElem?_eq_getElem (by omega)]; rfl
        rw [ht] at hc5
        obtain ⟨hu1, hu2, hu3⟩ := undo_chain hc5
        obtain ⟨hR1, hR2⟩ := undoR_of hokC
        have hlx : (ws.getD m []).length ≤ 35184372087808 := by have := done_len hu2; omega
        refine wc_region ?_
        refine wl_val (r_move rfl) (ltn rfl) ?_
        refine wl_eff (e_call (r_call rfl Try.func33 rfl rfl) (undo_undo_ret HL5.f4)) (ltn rfl) ?_
        rintro _ w32 ⟨u32, fs32, rfl, hfs32, H32⟩
        rw [hu1]
        obtain ⟨fu, rfl⟩ : ∃ q, q = fs32 := ⟨_, rfl⟩
        have hfu := hfs32
        have Ho33 := H32.f2.f2
        have Hc34 := Holds.edL_freeze (es := fu) Ho33.deep
        have hLu : fu.length ≤ 16384 := by have h9 := congrArg List.length hfu; rw [List.length_map] at h9; omega
        have hBu := EB_of hfu hR1
        have hdu : doneM cur5 (fu.map BEd.says) = some (ws.getD m []) := by rw [hfu]; exact hu2
        refine wl_val (r_move rfl) (ltn rfl) ?_
        refine wl_val (r_extract rfl rfl) (ltn rfl) ?_
        refine wl_val (r_extract rfl rfl) (ltn rfl) ?_
        refine wl_val (r_assign rfl) (ltn rfl) ?_
        refine wl_val (r_assign rfl) (ltn rfl) ?_
        refine wl_nil ?_
        refine wq_seq ?_
        refine wc_seq ?_
        refine wc_region ?_
        refine wl_val (r_move rfl) (ltn rfl) ?_
        refine wl_val (r_move rfl) (ltn rfl) ?_
        refine wl_eff (e_call (r_call rfl Try.func31 rfl rfl) (done_ret Hc34.f3 hdu hBu hLu hl5)) (ltn rfl) ?_
        rintro _ w35 ⟨u35, rfl, H35⟩
        refine wl_val (r_move rfl) (ltn rfl) ?_
        refine wl_val (r_extract rfl rfl) (ltn rfl) ?_
        refine wl_val (r_extract rfl rfl) (ltn rfl) ?_
        refine wl_val (r_assign rfl) (ltn rfl) ?_
        refine wl_val (r_assign rfl) (ltn rfl) ?_
        refine wl_nil ?_
        refine wq_seq ?_
        refine wc_seq ?_
        refine wc_region ?_
        refine wl_val (r_move rfl) (ltn rfl) ?_
        refine wl_val (r_neq rfl rfl) (ltn rfl) ?_
        refine wl_split rfl (ltn rfl) (fun h => by exfalso; (try simp only [beq_iff_eq, bne_iff_ne, ne_eq, decide_eq_true_eq, decide_eq_false_iff_not, beq_eq_false_iff_ne, bne_eq_false_iff_eq, Bool.not_eq_true', Bool.not_eq_false', Bool.not_eq_eq_eq_not, Bool.not_true, Bool.not_false, gt_iff_lt, ge_iff_le, Int.not_lt, Int.not_le] at h); simp at h) (fun h22 => ?_)
        (try simp only [beq_iff_eq, bne_iff_ne, ne_eq, decide_eq_true_eq, decide_eq_false_iff_not, beq_eq_false_iff_ne, bne_eq_false_iff_eq, Bool.not_eq_true', Bool.not_eq_false', Bool.not_eq_eq_eq_not, Bool.not_true, Bool.not_false, gt_iff_lt, ge_iff_le, Int.not_lt, Int.not_le] at h22)
        refine wl_yes rfl rfl ?_
        refine wl_val (r_move rfl) (ltn rfl) ?_
        refine wl_yes rfl rfl ?_
        refine wl_val (r_not rfl) (ltn rfl) ?_
        refine wl_val (r_pick_f rfl rfl) (ltn rfl) ?_
        refine wl_split rfl (ltn rfl) (fun h => by exfalso; (try simp only [beq_iff_eq, bne_iff_ne, ne_eq, decide_eq_true_eq, decide_eq_false_iff_not, beq_eq_false_iff_ne, bne_eq_false_iff_eq, Bool.not_eq_true', Bool.not_eq_false', Bool.not_eq_eq_eq_not, Bool.not_true, Bool.not_false, gt_iff_lt, ge_iff_le, Int.not_lt, Int.not_le] at h); simp at h) (fun h23 => ?_)
        (try simp only [beq_iff_eq, bne_iff_ne, ne_eq, decide_eq_true_eq, decide_eq_false_iff_not, beq_eq_false_iff_ne, bne_eq_false_iff_eq, Bool.not_eq_true', Bool.not_eq_false', Bool.not_eq_eq_eq_not, Bool.not_true, Bool.not_false, gt_iff_lt, ge_iff_le, Int.not_lt, Int.not_le] at h23)
        refine wl_yes rfl rfl ?_
        refine wl_val (r_move rfl) (ltn rfl) ?_
        refine wl_yes rfl rfl ?_
        refine wl_val (r_move rfl) (ltn rfl) ?_
        refine wl_yes rfl rfl ?_
        refine wl_val (r_move rfl) (ltn rfl) ?_
        refine wl_yes rfl rfl ?_
        obtain ⟨bwv, owv, rfl⟩ := Rd.pos ((H35.f5).row_rd) (by omega)
        refine wl_val (r_index Try.underlying54 Try.sizeOf22 rfl rfl (by omega)) (ltn rfl) ?_
        refine wl_yes rfl rfl ?_
        refine wl_val (r_load (plain_of Try.underlying22 rfl) rfl (by first | exact Rd.at1n ((H35.f5).row_rd) (by omega) | exact Rd.at0 ((H35.f5).row_rd) (by omega) | exact Rd.at1 ((H35.f5).row_rd) (by omega))) (ltn rfl) ?_
        refine wl_yes rfl rfl ?_
        refine wl_eff (e_call (r_call rfl Try.func14 rfl rfl) (same_runes_eq _ _ _ _ ((H35).imm_rd) ((H35.f6).imms_rd (by omega)))) (ltn rfl) ?_
        rintro _ w36 ⟨rfl, hD36⟩
        have HD36 := H35.drewn hD36
        refine wl_yes rfl rfl ?_
        refine wl_val (r_not rfl) (ltn rfl) ?_
        refine wl_val (r_pick_f rfl rfl) (ltn rfl) ?_
        refine wl_nil ?_
        refine wq_seq ?_
        refine wc_cond rfl (fun h => by exfalso; (try simp only [beq_iff_eq, bne_iff_ne, ne_eq, decide_eq_true_eq, decide_eq_false_iff_not, beq_eq_false_iff_ne, bne_eq_false_iff_eq, Bool.not_eq_true', Bool.not_eq_false', Bool.not_eq_eq_eq_not, Bool.not_true, Bool.not_false, gt_iff_lt, ge_iff_le, Int.not_lt, Int.not_le] at h); simp at h) (fun h24 => ?_)
        (try simp only [beq_iff_eq, bne_iff_ne, ne_eq, decide_eq_true_eq, decide_eq_false_iff_not, beq_eq_false_iff_ne, bne_eq_false_iff_eq, Bool.not_eq_true', Bool.not_eq_false', Bool.not_eq_eq_eq_not, Bool.not_true, Bool.not_false, gt_iff_lt, ge_iff_le, Int.not_lt, Int.not_le] at h24)
        refine wc_skip ?_
        refine wq_block_normal ?_
        refine wq_seq ?_
        refine wc_region ?_
        refine wl_val (r_move rfl) (ltn rfl) ?_
        refine wl_val (r_sub rfl rfl (by omega)) (ltn rfl) ?_
        refine wl_val (r_assign rfl) (ltn rfl) ?_
        refine wl_nil ?_
        refine wq_round ((m, u35)) ?_ ?_ ?_ ?_
        · exact (Sub.cons rfl (Sub.cons rfl (Sub.nil _)))
        · exact (Sub.cons rfl (Sub.cons rfl (Sub.nil _)))
        · (try dsimp only)
          exact ⟨by omega, _, _, _, _, ⟨hu3, hlx⟩, HD36.f2.right.f2.right.f2.f4.f4.f4⟩
        · (try dsimp only); omega
      · (try simp only [beq_iff_eq, bne_iff_ne, ne_eq, decide_eq_true_eq, decide_eq_false_iff_not, beq_eq_false_iff_ne, bne_eq_false_iff_eq, Bool.not_eq_true', Bool.not_eq_false', Bool.not_eq_eq_eq_not, Bool.not_true, Bool.not_false, gt_iff_lt, ge_iff_le, Int.not_lt, Int.not_le] at h21)
        
        refine wc_exit ?_
        refine wq_then_exit ?_
        refine wq_then_exit ?_
        refine wq_block_hit ?_
        refine wq_seq ?_
        refine wc_seq ?_
        obtain rfl : k2 = 0 := by omega
        have h6 : undoE G5 N5 = 6 := by
          have h9 := chainR_len hc5
          rw [List.length_reverse, closeG_len2] at h9
          simp only [List.take_zero, List.reverse_nil, List.length_nil] at h9
          unfold undoE
          rw [if_pos (by omega)]
        refine wc_region ?_
        refine wl_val (r_move rfl) (ltn rfl) ?_
        refine wl_eff (e_call (r_call rfl Try.func33 rfl rfl) (undo_undo_ret HL5.f4)) (ltn rfl) ?_
        rintro _ w37 ⟨u37, fs37, rfl, hfs37, H37⟩
        rw [h6]
        refine wl_val (r_move rfl) (ltn rfl) ?_
        refine wl_val (r_extract rfl rfl) (ltn rfl) ?_
        refine wl_val (r_extract rfl rfl) (ltn rfl) ?_
        refine wl_val (r_assign rfl) (ltn rfl) ?_
        refine wl_val (r_assign rfl) (ltn rfl) ?_
        refine wl_nil ?_
        refine wq_seq ?_
        refine wc_seq ?_
        refine wc_region ?_
        refine wl_val (r_move rfl) (ltn rfl) ?_
        refine wl_val (r_eql rfl rfl) (ltn rfl) ?_
        refine wl_val (r_assign rfl) (ltn rfl) ?_
        refine wl_nil ?_
        refine wq_seq ?_
        refine wc_ret ?_
        refine wq_end1 (.inl rfl) Try.results6 rfl ?_
        exact ⟨rfl, H37.base⟩
end Go.Proofs.Ytaabgcfeghcmnaa
