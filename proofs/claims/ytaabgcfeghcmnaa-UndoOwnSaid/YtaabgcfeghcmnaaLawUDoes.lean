/- UndoDoes, walked. -/
import Derived.Test.YtaabgcfeghcmnaaBegun
import Derived.Test.YtaabgcfeghcmnaaRList8
set_option linter.unusedSimpArgs false
set_option linter.unusedVariables false
namespace Go.Proofs.Ytaabgcfeghcmnaa
open Go.RowKit
/-- An operation. -/
structure UOp where
  kd : Int
  a : Int
  d : Value
  dl : List Int
  i : Value
  il : List Int
instance : Inhabited UOp := ⟨⟨0, 0, .slice none 0 0, [], .slice none 0 0, []⟩⟩
def UOp.enc (o : UOp) : List Value := [.int .i64 o.kd, .int .i64 o.a, o.d, o.i]
theorem UOp.enc_len (o : UOp) : o.enc.length = 4 := rfl
def UOp.Reads (w : World) (o : UOp) : Prop := RdI w .i32 o.d o.dl ∧ RdI w .i32 o.i o.il ∧ o.dl.length ≤ 35184372087808 ∧ o.il.length ≤ 35184372087808
section
variable {w0 w : World} {F : HP} {p b : Nat} {G : List (List EdA)} {N : List EdA} {op : Int}
theorem Holds.rlist_new (H : Holds w0 w (blk b (.cells #[.slice none 0 0, .int .i64 0, .slice none 0 0] 45 (0, 0)) • F)) : Holds w0 w (RList b [] [] 0 • F) :=
  Holds.mk_rlist (gv := .slice none 0 0) (nv := .slice none 0 0) (gs := []) (now := []) ⟨by simp, by decide, by decide, by decide, by simp, by simp⟩ rfl rfl (((H.edL_nil none).edLL_nil none).of_eq (by ac_rfl))
theorem Holds.uok1 (H : Holds w0 w (UList p G N op • F)) : UOk G N op := by obtain ⟨gv, nv, gs, now, k1, _⟩ := H.ulist; exact k1
theorem endO_in (h : 0 ≤ op) : 0 ≤ endO op ∧ endO op ≤ op := by unfold endO; split <;> omega
theorem undoO_in (h : 0 ≤ op) : 0 ≤ undoO G N op ∧ undoO G N op ≤ op := by unfold undoO; split <;> omega
end
theorem undo_does {w : World} {v : Value} {ops : List UOp} (g2 : Rd w 4 v ops.length (ops.flatMap UOp.enc)) (g3 : ∀ k, k < ops.length → (ops.getD k default).Reads w) (hb : ops.length ≤ 35184372087808) :
    Ret Try.prog 7 #[v] w fun v w' => v = .bool true ∧ Below w.heap.size w w' := by
  obtain ⟨F, H⟩ : ∃ F, Holds w w F := ⟨_, Holds.start w⟩
  have hv : FRd w F 4 v ops.length (ops.flatMap UOp.enc) := FRd.of_start g2 F
  refine ret_enter Try.func7 rfl Try.ntmps7 (Nat.le_of_ble_eq_true rfl) ?_
  dsimp only [slots0, Nat.reduceAdd]
  refine wc_seq ?_
  refine wc_region ?_
  refine wl_val (r_assign rfl) (ltn rfl) ?_
  refine wl_nil ?_
  refine wq_seq ?_
  refine wc_seq ?_
  refine wc_region ?_
  refine wl_eff (e_call (r_call rfl Try.func19 rfl rfl) (undo_new_ret H)) (ltn rfl) ?_
  rintro _ w1 ⟨p1, rfl, H1⟩
  refine wl_val (r_assign rfl) (ltn rfl) ?_
  refine wl_nil ?_
  refine wq_seq ?_
  refine wc_seq ?_
  refine wc_region ?_
  refine wl_val (r_build (pl := #[(0, 1), (1, 1), (2, 1)]) (_) Try.underlying45 Try.zeroValue45 (fun w => by kernel_rfl) rfl (rfl)) (ltn rfl) ?_
  refine wl_eff (e_boxL (l := [_, _, _]) H1 rfl rfl) (ltn rfl) ?_
  rintro _ w2 ⟨b2, rfl, H2⟩
  refine wl_val (r_assign rfl) (ltn rfl) ?_
  have Ho3 := H2
  have Hc4 := Ho3.rlist_new
  refine wl_nil ?_
  refine wq_seq ?_
  refine wc_seq ?_
  refine wc_seq ?_
  refine wc_region ?_
  refine wl_eff (e_call (r_call rfl Try.func13 rfl rfl) (begun_ret Hc4)) (ltn rfl) ?_
  rintro _ w5 ⟨rfl, H5⟩
  refine wl_val (r_not rfl) (ltn rfl) ?_
  refine wl_split rfl (ltn rfl) (fun h => by exfalso; (try simp only [beq_iff_eq, bne_iff_ne, ne_eq, decide_eq_true_eq, decide_eq_false_iff_not, beq_eq_false_iff_ne, bne_eq_false_iff_eq, Bool.not_eq_true', Bool.not_eq_false', Bool.not_eq_eq_eq_not, Bool.not_true, Bool.not_false, gt_iff_lt, ge_iff_le, Int.not_lt, Int.not_le] at h); simp at h) (fun h1 => ?_)
  (try simp only [beq_iff_eq, bne_iff_ne, ne_eq, decide_eq_true_eq, decide_eq_false_iff_not, beq_eq_false_iff_ne, bne_eq_false_iff_eq, Bool.not_eq_true', Bool.not_eq_false', Bool.not_eq_eq_eq_not, Bool.not_true, Bool.not_false, gt_iff_lt, ge_iff_le, Int.not_lt, Int.not_le] at h1)
  refine wl_yes rfl rfl ?_
  refine wl_val (r_move rfl) (ltn rfl) ?_
  refine wl_yes rfl rfl ?_
  refine wl_val (r_ptr_nil Try.underlying40 rfl rfl) (ltn rfl) ?_
  refine wl_val (r_pick_f rfl rfl) (ltn rfl) ?_
  refine wl_nil ?_
  refine wq_seq ?_
  refine wc_cond rfl (fun h => by exfalso; (try simp only [beq_iff_eq, bne_iff_ne, ne_eq, decide_eq_true_eq, decide_eq_false_iff_not, beq_eq_false_iff_ne, bne_eq_false_iff_eq, Bool.not_eq_true', Bool.not_eq_false', Bool.not_eq_eq_eq_not, Bool.not_true, Bool.not_false, gt_iff_lt, ge_iff_le, Int.not_lt, Int.not_le] at h); simp at h) (fun h2 => ?_)
  (try simp only [beq_iff_eq, bne_iff_ne, ne_eq, decide_eq_true_eq, decide_eq_false_iff_not, beq_eq_false_iff_ne, bne_eq_false_iff_eq, Bool.not_eq_true', Bool.not_eq_false', Bool.not_eq_eq_eq_not, Bool.not_true, Bool.not_false, gt_iff_lt, ge_iff_le, Int.not_lt, Int.not_le] at h2)
  refine wc_skip ?_
  refine wq_seq ?_
  refine wc_seq ?_
  refine wc_seq ?_
  refine wc_region ?_
  refine wl_val (r_move rfl) (ltn rfl) ?_
  refine wl_val (r_lenS (hv _ (H5.right.right)) Try.underlying63 rfl) (ltn rfl) ?_
  refine wl_val (r_move rfl) (ltn rfl) ?_
  refine wl_nil ?_
  refine wq_seq ?_
  refine wc_block ?_
  refine wc_loop [(22, _), (23, _)] (fun (⟨k, p, q⟩ : Nat × Nat × Nat) => [(3, .pointer (some ⟨p, 0, none⟩)), (4, .pointer (some ⟨q, 0, none⟩)), (24, .int .i64 (k : Int))]) (fun (⟨k, p, q⟩ : Nat × Nat × Nat) W => k ≤ ops.length ∧ ∃ G N op, (0 ≤ op ∧ op ≤ (k : Int)) ∧ Holds w W (UList p G N op • RList q G N op • F)) (fun (⟨k, p, q⟩ : Nat × Nat × Nat) => ops.length - k) ((0, p1, b2)) (Sub.cons rfl (Sub.cons rfl (Sub.nil _))) (Sub.cons rfl (Sub.cons rfl (Sub.cons rfl (Sub.nil _)))) ⟨by omega, [], [], 0, by decide, H5.f2⟩ ?_
  rintro ⟨k, p, q⟩ w6 ⟨hk, G, N, op, hop, HL⟩
  dsimp only [List.cons_append, List.nil_append]
  refine wc_seq ?_
  refine wc_region ?_
  refine wl_val (r_lss rfl rfl) (ltn rfl) ?_
  refine wl_nil ?_
  refine wq_seq ?_
  refine wc_seq ?_
  refine wc_cond rfl (fun h3 => ?_) (fun h3 => ?_)
  · (try simp only [beq_iff_eq, bne_iff_ne, ne_eq, decide_eq_true_eq, decide_eq_false_iff_not, beq_eq_false_iff_ne, bne_eq_false_iff_eq, Bool.not_eq_true', Bool.not_eq_false', Bool.not_eq_eq_eq_not, Bool.not_true, Bool.not_false, gt_iff_lt, ge_iff_le, Int.not_lt, Int.not_le] at h3)
    
    refine wc_skip ?_
    refine wq_seq ?_
    refine wc_seq ?_
    refine wc_block ?_
    refine wc_seq ?_
    refine wc_region ?_
    obtain ⟨bv, ov, cv, ev⟩ := Rd.posV (hv _ (HL.right.right)) (by omega)
    cases ev
    refine wl_val (r_index Try.underlying63 Try.sizeOf65 rfl rfl (by omega)) (ltn rfl) ?_
    refine wl_val (r_load_elem (ys := [_, _, _, _]) (hv _ (HL.right.right)) (by omega) Try.underlying65 rfl Try.sizeOf65 rfl (flat_elem UOp.enc_len (by omega) default) rfl) (ltn rfl) ?_
    have hkl : k < ops.length := by omega
    obtain ⟨r1, r2, r3, r4⟩ := g3 k hkl
    have f1 := FRdI.of_start r1 F
    have f2 := FRdI.of_start r2 F
    refine wl_eff (e_allocL (l := [_, _, _, _]) HL Try.zeroValue65 rfl) (ltn rfl) ?_
    rintro _ w7 ⟨b7, rfl, H7⟩
    refine wl_eff0 (e_storePL 0 (l' := [_, _, _, _]) (us := [_, _, _, _]) H7 Try.sizeOf65 rfl rfl rfl (ones_cons (by first | rfl | assumption) (ones_cons (by first | rfl | assumption) (ones_cons (by first | rfl | exact Rd.one (f1 _ (H7.right.right.right))) (ones_cons (by first | rfl | exact Rd.one (f2 _ (H7.right.right.right))) ones_nil)))) rfl rfl) ?_
    rintro _ w8 H8
    refine wl_nil ?_
    refine wq_seq ?_
    refine wc_seq ?_
    refine wc_region ?_
    refine wl_val (r_assign rfl) (ltn rfl) ?_
    refine wl_nil ?_
    refine wq_seq ?_
    refine wc_join [(22, _), (23, _), (24, _)] (fun (⟨p2, q2⟩ : Nat × Nat) => [(3, .pointer (some ⟨p2, 0, none⟩)), (4, .pointer (some ⟨q2, 0, none⟩)), (7, .bool true)]) (fun (⟨p2, q2⟩ : Nat × Nat) W => ∃ G N op, (0 ≤ op ∧ op ≤ (k : Int) + 1) ∧ Holds w W (UList p2 G N op • RList q2 G N op • F)) (Sub.cons rfl (Sub.cons rfl (Sub.cons rfl (Sub.nil _)))) ?_ ?_
    · rintro ⟨p2, q2⟩ w9 ⟨G2, N2, op2, hop2, HJ⟩
      dsimp only [List.cons_append, List.nil_append]
      refine wc_seq ?_
      refine wc_region ?_
      refine wl_val (r_move rfl) (ltn rfl) ?_
      refine wl_val (r_not rfl) (ltn rfl) ?_
      refine wl_split rfl (ltn rfl) (fun h => by exfalso; (try simp only [beq_iff_eq, bne_iff_ne, ne_eq, decide_eq_true_eq, decide_eq_false_iff_not, beq_eq_false_iff_ne, bne_eq_false_iff_eq, Bool.not_eq_true', Bool.not_eq_false', Bool.not_eq_eq_eq_not, Bool.not_true, Bool.not_false, gt_iff_lt, ge_iff_le, Int.not_lt, Int.not_le] at h); simp at h) (fun h4 => ?_)
      (try simp only [beq_iff_eq, bne_iff_ne, ne_eq, decide_eq_true_eq, decide_eq_false_iff_not, beq_eq_false_iff_ne, bne_eq_false_iff_eq, Bool.not_eq_true', Bool.not_eq_false', Bool.not_eq_eq_eq_not, Bool.not_true, Bool.not_false, gt_iff_lt, ge_iff_le, Int.not_lt, Int.not_le] at h4)
      refine wl_yes rfl rfl ?_
      refine wl_val (r_move rfl) (ltn rfl) ?_
      refine wl_yes rfl rfl ?_
      refine wl_eff (e_call (r_call rfl Try.func27 rfl rfl) (undo_len_ret HJ)) (ltn rfl) ?_
      rintro _ w10 ⟨rfl, H10⟩
      refine wl_yes rfl rfl ?_
      refine wl_val (r_move rfl) (ltn rfl) ?_
      refine wl_yes rfl rfl ?_
      refine wl_eff (e_call (r_call rfl Try.func41 rfl rfl) (rl_len_ret H10.f2)) (ltn rfl) ?_
      rintro _ w11 ⟨rfl, H11⟩
      refine wl_yes rfl rfl ?_
      refine wl_val (r_neq rfl rfl) (ltn rfl) ?_
      refine wl_val (r_pick_f rfl rfl) (ltn rfl) ?_
      refine wl_split rfl (ltn rfl) (fun h => by exfalso; (try simp only [beq_iff_eq, bne_iff_ne, ne_eq, decide_eq_true_eq, decide_eq_false_iff_not, beq_eq_false_iff_ne, bne_eq_false_iff_eq, Bool.not_eq_true', Bool.not_eq_false', Bool.not_eq_eq_eq_not, Bool.not_true, Bool.not_false, gt_iff_lt, ge_iff_le, Int.not_lt, Int.not_le] at h); simp at h) (fun h5 => ?_)
      (try simp only [beq_iff_eq, bne_iff_ne, ne_eq, decide_eq_true_eq, decide_eq_false_iff_not, beq_eq_false_iff_ne, bne_eq_false_iff_eq, Bool.not_eq_true', Bool.not_eq_false', Bool.not_eq_eq_eq_not, Bool.not_true, Bool.not_false, gt_iff_lt, ge_iff_le, Int.not_lt, Int.not_le] at h5)
      refine wl_yes rfl rfl ?_
      refine wl_val (r_move rfl) (ltn rfl) ?_
      refine wl_yes rfl rfl ?_
      refine wl_eff (e_call (r_call rfl Try.func28 rfl rfl) (undo_edits_ret H11.f2)) (ltn rfl) ?_
      rintro _ w12 ⟨rfl, H12⟩
      refine wl_yes rfl rfl ?_
      refine wl_val (r_move rfl) (ltn rfl) ?_
      refine wl_yes rfl rfl ?_
      refine wl_eff (e_call (r_call rfl Try.func42 rfl rfl) (rl_edits_ret H12.f2)) (ltn rfl) ?_
      rintro _ w13 ⟨rfl, H13⟩
      refine wl_yes rfl rfl ?_
      refine wl_val (r_neq rfl rfl) (ltn rfl) ?_
      refine wl_val (r_pick_f rfl rfl) (ltn rfl) ?_
      refine wl_split rfl (ltn rfl) (fun h => by exfalso; (try simp only [beq_iff_eq, bne_iff_ne, ne_eq, decide_eq_true_eq, decide_eq_false_iff_not, beq_eq_false_iff_ne, bne_eq_false_iff_eq, Bool.not_eq_true', Bool.not_eq_false', Bool.not_eq_eq_eq_not, Bool.not_true, Bool.not_false, gt_iff_lt, ge_iff_le, Int.not_lt, Int.not_le] at h); simp at h) (fun h6 => ?_)
      (try simp only [beq_iff_eq, bne_iff_ne, ne_eq, decide_eq_true_eq, decide_eq_false_iff_not, beq_eq_false_iff_ne, bne_eq_false_iff_eq, Bool.not_eq_true', Bool.not_eq_false', Bool.not_eq_eq_eq_not, Bool.not_true, Bool.not_false, gt_iff_lt, ge_iff_le, Int.not_lt, Int.not_le] at h6)
      refine wl_yes rfl rfl ?_
      refine wl_val (r_move rfl) (ltn rfl) ?_
      refine wl_yes rfl rfl ?_
      refine wl_eff (e_call (r_call rfl Try.func43 rfl rfl) (undo_open_ret H13.f2)) (ltn rfl) ?_
      rintro _ w14 ⟨rfl, H14⟩
      refine wl_yes rfl rfl ?_
      refine wl_val (r_move rfl) (ltn rfl) ?_
      refine wl_yes rfl rfl ?_
      refine wl_eff (e_call (r_call rfl Try.func44 rfl rfl) (rl_open_ret H14.f2)) (ltn rfl) ?_
      rintro _ w15 ⟨rfl, H15⟩
      refine wl_yes rfl rfl ?_
      refine wl_val (r_neq rfl rfl) (ltn rfl) ?_
      refine wl_val (r_pick_f rfl rfl) (ltn rfl) ?_
      refine wl_nil ?_
      refine wq_seq ?_
      refine wc_cond rfl (fun h => by exfalso; (try simp only [beq_iff_eq, bne_iff_ne, ne_eq, decide_eq_true_eq, decide_eq_false_iff_not, beq_eq_false_iff_ne, bne_eq_false_iff_eq, Bool.not_eq_true', Bool.not_eq_false', Bool.not_eq_eq_eq_not, Bool.not_true, Bool.not_false, gt_iff_lt, ge_iff_le, Int.not_lt, Int.not_le] at h); simp at h) (fun h7 => ?_)
      (try simp only [beq_iff_eq, bne_iff_ne, ne_eq, decide_eq_true_eq, decide_eq_false_iff_not, beq_eq_false_iff_ne, bne_eq_false_iff_eq, Bool.not_eq_true', Bool.not_eq_false', Bool.not_eq_eq_eq_not, Bool.not_true, Bool.not_false, gt_iff_lt, ge_iff_le, Int.not_lt, Int.not_le] at h7)
      refine wc_skip ?_
      refine wq_block_normal ?_
      refine wq_seq ?_
      refine wc_region ?_
      refine wl_val (r_add rfl rfl (by omega)) (ltn rfl) ?_
      refine wl_val (r_move rfl) (ltn rfl) ?_
      refine wl_nil ?_
      refine wq_round ((k + 1, p2, q2)) ?_ ?_ ?_ ?_
      · exact (Sub.cons rfl (Sub.cons rfl (Sub.cons rfl (Sub.nil _))))
      · exact (Sub.cons rfl (Sub.cons rfl (Sub.nil _)))
      · (try dsimp only)
        exact ⟨by omega, _, _, _, by omega, H15.f2⟩
      · (try dsimp only); omega
    · skip
      refine wc_seq ?_
      refine wc_region ?_
      refine wl_val ((by first | exact r_field0 0 Try.underlying65 rfl rfl Try.sizeOf3 (by decide) rfl | exact r_field 0 Try.underlying65 rfl rfl Try.sizeOf3 (by decide) rfl)) (ltn rfl) ?_
      refine wl_val (r_load (plain_of Try.underlying3 rfl) rfl (cell_of_blk (H8).get.2 rfl)) (ltn rfl) ?_
      refine wl_nil ?_
      refine wq_seq ?_
      refine wc_block ?_
      refine wc_seq ?_
      refine wc_region ?_
      refine wl_val (r_eql rfl rfl) (ltn rfl) ?_
      refine wl_val (r_assign rfl) (ltn rfl) ?_
      refine wl_nil ?_
      refine wq_seq ?_
      refine wc_cond rfl (fun h8 => ?_) (fun h8 => ?_)
      · (try simp only [beq_iff_eq, bne_iff_ne, ne_eq, decide_eq_true_eq, decide_eq_false_iff_not, beq_eq_false_iff_ne, bne_eq_false_iff_eq, Bool.not_eq_true', Bool.not_eq_false', Bool.not_eq_eq_eq_not, Bool.not_true, Bool.not_false, gt_iff_lt, ge_iff_le, Int.not_lt, Int.not_le] at h8)
        
        have hopn : 0 ≤ op ∧ op ≤ (k : Int) + 1 := by omega
        have H12d15 := H8.drew
        have hS12d15 := Holds.kp (H12d15.f2.right.f2.f2)
        refine wd_beginK [2, 6] hS12d15 (by kernel_rfl) (by kernel_rfl) rfl ?_
        refine wd_takeT 0 rfl (by kernel_rfl) (by kernel_rfl) hS12d15 (fun _ => r_move rfl) (ltn rfl) ?_
        refine wd_takeT 1 rfl (by kernel_rfl) (by kernel_rfl) hS12d15 (fun _ => (by first | exact r_field0 1 Try.underlying65 rfl rfl Try.sizeOf24 (by decide) rfl | exact r_field 1 Try.underlying65 rfl rfl Try.sizeOf24 (by decide) rfl)) (ltn rfl) ?_
        refine wd_take 2 rfl (by kernel_rfl) (by kernel_rfl) hS12d15 (by decide) (fun W hW => r_load_part 1 (xs := [_, _, _]) Try.underlying24 rfl Try.sizeOf24 rfl rfl ((Kp.h hW)).get.2 rfl) (ltn rfl) ?_
        refine wd_takeT 4 rfl (by kernel_rfl) (by kernel_rfl) hS12d15 (fun _ => r_move rfl) (ltn rfl) ?_
        refine wd_takeT 5 rfl (by kernel_rfl) (by kernel_rfl) hS12d15 (fun _ => (by first | exact r_field0 1 Try.underlying65 rfl rfl Try.sizeOf24 (by decide) rfl | exact r_field 1 Try.underlying65 rfl rfl Try.sizeOf24 (by decide) rfl)) (ltn rfl) ?_
        refine wd_take 6 rfl (by kernel_rfl) (by kernel_rfl) hS12d15 (by decide) (fun W hW => r_load_part 1 (xs := [_, _, _]) Try.underlying24 rfl Try.sizeOf24 rfl rfl ((Kp.h hW)).get.2 rfl) (ltn rfl) ?_
        refine wd_eff 3 rfl (by kernel_rfl) (e_call (r_call rfl Try.func21 rfl rfl) (undo_add_ret H12d15.f2 (fun W HW => f1 _ (HW.right.right)) (fun W HW => f2 _ (HW.right.right)) (by omega) (by omega))) (ltn rfl) ?_
        rintro _ w16 ⟨rfl, H16⟩
        have hS16n := Holds.kp (H16.f3.f3.f3)
        refine keepK hS16n (fun W hW => (Kp.h hW).right.f2.f2) ?_
        refine wd_eff 7 rfl (by kernel_rfl) (e_call (r_call rfl Try.func22 rfl rfl) (rl_add_ret H16.f3 (fun W HW => f1 _ (HW.right.right)) (fun W HW => f2 _ (HW.right.right)) (by omega) (by omega))) (ltn rfl) ?_
        rintro _ w17 ⟨rfl, H17⟩
        have hS17n := Holds.kp (H17.f3.f3.f3)
        refine keepX hS17n (by kernel_rfl) ?_
        refine wd_takeT 8 rfl (by kernel_rfl) (by kernel_rfl) hS17n (fun _ => r_known_t (r_eql rfl rfl) (by simp)) (ltn rfl) ?_
        refine wd_takeT 9 rfl (by kernel_rfl) (by kernel_rfl) hS17n (fun _ => r_assign rfl) (ltn rfl) ?_
        refine wd_done (by kernel_rfl) ?_
        refine wq_block_normal ?_
        refine wq_join (_, _) (Sub.cons rfl (Sub.cons rfl (Sub.cons rfl (Sub.nil _)))) (Sub.cons rfl (Sub.cons rfl (Sub.cons rfl (Sub.nil _)))) (by (try dsimp only); exact ⟨_, _, _, hopn, H17.f3.right.f2⟩)
      · (try simp only [beq_iff_eq, bne_iff_ne, ne_eq, decide_eq_true_eq, decide_eq_false_iff_not, beq_eq_false_iff_ne, bne_eq_false_iff_eq, Bool.not_eq_true', Bool.not_eq_false', Bool.not_eq_eq_eq_not, Bool.not_true, Bool.not_false, gt_iff_lt, ge_iff_le, Int.not_lt, Int.not_le] at h8)
        
        refine wc_seq ?_
        refine wc_region ?_
        refine wl_val (r_eql rfl rfl) (ltn rfl) ?_
        refine wl_val (r_assign rfl) (ltn rfl) ?_
        refine wl_nil ?_
        refine wq_seq ?_
        refine wc_cond rfl (fun h9 => ?_) (fun h9 => ?_)
        · (try simp only [beq_iff_eq, bne_iff_ne, ne_eq, decide_eq_true_eq, decide_eq_false_iff_not, beq_eq_false_iff_ne, bne_eq_false_iff_eq, Bool.not_eq_true', Bool.not_eq_false', Bool.not_eq_eq_eq_not, Bool.not_true, Bool.not_false, gt_iff_lt, ge_iff_le, Int.not_lt, Int.not_le] at h9)
          
          have hopn : 0 ≤ op + 1 ∧ op + 1 ≤ (k : Int) + 1 := by omega
          refine wc_region ?_
          refine wl_val (r_move rfl) (ltn rfl) ?_
          refine wl_eff (e_call (r_call rfl Try.func26 rfl rfl) (undo_begin_ret H8.f2 (by omega))) (ltn rfl) ?_
          rintro _ w18 ⟨rfl, H18⟩
          refine wl_val (r_move rfl) (ltn rfl) ?_
          refine wl_eff (e_call (r_call rfl Try.func34 rfl rfl) (rl_begin_ret H18.f3 (by omega))) (ltn rfl) ?_
          rintro _ w19 ⟨rfl, H19⟩
          refine wl_val (r_known_t (r_eql rfl rfl) (by simp)) (ltn rfl) ?_
          refine wl_val (r_assign rfl) (ltn rfl) ?_
          refine wl_nil ?_
          refine wq_block_normal ?_
          refine wq_join (_, _) (Sub.cons rfl (Sub.cons rfl (Sub.cons rfl (Sub.nil _)))) (Sub.cons rfl (Sub.cons rfl (Sub.cons rfl (Sub.nil _)))) (by (try dsimp only); exact ⟨_, _, _, hopn, H19.f3.right.f2⟩)
        · (try simp only [beq_iff_eq, bne_iff_ne, ne_eq, decide_eq_true_eq, decide_eq_false_iff_not, beq_eq_false_iff_ne, bne_eq_false_iff_eq, Bool.not_eq_true', Bool.not_eq_false', Bool.not_eq_eq_eq_not, Bool.not_true, Bool.not_false, gt_iff_lt, ge_iff_le, Int.not_lt, Int.not_le] at h9)
          
          refine wc_seq ?_
          refine wc_region ?_
          refine wl_val (r_eql rfl rfl) (ltn rfl) ?_
          refine wl_val (r_assign rfl) (ltn rfl) ?_
          refine wl_nil ?_
          refine wq_seq ?_
          refine wc_cond rfl (fun h10 => ?_) (fun h10 => ?_)
          · (try simp only [beq_iff_eq, bne_iff_ne, ne_eq, decide_eq_true_eq, decide_eq_false_iff_not, beq_eq_false_iff_ne, bne_eq_false_iff_eq, Bool.not_eq_true', Bool.not_eq_false', Bool.not_eq_eq_eq_not, Bool.not_true, Bool.not_false, gt_iff_lt, ge_iff_le, Int.not_lt, Int.not_le] at h10)
            
            have hopn : 0 ≤ endO op ∧ endO op ≤ (k : Int) + 1 := by have := endO_in hop.1; omega
            refine wc_region ?_
            refine wl_val (r_move rfl) (ltn rfl) ?_
            refine wl_eff (e_call (r_call rfl Try.func29 rfl rfl) (undo_end_ret H8.f2)) (ltn rfl) ?_
            rintro _ w20 ⟨rfl, H20⟩
            refine wl_val (r_move rfl) (ltn rfl) ?_
            refine wl_eff (e_call (r_call rfl Try.func35 rfl rfl) (rl_end_ret H20.f3)) (ltn rfl) ?_
            rintro _ w21 ⟨rfl, H21⟩
            refine wl_val (r_known_t (r_eql rfl rfl) (by simp)) (ltn rfl) ?_
            refine wl_val (r_assign rfl) (ltn rfl) ?_
            refine wl_nil ?_
            refine wq_block_normal ?_
            refine wq_join (_, _) (Sub.cons rfl (Sub.cons rfl (Sub.cons rfl (Sub.nil _)))) (Sub.cons rfl (Sub.cons rfl (Sub.cons rfl (Sub.nil _)))) (by (try dsimp only); exact ⟨_, _, _, hopn, H21.f3.right.f2⟩)
          · (try simp only [beq_iff_eq, bne_iff_ne, ne_eq, decide_eq_true_eq, decide_eq_false_iff_not, beq_eq_false_iff_ne, bne_eq_false_iff_eq, Bool.not_eq_true', Bool.not_eq_false', Bool.not_eq_eq_eq_not, Bool.not_true, Bool.not_false, gt_iff_lt, ge_iff_le, Int.not_lt, Int.not_le] at h10)
            
            refine wc_seq ?_
            refine wc_region ?_
            refine wl_val (r_eql rfl rfl) (ltn rfl) ?_
            refine wl_val (r_assign rfl) (ltn rfl) ?_
            refine wl_nil ?_
            refine wq_seq ?_
            refine wc_cond rfl (fun h11 => ?_) (fun h11 => ?_)
            · (try simp only [beq_iff_eq, bne_iff_ne, ne_eq, decide_eq_true_eq, decide_eq_false_iff_not, beq_eq_false_iff_ne, bne_eq_false_iff_eq, Bool.not_eq_true', Bool.not_eq_false', Bool.not_eq_eq_eq_not, Bool.not_true, Bool.not_false, gt_iff_lt, ge_iff_le, Int.not_lt, Int.not_le] at h11)
              
              refine wc_seq ?_
              have hopn : 0 ≤ undoO G N op ∧ undoO G N op ≤ (k : Int) + 1 := by have := undoO_in (G := G) (N := N) hop.1; omega
              refine wc_region ?_
              refine wl_val (r_move rfl) (ltn rfl) ?_
              refine wl_eff (e_call (r_call rfl Try.func33 rfl rfl) (undo_undo_ret H8.f2)) (ltn rfl) ?_
              rintro _ w22 ⟨u22, fs22, rfl, hfs22, H22⟩
              have hq1 := hfs22
              refine wl_val (r_move rfl) (ltn rfl) ?_
              refine wl_val (r_extract rfl rfl) (ltn rfl) ?_
              refine wl_val (r_extract rfl rfl) (ltn rfl) ?_
              refine wl_val (r_assign rfl) (ltn rfl) ?_
              refine wl_val (r_assign rfl) (ltn rfl) ?_
              refine wl_nil ?_
              refine wq_seq ?_
              refine wc_seq ?_
              refine wc_region ?_
              refine wl_val (r_move rfl) (ltn rfl) ?_
              refine wl_eff (e_call (r_call rfl Try.func36 rfl rfl) (rl_undo_ret H22.f5)) (ltn rfl) ?_
              rintro _ w23 ⟨u23, fs23, rfl, hfs23, H23⟩
              have hq2 := hfs23
              refine wl_val (r_move rfl) (ltn rfl) ?_
              refine wl_val (r_extract rfl rfl) (ltn rfl) ?_
              refine wl_val (r_extract rfl rfl) (ltn rfl) ?_
              refine wl_val (r_assign rfl) (ltn rfl) ?_
              refine wl_val (r_assign rfl) (ltn rfl) ?_
              refine wl_nil ?_
              refine wq_seq ?_
              refine wc_region ?_
              refine wl_val (r_move rfl) (ltn rfl) ?_
              refine wl_val (r_move rfl) (ltn rfl) ?_
              refine wl_eff (e_call (r_call rfl Try.func37 rfl rfl) (samelist_rr H23.f2.f2.f5.f5)) (ltn rfl) ?_
              rintro _ w24 ⟨rfl, H24⟩
              rw [decide_eq_true (hq1.trans hq2.symm)]
              refine wl_val (r_move rfl) (ltn rfl) ?_
              refine wl_yes rfl rfl ?_
              refine wl_val (r_move rfl) (ltn rfl) ?_
              refine wl_yes rfl rfl ?_
              refine wl_val (r_move rfl) (ltn rfl) ?_
              refine wl_yes rfl rfl ?_
              refine wl_val (r_known_t (r_eql rfl rfl) (by simp)) (ltn rfl) ?_
              refine wl_val (r_pick_t rfl rfl) (ltn rfl) ?_
              refine wl_val (r_assign rfl) (ltn rfl) ?_
              refine wl_nil ?_
              refine wq_block_normal ?_
              refine wq_join (_, _) (Sub.cons rfl (Sub.cons rfl (Sub.cons rfl (Sub.nil _)))) (Sub.cons rfl (Sub.cons rfl (Sub.cons rfl (Sub.nil _)))) (by (try dsimp only); exact ⟨_, _, _, hopn, H24.right.right.right.right.f3.right.f2⟩)
            · (try simp only [beq_iff_eq, bne_iff_ne, ne_eq, decide_eq_true_eq, decide_eq_false_iff_not, beq_eq_false_iff_ne, bne_eq_false_iff_eq, Bool.not_eq_true', Bool.not_eq_false', Bool.not_eq_eq_eq_not, Bool.not_true, Bool.not_false, gt_iff_lt, ge_iff_le, Int.not_lt, Int.not_le] at h11)
              
              refine wc_seq ?_
              refine wc_region ?_
              refine wl_val (r_eql rfl rfl) (ltn rfl) ?_
              refine wl_val (r_assign rfl) (ltn rfl) ?_
              refine wl_nil ?_
              refine wq_seq ?_
              refine wc_cond rfl (fun h12 => ?_) (fun h12 => ?_)
              · (try simp only [beq_iff_eq, bne_iff_ne, ne_eq, decide_eq_true_eq, decide_eq_false_iff_not, beq_eq_false_iff_ne, bne_eq_false_iff_eq, Bool.not_eq_true', Bool.not_eq_false', Bool.not_eq_eq_eq_not, Bool.not_true, Bool.not_false, gt_iff_lt, ge_iff_le, Int.not_lt, Int.not_le] at h12)
                
                have hopn : (0 : Int) ≤ 0 ∧ (0 : Int) ≤ (k : Int) + 1 := by omega
                refine wc_region ?_
                refine wl_val (r_move rfl) (ltn rfl) ?_
                refine wl_eff (e_call (r_call rfl Try.func32 rfl rfl) (undo_revert_ret H8.f2)) (ltn rfl) ?_
                rintro u25 w25 ⟨fs25, hfs25, H25⟩
                have hq1 := hfs25
                refine wl_val (r_move rfl) (ltn rfl) ?_
                refine wl_eff (e_call (r_call rfl Try.func38 rfl rfl) (rl_revert_ret H25.f5)) (ltn rfl) ?_
                rintro u26 w26 ⟨fs26, hfs26, H26⟩
                have hq2 := hfs26
                refine wl_eff (e_call (r_call rfl Try.func37 rfl rfl) (samelist_rr H26.f2.f2.f5.f5)) (ltn rfl) ?_
                rintro _ w27 ⟨rfl, H27⟩
                rw [decide_eq_true (hq1.trans hq2.symm)]
                refine wl_val (r_assign rfl) (ltn rfl) ?_
                refine wl_nil ?_
                refine wq_block_normal ?_
                refine wq_join (_, _) (Sub.cons rfl (Sub.cons rfl (Sub.cons rfl (Sub.nil _)))) (Sub.cons rfl (Sub.cons rfl (Sub.cons rfl (Sub.nil _)))) (by (try dsimp only); exact ⟨_, _, _, hopn, H27.right.right.right.right.f3.right.f2⟩)
              · (try simp only [beq_iff_eq, bne_iff_ne, ne_eq, decide_eq_true_eq, decide_eq_false_iff_not, beq_eq_false_iff_ne, bne_eq_false_iff_eq, Bool.not_eq_true', Bool.not_eq_false', Bool.not_eq_eq_eq_not, Bool.not_true, Bool.not_false, gt_iff_lt, ge_iff_le, Int.not_lt, Int.not_le] at h12)
                
                refine wc_seq ?_
                refine wc_region ?_
                refine wl_val (r_eql rfl rfl) (ltn rfl) ?_
                refine wl_val (r_assign rfl) (ltn rfl) ?_
                refine wl_nil ?_
                refine wq_seq ?_
                refine wc_cond rfl (fun h13 => ?_) (fun h13 => ?_)
                · (try simp only [beq_iff_eq, bne_iff_ne, ne_eq, decide_eq_true_eq, decide_eq_false_iff_not, beq_eq_false_iff_ne, bne_eq_false_iff_eq, Bool.not_eq_true', Bool.not_eq_false', Bool.not_eq_eq_eq_not, Bool.not_true, Bool.not_false, gt_iff_lt, ge_iff_le, Int.not_lt, Int.not_le] at h13)
                  
                  refine wc_seq ?_
                  have hopn : (0 : Int) ≤ 0 ∧ (0 : Int) ≤ (k : Int) + 1 := by omega
                  refine wc_region ?_
                  refine wl_val (r_move rfl) (ltn rfl) ?_
                  refine wl_eff (e_call (r_call rfl Try.func39 rfl rfl) (undo_clear_ret H8.f2)) (ltn rfl) ?_
                  rintro _ w28 H28
                  refine wl_nil ?_
                  refine wq_seq ?_
                  refine wc_region ?_
                  refine wl_val (r_build (pl := #[(0, 1), (1, 1), (2, 1)]) (_) Try.underlying45 Try.zeroValue45 (fun w => by kernel_rfl) rfl (rfl)) (ltn rfl) ?_
                  refine wl_eff (e_boxL (l := [_, _, _]) H28 rfl rfl) (ltn rfl) ?_
                  rintro _ w29 ⟨b29, rfl, H29⟩
                  refine wl_val (r_assign rfl) (ltn rfl) ?_
                  have Ho30 := H29
                  have Hc31 := Ho30.rlist_new
                  refine wl_nil ?_
                  refine wq_block_normal ?_
                  refine wq_join (_, _) (Sub.cons rfl (Sub.cons rfl (Sub.cons rfl (Sub.nil _)))) (Sub.cons rfl (Sub.cons rfl (Sub.cons rfl (Sub.nil _)))) (by (try dsimp only); exact ⟨_, _, _, hopn, Hc31.f3.right.f3.right.f2⟩)
                · (try simp only [beq_iff_eq, bne_iff_ne, ne_eq, decide_eq_true_eq, decide_eq_false_iff_not, beq_eq_false_iff_ne, bne_eq_false_iff_eq, Bool.not_eq_true', Bool.not_eq_false', Bool.not_eq_eq_eq_not, Bool.not_true, Bool.not_false, gt_iff_lt, ge_iff_le, Int.not_lt, Int.not_le] at h13)
                  
                  refine wc_seq ?_
                  refine wc_region ?_
                  refine wl_val (r_eql rfl rfl) (ltn rfl) ?_
                  refine wl_val (r_assign rfl) (ltn rfl) ?_
                  refine wl_nil ?_
                  refine wq_seq ?_
                  refine wc_cond rfl (fun h14 => ?_) (fun h14 => ?_)
                  · (try simp only [beq_iff_eq, bne_iff_ne, ne_eq, decide_eq_true_eq, decide_eq_false_iff_not, beq_eq_false_iff_ne, bne_eq_false_iff_eq, Bool.not_eq_true', Bool.not_eq_false', Bool.not_eq_eq_eq_not, Bool.not_true, Bool.not_false, gt_iff_lt, ge_iff_le, Int.not_lt, Int.not_le] at h14)
                    
                    refine wc_seq ?_
                    have hopn : 0 ≤ op ∧ op ≤ (k : Int) + 1 := by omega
                    refine wc_region ?_
                    refine wl_val (r_move rfl) (ltn rfl) ?_
                    refine wl_eff (e_call (r_call rfl Try.func30 rfl rfl) (undo_clone_ret H8.f2)) (ltn rfl) ?_
                    rintro _ w32 ⟨q32, rfl, H32⟩
                    refine wl_val (r_assign rfl) (ltn rfl) ?_
                    refine wl_nil ?_
                    refine wq_seq ?_
                    refine wc_seq ?_
                    refine wc_region ?_
                    refine wl_val (r_move rfl) (ltn rfl) ?_
                    refine wl_val ((by first | exact r_field0 1 Try.underlying65 rfl rfl Try.sizeOf24 (by decide) rfl | exact r_field 1 Try.underlying65 rfl rfl Try.sizeOf24 (by decide) rfl)) (ltn rfl) ?_
                    refine wl_val (r_load_part 1 (xs := [_, _, _]) Try.underlying24 rfl Try.sizeOf24 rfl rfl (H32.f3).get.2 rfl) (ltn rfl) ?_
                    refine wl_eff (e_call (r_call rfl Try.func21 rfl rfl) (undo_add_ret H32.f2 (fun W HW => f1 _ (HW.right.right.right)) (fun W HW => f2 _ (HW.right.right.right)) (by omega) (by omega))) (ltn rfl) ?_
                    rintro _ w33 ⟨rfl, H33⟩
                    refine wl_nil ?_
                    refine wq_seq ?_
                    refine wc_seq ?_
                    refine wc_region ?_
                    refine wl_val (r_move rfl) (ltn rfl) ?_
                    refine wl_eff (e_call (r_call rfl Try.func33 rfl rfl) (undo_undo_ret H33)) (ltn rfl) ?_
                    rintro _ w34 ⟨u34, fs34, rfl, hfs34, H34⟩
                    refine wl_nil ?_
                    refine wq_seq ?_
                    refine wc_seq ?_
                    refine wc_region ?_
                    refine wl_val (r_move rfl) (ltn rfl) ?_
                    refine wl_val (r_move rfl) (ltn rfl) ?_
                    refine wl_eff (e_call (r_call rfl Try.func40 rfl rfl) (rl_copy_ret H34.f6)) (ltn rfl) ?_
                    rintro _ w35 ⟨q35, rfl, H35⟩
                    refine wl_val (r_assign rfl) (ltn rfl) ?_
                    refine wl_val (r_assign rfl) (ltn rfl) ?_
                    refine wl_nil ?_
                    refine wq_seq ?_
                    refine wc_region ?_
                    refine wl_val (r_move rfl) (ltn rfl) ?_
                    refine wl_val (r_known_t (r_ptr_nnil Try.underlying40 rfl rfl) (by simp)) (ltn rfl) ?_
                    refine wl_val (r_assign rfl) (ltn rfl) ?_
                    refine wl_nil ?_
                    refine wq_block_normal ?_
                    refine wq_join (_, _) (Sub.cons rfl (Sub.cons rfl (Sub.cons rfl (Sub.nil _)))) (Sub.cons rfl (Sub.cons rfl (Sub.cons rfl (Sub.nil _)))) (by (try dsimp only); exact ⟨_, _, _, hopn, H35.f2.right.f2.right.f2.right.f2.right.f3.right.f2⟩)
                  · (try simp only [beq_iff_eq, bne_iff_ne, ne_eq, decide_eq_true_eq, decide_eq_false_iff_not, beq_eq_false_iff_ne, bne_eq_false_iff_eq, Bool.not_eq_true', Bool.not_eq_false', Bool.not_eq_eq_eq_not, Bool.not_true, Bool.not_false, gt_iff_lt, ge_iff_le, Int.not_lt, Int.not_le] at h14)
                    
                    have hopn : 0 ≤ op ∧ op ≤ (k : Int) + 1 := by omega
                    refine wc_region ?_
                    refine wl_val (r_assign rfl) (ltn rfl) ?_
                    refine wl_nil ?_
                    refine wq_block_normal ?_
                    refine wq_join (_, _) (Sub.cons rfl (Sub.cons rfl (Sub.cons rfl (Sub.nil _)))) (Sub.cons rfl (Sub.cons rfl (Sub.cons rfl (Sub.nil _)))) (by (try dsimp only); exact ⟨_, _, _, hopn, H8.right.f2.f2⟩)
  · (try simp only [beq_iff_eq, bne_iff_ne, ne_eq, decide_eq_true_eq, decide_eq_false_iff_not, beq_eq_false_iff_ne, bne_eq_false_iff_eq, Bool.not_eq_true', Bool.not_eq_false', Bool.not_eq_eq_eq_not, Bool.not_true, Bool.not_false, gt_iff_lt, ge_iff_le, Int.not_lt, Int.not_le] at h3)
    
    refine wc_exit ?_
    refine wq_then_exit ?_
    refine wq_then_exit ?_
    refine wq_block_hit ?_
    refine wq_seq ?_
    refine wc_seq ?_
    refine wc_region ?_
    refine wl_val (r_move rfl) (ltn rfl) ?_
    refine wl_val (r_move rfl) (ltn rfl) ?_
    refine wl_eff (e_call (r_call rfl Try.func25 rfl rfl) (rl_all_ret HL.f2)) (ltn rfl) ?_
    rintro u36 w36 ⟨hs36, hhs36, H36⟩
    refine wl_eff (e_call (r_call rfl Try.func24 rfl rfl) (groups_ret H36.f2.f2.f3 (by assumption))) (ltn rfl) ?_
    rintro _ w37 ⟨rfl, H37⟩
    refine wl_val (r_assign rfl) (ltn rfl) ?_
    refine wl_nil ?_
    refine wq_seq ?_
    refine wc_ret ?_
    refine wq_end1 (.inl rfl) Try.results7 rfl ?_
    exact ⟨rfl, H37.base⟩
end Go.Proofs.Ytaabgcfeghcmnaa
