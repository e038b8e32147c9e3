/- Runes of bytes, bytes of runes: the program's, the document's. -/
import Derived.Test.YtmkmffoadapmnaaDoorUtf4
set_option linter.unusedSimpArgs false
set_option linter.unusedVariables false
namespace Go.Proofs.YtmkmffoadapmnaaDoor
open Go.RowKit
theorem byts_drop {b : List Int} (h : Byts b) (n : Nat) : Byts (b.drop n) := fun x hx => h x (List.mem_of_mem_drop hx)
theorem byts_take {b : List Int} (h : Byts b) (n : Nat) : Byts (b.take n) := fun x hx => h x (List.mem_of_mem_take hx)
theorem decM_whole {b : List Int} (h : wholeM b = true) : (decM b).1 = valM (b.take (headM b).2) (b.take (headM b).2).length ∧ (decM b).2 = (headM b).2 := by
  have hn := wholeM_len h
  have hl : (b.take (headM b).2).length = (headM b).2 := by rw [List.length_take]; omega
  unfold decM
  rw [if_pos h, hl]
  refine ⟨?_, rfl⟩
  have := valM_app (b := b.take (headM b).2) (c := b.drop (headM b).2) (n := (headM b).2) hn.1 (by rw [hl]; exact Nat.le_refl _) hn.2.2.1
  rwa [List.take_append_drop] at this
theorem decM_not {b : List Int} (h : wholeM b = false) : decM b = (65533, 1) := by unfold decM; rw [if_neg (by simp [h])]
theorem whole_of {b : List Int} (h : (headM b).1 = (headM b).2) (h2 : 0 < (headM b).2) : wholeM b = true := by unfold wholeM; simp [h, h2]
theorem whole_not {b : List Int} (h : ¬ ((headM b).1 = (headM b).2 ∧ 0 < (headM b).2)) : wholeM b = false := by unfold wholeM; simpa using h
theorem bytesM_snoc (l : List Int) (k : Nat) (h : k < l.length) : bytesM (l.take (k + 1)) = bytesM (l.take k) ++ Lib.encodeRuneZ (l.getD k 0) := by
  unfold bytesM
  rw [List.take_succ_eq_append_getElem h, List.flatMap_append, List.getD_eq_getElem?_getD, List.getElem?_eq_getElem h]
  simp
theorem bytesM_le (l : List Int) : (bytesM l).length ≤ 4 * l.length := by
  induction l with
  | nil => simp [bytesM]
  | cons x r ih =>
    have h1 : bytesM (x :: r) = Lib.encodeRuneZ x ++ bytesM r := by simp [bytesM]
    have := (Lib.encodeRuneZ_length x).2
    rw [h1, List.length_append, List.length_cons]
    omega
theorem take_le {l : List Int} (k : Nat) : (bytesM (l.take k)).length ≤ 4 * l.length := by
  have := bytesM_le (l.take k)
  rw [List.length_take] at this
  omega
def Runs32 (l : List Int) : Prop := ∀ x ∈ l, -2147483648 ≤ x ∧ x < 2147483648
theorem run_at {l : List Int} (h : Runs32 l) {k : Nat} (hk : k < l.length) : -2147483648 ≤ l.getD k 0 ∧ l.getD k 0 < 2147483648 := by
  rw [List.getD_eq_getElem?_getD, List.getElem?_eq_getElem hk]; exact h _ (List.getElem_mem hk)
section
variable {w0 w : World} {F : HP} {v : Value} {b l : List Int} {r x y : Int}
theorem runes_ret (H : Holds w0 w F) (hT : UTabs w0) (hv : FRdI w0 F .u8 v b) (hb : Byts b) (hL : b.length ≤ 17179869184) : Ret Tryd.prog 27 #[v] w fun v' w' => Holds w0 w' (RowI 21 .i32 v' (runesM b) • F) := by
  refine ret_enter Tryd.func27 rfl Tryd.ntmps27 (Nat.le_of_ble_eq_true rfl) ?_
  dsimp only [slots0, Nat.reduceAdd]
  refine wc_seq ?_
  refine wc_region ?_
  refine wl_val (r_assign rfl) (ltn rfl) ?_
  refine wl_nil ?_
  refine wq_seq ?_
  refine wc_seq ?_
  refine wc_region ?_
  refine wl_val (r_assign rfl) (ltn rfl) ?_
  refine wl_nil ?_
  refine wq_seq ?_
  refine wc_seq ?_
  refine wc_block ?_
  refine wc_loop [] (fun (⟨v2, u, n⟩ : Value × Value × Nat) => [(0, v2), (3, u)]) (fun (⟨v2, u, n⟩ : Value × Value × Nat) W => ∃ b2 l2, (FRdI w0 F .u8 v2 b2 ∧ Byts b2 ∧ l2 ++ runesM b2 = runesM b ∧ l2.length + b2.length ≤ b.length ∧ b2.length = n) ∧ Holds w0 W (RowI 21 .i32 u l2 • F)) (fun (⟨v2, u, n⟩ : Value × Value × Nat) => n) ((v, .slice none 0 0, b.length)) (Sub.nil _) (Sub.cons rfl (Sub.cons rfl (Sub.nil _))) ⟨b, [], ⟨hv, hb, rfl, by simp, rfl⟩, (H).row_nil none⟩ ?_
  rintro ⟨v2, u, n⟩ w1 ⟨b2, l2, ⟨hv2, hb2, hr2, hl2, hn2⟩, HL⟩
  dsimp only [List.cons_append, List.nil_append]
  refine wc_seq ?_
  refine wc_seq ?_
  refine wc_region ?_
  refine wl_val (r_move rfl) (ltn rfl) ?_
  refine wl_val (r_lenR (hv2 _ (HL.right)) Tryd.underlying39 rfl) (ltn rfl) ?_
  refine wl_val (r_gtr rfl rfl) (ltn rfl) ?_
  refine wl_nil ?_
  refine wq_seq ?_
  refine wc_cond rfl (fun h1 => ?_) (fun h1 => ?_)
  · (try simp only [beq_iff_eq, bne_iff_ne, ne_eq, decide_eq_true_eq, decide_eq_false_iff_not, beq_eq_false_iff_ne, bne_eq_false_iff_eq, Bool.not_eq_true', Bool.not_eq_false', Bool.not_eq_eq_eq_not, Bool.not_true, Bool.not_false, gt_iff_lt, ge_iff_le, Int.not_lt, Int.not_le] at h1)
    
    refine wc_skip ?_
    refine wq_seq ?_
    refine wc_block ?_
    refine wc_seq ?_
    have hne : b2 ≠ [] := by rintro rfl; simp at *
    have hd := decM_len hne
    refine wc_region ?_
    refine wl_val (r_move rfl) (ltn rfl) ?_
    refine wl_eff (e_call (r_call rfl Tryd.func49 rfl rfl) (decode_ret HL hT (fun W HW => hv2 _ (HW.right)) (by assumption) (by assumption))) (ltn rfl) ?_
    rintro _ w2 ⟨rfl, H2⟩
    refine wl_val (r_move rfl) (ltn rfl) ?_
    refine wl_val (r_extract rfl rfl) (ltn rfl) ?_
    refine wl_val (r_extract rfl rfl) (ltn rfl) ?_
    refine wl_val (r_assign rfl) (ltn rfl) ?_
    refine wl_val (r_assign rfl) (ltn rfl) ?_
    refine wl_nil ?_
    refine wq_seq ?_
    refine wc_seq ?_
    refine wc_region ?_
    refine wl_val (r_move rfl) (ltn rfl) ?_
    refine wl_val (r_move rfl) (ltn rfl) ?_
    refine wl_eff (e_lit_ints (k := .i32) (l := [_]) H2 Tryd.underlying22 Tryd.sizeOf21 Tryd.zeroValue21 rfl rfl rfl (by decide)) (ltn rfl) ?_
    rintro l3 w3 H3
    refine wl_eff (e_append_ints H3.f2 ((H3).row_rd) Tryd.underlying22 (show (Tryd.prog.info? 21).map (fun i => (i.zero, i.size, i.bytes)) = some (some (.int .i32 0), 1, 4) by kernel_rfl) rfl rfl (by first | omega | (simp only [List.length_append, List.length_nil, List.length_cons]; omega) | (simp; omega)) (by first | omega | (simp only [List.length_append, List.length_nil, List.length_cons]; omega) | (simp; omega))) (ltn rfl) ?_
    rintro l4 w4 H4
    try simp only [List.nil_append] at H4
    refine wl_val (r_assign rfl) (ltn rfl) ?_
    refine wl_nil ?_
    refine wq_seq ?_
    refine wc_region ?_
    refine wl_val (r_move rfl) (ltn rfl) ?_
    refine wl_val (r_move rfl) (ltn rfl) ?_
    refine wl_val (r_sliceS (hv2 _ (H4.right.right)) Tryd.underlying39 Tryd.sizeOf5 rfl rfl rfl (by omega)) (ltn rfl) ?_
    refine wl_val (r_assign rfl) (ltn rfl) ?_
    refine wl_nil ?_
    refine wq_block_normal ?_
    refine wq_round (_, _, _) (Sub.cons rfl (Sub.cons rfl (Sub.nil _))) (Sub.nil _) (by (try dsimp only); exact ⟨_, _, ⟨fun W HW => RdI.from (hv2 W HW) hd.2.1, byts_drop hb2 _, by rw [← hr2, runesM_step hne, List.append_assoc]; rfl, by rw [List.length_append, List.length_drop]; simp only [List.length_cons, List.length_nil]; omega, rfl⟩, H4.f2.right⟩) ?_
    · (try dsimp only); rw [List.length_drop]; omega
  · (try simp only [beq_iff_eq, bne_iff_ne, ne_eq, decide_eq_true_eq, decide_eq_false_iff_not, beq_eq_false_iff_ne, bne_eq_false_iff_eq, Bool.not_eq_true', Bool.not_eq_false', Bool.not_eq_eq_eq_not, Bool.not_true, Bool.not_false, gt_iff_lt, ge_iff_le, Int.not_lt, Int.not_le] at h1)
    
    refine wc_exit ?_
    refine wq_then_exit ?_
    refine wq_then_exit ?_
    refine wq_block_hit ?_
    refine wq_seq ?_
    refine wc_seq ?_
    refine wc_region ?_
    refine wl_val (r_move rfl) (ltn rfl) ?_
    refine wl_val (r_assign rfl) (ltn rfl) ?_
    refine wl_nil ?_
    refine wq_seq ?_
    refine wc_ret ?_
    refine wq_end1 (.inl rfl) Tryd.results27 rfl ?_
    obtain rfl : b2 = [] := List.eq_nil_of_length_eq_zero (by omega)
    rw [runesM_nil, List.append_nil] at hr2
    subst hr2
    exact HL
theorem ref_runes_ret (H : Holds w0 w F) (hv : FRdI w0 F .u8 v b) (hb : Byts b) (hL : b.length ≤ 17179869184) : Ret Tryd.prog 37 #[v] w fun v' w' => Holds w0 w' (RowI 21 .i32 v' (runesM b) • F) := by
  refine ret_enter Tryd.func37 rfl Tryd.ntmps37 (Nat.le_of_ble_eq_true rfl) ?_
  dsimp only [slots0, Nat.reduceAdd]
  refine wc_seq ?_
  refine wc_region ?_
  refine wl_val (r_assign rfl) (ltn rfl) ?_
  refine wl_nil ?_
  refine wq_seq ?_
  refine wc_seq ?_
  refine wc_region ?_
  refine wl_val (r_assign rfl) (ltn rfl) ?_
  refine wl_nil ?_
  refine wq_seq ?_
  refine wc_seq ?_
  refine wc_block ?_
  refine wc_loop [] (fun (⟨v2, u, n⟩ : Value × Value × Nat) => [(0, v2), (3, u)]) (fun (⟨v2, u, n⟩ : Value × Value × Nat) W => ∃ b2 l2, (FRdI w0 F .u8 v2 b2 ∧ Byts b2 ∧ l2 ++ runesM b2 = runesM b ∧ l2.length + b2.length ≤ b.length ∧ b2.length = n) ∧ Holds w0 W (RowI 21 .i32 u l2 • F)) (fun (⟨v2, u, n⟩ : Value × Value × Nat) => n) ((v, .slice none 0 0, b.length)) (Sub.nil _) (Sub.cons rfl (Sub.cons rfl (Sub.nil _))) ⟨b, [], ⟨hv, hb, rfl, by simp, rfl⟩, (H).row_nil none⟩ ?_
  rintro ⟨v2, u, n⟩ w1 ⟨b2, l2, ⟨hv2, hb2, hr2, hl2, hn2⟩, HL⟩
  dsimp only [List.cons_append, List.nil_append]
  refine wc_seq ?_
  refine wc_seq ?_
  refine wc_region ?_
  refine wl_val (r_move rfl) (ltn rfl) ?_
  refine wl_val (r_lenR (hv2 _ (HL.right)) Tryd.underlying39 rfl) (ltn rfl) ?_
  refine wl_val (r_gtr rfl rfl) (ltn rfl) ?_
  refine wl_nil ?_
  refine wq_seq ?_
  refine wc_cond rfl (fun h1 => ?_) (fun h1 => ?_)
  · (try simp only [beq_iff_eq, bne_iff_ne, ne_eq, decide_eq_true_eq, decide_eq_false_iff_not, beq_eq_false_iff_ne, bne_eq_false_iff_eq, Bool.not_eq_true', Bool.not_eq_false', Bool.not_eq_eq_eq_not, Bool.not_true, Bool.not_false, gt_iff_lt, ge_iff_le, Int.not_lt, Int.not_le] at h1)
    
    refine wc_skip ?_
    refine wq_seq ?_
    refine wc_block ?_
    refine wc_seq ?_
    have hne : b2 ≠ [] := by rintro rfl; simp at *
    have hd := decM_len hne
    refine wc_region ?_
    refine wl_val (r_move rfl) (ltn rfl) ?_
    refine wl_eff (e_call (r_call rfl Tryd.func50 rfl rfl) (head_ret HL (fun W HW => hv2 _ (HW.right)) (by assumption))) (ltn rfl) ?_
    rintro _ w2 ⟨rfl, H2⟩
    refine wl_val (r_move rfl) (ltn rfl) ?_
    refine wl_val (r_extract rfl rfl) (ltn rfl) ?_
    refine wl_val (r_extract rfl rfl) (ltn rfl) ?_
    refine wl_val (r_assign rfl) (ltn rfl) ?_
    refine wl_val (r_assign rfl) (ltn rfl) ?_
    refine wl_nil ?_
    refine wq_seq ?_
    refine wc_seq ?_
    refine wc_region ?_
    refine wl_val (r_move rfl) (ltn rfl) ?_
    refine wl_val (r_move rfl) (ltn rfl) ?_
    refine wl_val (r_eql rfl rfl) (ltn rfl) ?_
    refine wl_split rfl (ltn rfl) (fun h2 => ?_) (fun h2 => ?_)
    · (try simp only [beq_iff_eq, bne_iff_ne, ne_eq, decide_eq_true_eq, decide_eq_false_iff_not, beq_eq_false_iff_ne, bne_eq_false_iff_eq, Bool.not_eq_true', Bool.not_eq_false', Bool.not_eq_eq_eq_not, Bool.not_true, Bool.not_false, gt_iff_lt, ge_iff_le, Int.not_lt, Int.not_le] at h2)
      refine wl_yes rfl rfl ?_
      refine wl_val (r_move rfl) (ltn rfl) ?_
      refine wl_yes rfl rfl ?_
      refine wl_val (r_gtr rfl rfl) (ltn rfl) ?_
      refine wl_val (r_pick_t rfl rfl) (ltn rfl) ?_
      refine wl_nil ?_
      refine wq_seq ?_
      refine wc_cond rfl (fun h3 => ?_) (fun h3 => ?_)
      · (try simp only [beq_iff_eq, bne_iff_ne, ne_eq, decide_eq_true_eq, decide_eq_false_iff_not, beq_eq_false_iff_ne, bne_eq_false_iff_eq, Bool.not_eq_true', Bool.not_eq_false', Bool.not_eq_eq_eq_not, Bool.not_true, Bool.not_false, gt_iff_lt, ge_iff_le, Int.not_lt, Int.not_le] at h3)
        
        refine wc_seq ?_
        have hw : wholeM b2 = true := whole_of (by omega) (by omega)
        have hwl := wholeM_len hw
        have hlt : (b2.take (((headM b2).2 : Nat) : Int).toNat).length = (headM b2).2 := by rw [Int.toNat_natCast, List.length_take]; omega
        refine wc_region ?_
        refine wl_val (r_move rfl) (ltn rfl) ?_
        refine wl_val (r_move rfl) (ltn rfl) ?_
        refine wl_val (r_move rfl) (ltn rfl) ?_
        refine wl_val (r_sliceS (hv2 _ (H2.right)) Tryd.underlying39 Tryd.sizeOf5 rfl rfl rfl (by omega)) (ltn rfl) ?_
        refine wl_eff (e_call (r_call rfl Tryd.func51 rfl rfl) (value_ret H2 (fun W HW => RdI.upto (hv2 _ (HW.right)) (by omega)) (byts_take hb2 _) (by rw [hlt]; omega))) (ltn rfl) ?_
        rintro _ w3 ⟨rfl, H3⟩
        rw [show valM (b2.take (((headM b2).2 : Nat) : Int).toNat) (b2.take (((headM b2).2 : Nat) : Int).toNat).length = (decM b2).1 from (decM_whole hw).1.symm]
        refine wl_eff (e_lit_ints (k := .i32) (l := [_]) H3 Tryd.underlying22 Tryd.sizeOf21 Tryd.zeroValue21 rfl rfl rfl (by decide)) (ltn rfl) ?_
        rintro l4 w4 H4
        refine wl_eff (e_append_ints H4.f2 ((H4).row_rd) Tryd.underlying22 (show (Tryd.prog.info? 21).map (fun i => (i.zero, i.size, i.bytes)) = some (some (.int .i32 0), 1, 4) by kernel_rfl) rfl rfl (by first | omega | (simp only [List.length_append, List.length_nil, List.length_cons]; omega) | (simp; omega)) (by first | omega | (simp only [List.length_append, List.length_nil, List.length_cons]; omega) | (simp; omega))) (ltn rfl) ?_
        rintro l5 w5 H5
        try simp only [List.nil_append] at H5
        refine wl_val (r_assign rfl) (ltn rfl) ?_
        refine wl_nil ?_
        refine wq_seq ?_
        refine wc_region ?_
        refine wl_val (r_move rfl) (ltn rfl) ?_
        refine wl_val (r_move rfl) (ltn rfl) ?_
        refine wl_val (r_sliceS (hv2 _ (H5.right.right)) Tryd.underlying39 Tryd.sizeOf5 rfl rfl rfl (by omega)) (ltn rfl) ?_
        refine wl_val (r_assign rfl) (ltn rfl) ?_
        have hcut : FRdI w0 F .u8 (cutV 1 (((headM b2).2 : Nat) : Int).toNat ((b2.length : Nat) : Int).toNat v2) (b2.drop (decM b2).2) := fun W HW => by rw [(decM_whole hw).2]; exact RdI.from (hv2 W HW) hwl.2.1
        have hrun : (l2 ++ [(decM b2).1]) ++ runesM (b2.drop (decM b2).2) = runesM b := by rw [← hr2, runesM_step hne, List.append_assoc]; rfl
        refine wl_nil ?_
        refine wq_block_normal ?_
        refine wq_round (_, _, _) (Sub.cons rfl (Sub.cons rfl (Sub.nil _))) (Sub.nil _) (by (try dsimp only); exact ⟨_, _, ⟨hcut, byts_drop hb2 _, hrun, by rw [List.length_append, List.length_drop]; simp only [List.length_cons, List.length_nil]; omega, rfl⟩, H5.f2.right⟩) ?_
        · (try dsimp only); rw [List.length_drop]; omega
      · (try simp only [beq_iff_eq, bne_iff_ne, ne_eq, decide_eq_true_eq, decide_eq_false_iff_not, beq_eq_false_iff_ne, bne_eq_false_iff_eq, Bool.not_eq_true', Bool.not_eq_false', Bool.not_eq_eq_eq_not, Bool.not_true, Bool.not_false, gt_iff_lt, ge_iff_le, Int.not_lt, Int.not_le] at h3)
        
        refine wc_seq ?_
        have hw : wholeM b2 = false := whole_not (by omega)
        refine wc_region ?_
        refine wl_val (r_move rfl) (ltn rfl) ?_
        refine wl_eff (e_lit_ints (k := .i32) (l := [65533]) H2 Tryd.underlying22 Tryd.sizeOf21 Tryd.zeroValue21 rfl rfl rfl (by decide)) (ltn rfl) ?_
        rintro l6 w6 H6
        refine wl_eff (e_append_ints H6.f2 ((H6).row_rd) Tryd.underlying22 (show (Tryd.prog.info? 21).map (fun i => (i.zero, i.size, i.bytes)) = some (some (.int .i32 0), 1, 4) by kernel_rfl) rfl rfl (by first | omega | (simp only [List.length_append, List.length_nil, List.length_cons]; omega) | (simp; omega)) (by first | omega | (simp only [List.length_append, List.length_nil, List.length_cons]; omega) | (simp; omega))) (ltn rfl) ?_
        rintro l7 w7 H7
        try simp only [List.nil_append] at H7
        refine wl_val (r_assign rfl) (ltn rfl) ?_
        refine wl_nil ?_
        refine wq_seq ?_
        refine wc_region ?_
        refine wl_val (r_move rfl) (ltn rfl) ?_
        refine wl_val (r_sliceS (hv2 _ (H7.right.right)) Tryd.underlying39 Tryd.sizeOf5 rfl rfl rfl (by omega)) (ltn rfl) ?_
        refine wl_val (r_assign rfl) (ltn rfl) ?_
        have hcut : FRdI w0 F .u8 (cutV 1 (1 : Int).toNat ((b2.length : Nat) : Int).toNat v2) (b2.drop (decM b2).2) := fun W HW => by rw [decM_not hw]; exact RdI.from (hv2 W HW) (by omega)
        have hrun : (l2 ++ [65533]) ++ runesM (b2.drop (decM b2).2) = runesM b := by rw [← hr2, runesM_step hne, List.append_assoc, decM_not hw]; rfl
        refine wl_nil ?_
        refine wq_block_normal ?_
        refine wq_round (_, _, _) (Sub.cons rfl (Sub.cons rfl (Sub.nil _))) (Sub.nil _) (by (try dsimp only); exact ⟨_, _, ⟨hcut, byts_drop hb2 _, hrun, by rw [List.length_append, List.length_drop]; simp only [List.length_cons, List.length_nil]; omega, rfl⟩, H7.f2.right⟩) ?_
        · (try dsimp only); rw [List.length_drop]; omega
    · (try simp only [beq_iff_eq, bne_iff_ne, ne_eq, decide_eq_true_eq, decide_eq_false_iff_not, beq_eq_false_iff_ne, bne_eq_false_iff_eq, Bool.not_eq_true', Bool.not_eq_false', Bool.not_eq_eq_eq_not, Bool.not_true, Bool.not_false, gt_iff_lt, ge_iff_le, Int.not_lt, Int.not_le] at h2)
      refine wl_no rfl rfl rfl (ltn rfl) ?_
      refine wl_no rfl rfl rfl (ltn rfl) ?_
      refine wl_val (r_pick_f rfl rfl) (ltn rfl) ?_
      refine wl_nil ?_
      refine wq_seq ?_
      refine wc_cond_f rfl ?_
      refine wc_seq ?_
      have hw : wholeM b2 = false := whole_not (by omega)
      refine wc_region ?_
      refine wl_val (r_move rfl) (ltn rfl) ?_
      refine wl_eff (e_lit_ints (k := .i32) (l := [65533]) H2 Tryd.underlying22 Tryd.sizeOf21 Tryd.zeroValue21 rfl rfl rfl (by decide)) (ltn rfl) ?_
      rintro l8 w8 H8
      refine wl_eff (e_append_ints H8.f2 ((H8).row_rd) Tryd.underlying22 (show (Tryd.prog.info? 21).map (fun i => (i.zero, i.size, i.bytes)) = some (some (.int .i32 0), 1, 4) by kernel_rfl) rfl rfl (by first | omega | (simp only [List.length_append, List.length_nil, List.length_cons]; omega) | (simp; omega)) (by first | omega | (simp only [List.length_append, List.length_nil, List.length_cons]; omega) | (simp; omega))) (ltn rfl) ?_
      rintro l9 w9 H9
      try simp only [List.nil_append] at H9
      refine wl_val (r_assign rfl) (ltn rfl) ?_
      refine wl_nil ?_
      refine wq_seq ?_
      refine wc_region ?_
      refine wl_val (r_move rfl) (ltn rfl) ?_
      refine wl_val (r_sliceS (hv2 _ (H9.right.right)) Tryd.underlying39 Tryd.sizeOf5 rfl rfl rfl (by omega)) (ltn rfl) ?_
      refine wl_val (r_assign rfl) (ltn rfl) ?_
      have hcut : FRdI w0 F .u8 (cutV 1 (1 : Int).toNat ((b2.length : Nat) : Int).toNat v2) (b2.drop (decM b2).2) := fun W HW => by rw [decM_not hw]; exact RdI.from (hv2 W HW) (by omega)
      have hrun : (l2 ++ [65533]) ++ runesM (b2.drop (decM b2).2) = runesM b := by rw [← hr2, runesM_step hne, List.append_assoc, decM_not hw]; rfl
      refine wl_nil ?_
      refine wq_block_normal ?_
      refine wq_round (_, _, _) (Sub.cons rfl (Sub.cons rfl (Sub.nil _))) (Sub.nil _) (by (try dsimp only); exact ⟨_, _, ⟨hcut, byts_drop hb2 _, hrun, by rw [List.length_append, List.length_drop]; simp only [List.length_cons, List.length_nil]; omega, rfl⟩, H9.f2.right⟩) ?_
      · (try dsimp only); rw [List.length_drop]; omega
  · (try simp only [beq_iff_eq, bne_iff_ne, ne_eq, decide_eq_true_eq, decide_eq_false_iff_not, beq_eq_false_iff_ne, bne_eq_false_iff_eq, Bool.not_eq_true', Bool.not_eq_false', Bool.not_eq_eq_eq_not, Bool.not_true, Bool.not_false, gt_iff_lt, ge_iff_le, Int.not_lt, Int.not_le] at h1)
    
    refine wc_exit ?_
    refine wq_then_exit ?_
    refine wq_then_exit ?_
    refine wq_block_hit ?_
    refine wq_seq ?_
    refine wc_seq ?_
    refine wc_region ?_
    refine wl_val (r_move rfl) (ltn rfl) ?_
    refine wl_val (r_assign rfl) (ltn rfl) ?_
    refine wl_nil ?_
    refine wq_seq ?_
    refine wc_ret ?_
    refine wq_end1 (.inl rfl) Tryd.results37 rfl ?_
    obtain rfl : b2 = [] := List.eq_nil_of_length_eq_zero (by omega)
    rw [runesM_nil, List.append_nil] at hr2
    subst hr2
    exact HL
theorem bytes_ret (H : Holds w0 w F) (hv : FRdI w0 F .i32 v l) (hl : Runs32 l) (hL : l.length ≤ 17179869184) : Ret Tryd.prog 36 #[v] w fun v' w' => Holds w0 w' (RowI 5 .u8 v' (bytesM l) • F) := by
  refine ret_enter Tryd.func36 rfl Tryd.ntmps36 (Nat.le_of_ble_eq_true rfl) ?_
  dsimp only [slots0, Nat.reduceAdd]
  refine wc_seq ?_
  refine wc_region ?_
  refine wl_val (r_assign rfl) (ltn rfl) ?_
  refine wl_nil ?_
  refine wq_seq ?_
  refine wc_seq ?_
  refine wc_region ?_
  refine wl_val (r_assign rfl) (ltn rfl) ?_
  refine wl_nil ?_
  refine wq_seq ?_
  refine wc_seq ?_
  refine wc_seq ?_
  refine wc_region ?_
  refine wl_val (r_move rfl) (ltn rfl) ?_
  refine wl_val (r_lenR (hv _ (H)) Tryd.underlying22 rfl) (ltn rfl) ?_
  refine wl_val (r_move rfl) (ltn rfl) ?_
  refine wl_nil ?_
  refine wq_seq ?_
  refine wc_block ?_
  refine wc_loop [(6, _), (7, _)] (fun (⟨k, u⟩ : Nat × Value) => [(8, .int .i64 (k : Int)), (3, u)]) (fun (⟨k, u⟩ : Nat × Value) W => k ≤ l.length ∧ Holds w0 W (RowI 5 .u8 u (bytesM (l.take k)) • F)) (fun (⟨k, u⟩ : Nat × Value) => l.length - k) ((0, .slice none 0 0)) (Sub.cons rfl (Sub.cons rfl (Sub.nil _))) (Sub.cons rfl (Sub.cons rfl (Sub.nil _))) ⟨by omega, (H).row_nil none⟩ ?_
  rintro ⟨k, u⟩ w1 ⟨hk, HL⟩
  dsimp only [List.cons_append, List.nil_append]
  refine wc_seq ?_
  refine wc_region ?_
  refine wl_val (r_lss rfl rfl) (ltn rfl) ?_
  refine wl_nil ?_
  refine wq_seq ?_
  refine wc_seq ?_
  refine wc_cond rfl (fun h1 => ?_) (fun h1 => ?_)
  · (try simp only [beq_iff_eq, bne_iff_ne, ne_eq, decide_eq_true_eq, decide_eq_false_iff_not, beq_eq_false_iff_ne, bne_eq_false_iff_eq, Bool.not_eq_true', Bool.not_eq_false', Bool.not_eq_eq_eq_not, Bool.not_true, Bool.not_false, gt_iff_lt, ge_iff_le, Int.not_lt, Int.not_le] at h1)
    
    refine wc_skip ?_
    refine wq_seq ?_
    refine wc_seq ?_
    refine wc_block ?_
    refine wc_seq ?_
    have hkl : k < l.length := by omega
    have hbb := take_le (l := l) k
    have hrr := run_at hl hkl
    refine wc_region ?_
    obtain ⟨bv, ov, cv, ev⟩ := RdI.posV (hv _ (HL.right)) (by omega)
    cases ev
    refine wl_val (r_index Tryd.underlying22 Tryd.sizeOf21 rfl rfl (by omega)) (ltn rfl) ?_
    refine wl_val (r_load (plain_of Tryd.underlying21 rfl) rfl (by first | exact RdI.at1n (hv _ (HL.right)) (by omega) | exact RdI.at0 (hv _ (HL.right)) (by omega) | exact RdI.at1 (hv _ (HL.right)) (by omega))) (ltn rfl) ?_
    refine wl_val (r_assign rfl) (ltn rfl) ?_
    refine wl_nil ?_
    refine wq_seq ?_
    refine wc_seq ?_
    refine wc_seq ?_
    refine wc_region ?_
    refine wl_val (r_move rfl) (ltn rfl) ?_
    refine wl_eff (e_call (r_call rfl Tryd.func41 rfl rfl) (is_ret)) (ltn rfl) ?_
    rintro _ _ ⟨rfl, rfl⟩
    refine wl_val (r_not rfl) (ltn rfl) ?_
    refine wl_nil ?_
    refine wq_seq ?_
    refine wc_cond rfl (fun h2 => ?_) (fun h2 => ?_)
    · (try simp only [beq_iff_eq, bne_iff_ne, ne_eq, decide_eq_true_eq, decide_eq_false_iff_not, beq_eq_false_iff_ne, bne_eq_false_iff_eq, Bool.not_eq_true', Bool.not_eq_false', Bool.not_eq_eq_eq_not, Bool.not_true, Bool.not_false, gt_iff_lt, ge_iff_le, Int.not_lt, Int.not_le] at h2)
      have henc : Lib.encodeRuneZ (l.getD k 0) = Lib.encodeRuneZ 65533 := by rw [enc_valid (by simpa using h2)]; rfl
      refine wc_region ?_
      refine wl_val (r_assign rfl) (ltn rfl) ?_
      refine wl_nil ?_
      refine wq_seq ?_
      refine wc_region ?_
      refine wl_val (r_move rfl) (ltn rfl) ?_
      refine wl_val (r_move rfl) (ltn rfl) ?_
      refine wl_eff (e_call (r_call rfl Tryd.func53 rfl rfl) (app_rune_ret HL (by omega) (by omega))) (ltn rfl) ?_
      rintro u3 w3 H3
      refine wl_val (r_assign rfl) (ltn rfl) ?_
      refine wl_nil ?_
      refine wq_block_normal ?_
      refine wq_seq ?_
      refine wc_region ?_
      refine wl_val (r_add rfl rfl (by omega)) (ltn rfl) ?_
      refine wl_val (r_move rfl) (ltn rfl) ?_
      refine wl_nil ?_
      refine wq_round ((k + 1, u3)) ?_ ?_ ?_ ?_
      · exact (Sub.cons rfl (Sub.cons rfl (Sub.nil _)))
      · exact (Sub.cons rfl (Sub.cons rfl (Sub.nil _)))
      · (try dsimp only)
        exact ⟨by omega, by rw [bytesM_snoc l k hkl]; first | exact H3 | (rw [henc]; exact H3)⟩
      · (try dsimp only); omega
    · (try simp only [beq_iff_eq, bne_iff_ne, ne_eq, decide_eq_true_eq, decide_eq_false_iff_not, beq_eq_false_iff_ne, bne_eq_false_iff_eq, Bool.not_eq_true', Bool.not_eq_false', Bool.not_eq_eq_eq_not, Bool.not_true, Bool.not_false, gt_iff_lt, ge_iff_le, Int.not_lt, Int.not_le] at h2)
      
      refine wc_skip ?_
      refine wq_seq ?_
      refine wc_region ?_
      refine wl_val (r_move rfl) (ltn rfl) ?_
      refine wl_val (r_move rfl) (ltn rfl) ?_
      refine wl_eff (e_call (r_call rfl Tryd.func53 rfl rfl) (app_rune_ret HL (by omega) (by omega))) (ltn rfl) ?_
      rintro u4 w4 H4
      refine wl_val (r_assign rfl) (ltn rfl) ?_
      refine wl_nil ?_
      refine wq_block_normal ?_
      refine wq_seq ?_
      refine wc_region ?_
      refine wl_val (r_add rfl rfl (by omega)) (ltn rfl) ?_
      refine wl_val (r_move rfl) (ltn rfl) ?_
      refine wl_nil ?_
      refine wq_round ((k + 1, u4)) ?_ ?_ ?_ ?_
      · exact (Sub.cons rfl (Sub.cons rfl (Sub.nil _)))
      · exact (Sub.cons rfl (Sub.cons rfl (Sub.nil _)))
      · (try dsimp only)
        exact ⟨by omega, by rw [bytesM_snoc l k hkl]; first | exact H4 | (rw [henc]; exact H4)⟩
      · (try dsimp only); omega
  · (try simp only [beq_iff_eq, bne_iff_ne, ne_eq, decide_eq_true_eq, decide_eq_false_iff_not, beq_eq_false_iff_ne, bne_eq_false_iff_eq, Bool.not_eq_true', Bool.not_eq_false', Bool.not_eq_eq_eq_not, Bool.not_true, Bool.not_false, gt_iff_lt, ge_iff_le, Int.not_lt, Int.not_le] at h1)
    
    refine wc_exit ?_
    refine wq_then_exit ?_
    refine wq_then_exit ?_
    refine wq_block_hit ?_
    refine wq_seq ?_
    refine wc_seq ?_
    refine wc_region ?_
    refine wl_val (r_move rfl) (ltn rfl) ?_
    refine wl_val (r_assign rfl) (ltn rfl) ?_
    refine wl_nil ?_
    refine wq_seq ?_
    refine wc_ret ?_
    refine wq_end1 (.inl rfl) Tryd.results36 rfl ?_
    obtain rfl : k = l.length := by omega
    rw [List.take_length] at HL
    exact HL
theorem ref_bytes_ret (H : Holds w0 w F) (hv : FRdI w0 F .i32 v l) (hl : Runs32 l) (hL : l.length ≤ 17179869184) : Ret Tryd.prog 39 #[v] w fun v' w' => Holds w0 w' (RowI 5 .u8 v' (bytesM l) • F) := by
  refine ret_enter Tryd.func39 rfl Tryd.ntmps39 (Nat.le_of_ble_eq_true rfl) ?_
  dsimp only [slots0, Nat.reduceAdd]
  refine wc_seq ?_
  refine wc_region ?_
  refine wl_val (r_assign rfl) (ltn rfl) ?_
  refine wl_nil ?_
  refine wq_seq ?_
  refine wc_seq ?_
  refine wc_region ?_
  refine wl_val (r_assign rfl) (ltn rfl) ?_
  refine wl_nil ?_
  refine wq_seq ?_
  refine wc_seq ?_
  refine wc_seq ?_
  refine wc_region ?_
  refine wl_val (r_assign rfl) (ltn rfl) ?_
  refine wl_nil ?_
  refine wq_seq ?_
  refine wc_block ?_
  refine wc_loop [(0, _)] (fun (⟨k, u⟩ : Nat × Value) => [(4, .int .i64 (k : Int)), (3, u)]) (fun (⟨k, u⟩ : Nat × Value) W => k ≤ l.length ∧ Holds w0 W (RowI 5 .u8 u (bytesM (l.take k)) • F)) (fun (⟨k, u⟩ : Nat × Value) => l.length - k) ((0, .slice none 0 0)) (Sub.cons rfl (Sub.nil _)) (Sub.cons rfl (Sub.cons rfl (Sub.nil _))) ⟨by omega, (H).row_nil none⟩ ?_
  rintro ⟨k, u⟩ w1 ⟨hk, HL⟩
  dsimp only [List.cons_append, List.nil_append]
  refine wc_seq ?_
  refine wc_seq ?_
  refine wc_region ?_
  refine wl_val (r_move rfl) (ltn rfl) ?_
  refine wl_val (r_move rfl) (ltn rfl) ?_
  refine wl_val (r_lenR (hv _ (HL.right)) Tryd.underlying22 rfl) (ltn rfl) ?_
  refine wl_val (r_lss rfl rfl) (ltn rfl) ?_
  refine wl_nil ?_
  refine wq_seq ?_
  refine wc_cond rfl (fun h1 => ?_) (fun h1 => ?_)
  · (try simp only [beq_iff_eq, bne_iff_ne, ne_eq, decide_eq_true_eq, decide_eq_false_iff_not, beq_eq_false_iff_ne, bne_eq_false_iff_eq, Bool.not_eq_true', Bool.not_eq_false', Bool.not_eq_eq_eq_not, Bool.not_true, Bool.not_false, gt_iff_lt, ge_iff_le, Int.not_lt, Int.not_le] at h1)
    
    refine wc_skip ?_
    refine wq_seq ?_
    refine wc_seq ?_
    refine wc_block ?_
    have hkl : k < l.length := by omega
    have hbb := take_le (l := l) k
    have hrr := run_at hl hkl
    have hee := (Lib.encodeRuneZ_length (l.getD k 0)).2
    refine wc_region ?_
    refine wl_val (r_move rfl) (ltn rfl) ?_
    refine wl_val (r_move rfl) (ltn rfl) ?_
    refine wl_val (r_move rfl) (ltn rfl) ?_
    obtain ⟨bv, ov, cv, ev⟩ := RdI.posV (hv _ (HL.right)) (by omega)
    cases ev
    refine wl_val (r_index Tryd.underlying22 Tryd.sizeOf21 rfl rfl (by omega)) (ltn rfl) ?_
    refine wl_val (r_load (plain_of Tryd.underlying21 rfl) rfl (by first | exact RdI.at1n (hv _ (HL.right)) (by omega) | exact RdI.at0 (hv _ (HL.right)) (by omega) | exact RdI.at1 (hv _ (HL.right)) (by omega))) (ltn rfl) ?_
    refine wl_eff (e_call (r_call rfl Tryd.func44 rfl rfl) (form_ret HL (by omega))) (ltn rfl) ?_
    rintro u2 w2 H2
    refine wl_eff (e_append_ints H2.f2 ((H2).row_rd) Tryd.underlying39 (show (Tryd.prog.info? 5).map (fun i => (i.zero, i.size, i.bytes)) = some (some (.int .u8 0), 1, 1) by kernel_rfl) rfl rfl (by first | omega | (simp only [List.length_append, List.length_nil, List.length_cons]; omega) | (simp; omega)) (by first | omega | (simp only [List.length_append, List.length_nil, List.length_cons]; omega) | (simp; omega))) (ltn rfl) ?_
    rintro l3 w3 H3
    try simp only [List.nil_append] at H3
    refine wl_val (r_assign rfl) (ltn rfl) ?_
    refine wl_nil ?_
    refine wq_block_normal ?_
    refine wq_seq ?_
    refine wc_region ?_
    refine wl_val (r_move rfl) (ltn rfl) ?_
    refine wl_val (r_add rfl rfl (by omega)) (ltn rfl) ?_
    refine wl_val (r_assign rfl) (ltn rfl) ?_
    refine wl_nil ?_
    refine wq_round ((k + 1, l3)) ?_ ?_ ?_ ?_
    · exact (Sub.cons rfl (Sub.cons rfl (Sub.nil _)))
    · exact (Sub.cons rfl (Sub.nil _))
    · (try dsimp only)
      exact ⟨by omega, by rw [bytesM_snoc l k hkl]; exact H3.f2.right⟩
    · (try dsimp only); omega
  · (try simp only [beq_iff_eq, bne_iff_ne, ne_eq, decide_eq_true_eq, decide_eq_false_iff_not, beq_eq_false_iff_ne, bne_eq_false_iff_eq, Bool.not_eq_true', Bool.not_eq_false', Bool.not_eq_eq_eq_not, Bool.not_true, Bool.not_false, gt_iff_lt, ge_iff_le, Int.not_lt, Int.not_le] at h1)
    
    refine wc_exit ?_
    refine wq_then_exit ?_
    refine wq_then_exit ?_
    refine wq_block_hit ?_
    refine wq_seq ?_
    refine wc_seq ?_
    refine wc_region ?_
    refine wl_val (r_move rfl) (ltn rfl) ?_
    refine wl_val (r_assign rfl) (ltn rfl) ?_
    refine wl_nil ?_
    refine wq_seq ?_
    refine wc_ret ?_
    refine wq_end1 (.inl rfl) Tryd.results39 rfl ?_
    obtain rfl : k = l.length := by omega
    rw [List.take_length] at HL
    exact HL
end
end Go.Proofs.YtmkmffoadapmnaaDoor
