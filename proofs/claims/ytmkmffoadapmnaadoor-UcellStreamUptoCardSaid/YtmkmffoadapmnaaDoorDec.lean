/- Decoders: the program's, the document's. -/
import Derived.Test.YtmkmffoadapmnaaDoorUtf5
import Derived.Test.YtmkmffoadapmnaaDoorLitS
set_option linter.unusedSimpArgs false
set_option linter.unusedVariables false
namespace Go.Proofs.YtmkmffoadapmnaaDoor
open Go.RowKit
theorem part_fst {b : List Int} (h : 0 < (headM b).1 ∧ (headM b).1 < (headM b).2) : (headM b).1 = b.length := by
  by_cases hb : b = []
  · subst hb; exact absurd h.1 (by decide)
  · rw [headM_snd hb] at h
    unfold headM at h ⊢
    rw [if_neg hb] at h ⊢
    by_cases h0 : needM (b.getD 0 0) = 0
    · rw [if_pos h0] at h; exact absurd h.1 (by decide)
    · rw [if_neg h0] at h ⊢
      by_cases hg : goodB b (min (needM (b.getD 0 0)) b.length) = true
      · rw [if_pos hg] at h ⊢; simp only at h ⊢; omega
      · rw [if_neg hg] at h; exact absurd h.1 (Nat.lt_irrefl 0)
section
variable {w0 w : World} {F : HP} {v : Value} {b h : List Int} {p : Nat}
def DecRep (p : Nat) (b : List Int) : HP := exHP fun v => blk p (.cells #[.bool true, v] 68 (0, 0)) • RowI 5 .u8 v b
def RefDec (p : Nat) (b : List Int) : HP := exHP fun v => blk p (.cells #[v] 41 (0, 0)) • RowI 5 .u8 v b
theorem Holds.dec (H : Holds w0 w (DecRep p b • F)) : ∃ v, Holds w0 w (blk p (.cells #[.bool true, v] 68 (0, 0)) • RowI 5 .u8 v b • F) := let ⟨v, h⟩ := H.ex_sep; ⟨v, h.flat⟩
theorem Holds.mk_dec (H : Holds w0 w (blk p (.cells #[.bool true, v] 68 (0, 0)) • RowI 5 .u8 v b • F)) : Holds w0 w (DecRep p b • F) := Holds.mk_ex_sep v H.deep
theorem Holds.rdec (H : Holds w0 w (RefDec p b • F)) : ∃ v, Holds w0 w (blk p (.cells #[v] 41 (0, 0)) • RowI 5 .u8 v b • F) := let ⟨v, h⟩ := H.ex_sep; ⟨v, h.flat⟩
theorem Holds.mk_rdec (H : Holds w0 w (blk p (.cells #[v] 41 (0, 0)) • RowI 5 .u8 v b • F)) : Holds w0 w (RefDec p b • F) := Holds.mk_ex_sep v H.deep
theorem dec_new_ret (H : Holds w0 w F) : Ret Tryd.prog 20 #[] w fun v w' => ∃ p, v = .pointer (some ⟨p, 0, none⟩) ∧ Holds w0 w' (DecRep p [] • F) := by
  refine ret_enter Tryd.func20 rfl Tryd.ntmps20 (Nat.le_of_ble_eq_true rfl) ?_
  dsimp only [slots0, Nat.reduceAdd]
  refine wc_seq ?_
  refine wc_region ?_
  refine wl_val (r_assign rfl) (ltn rfl) ?_
  refine wl_nil ?_
  refine wq_seq ?_
  refine wc_seq ?_
  refine wc_region ?_
  refine wl_val (r_build (pl := #[(0, 1), (1, 1)]) (_) Tryd.underlying68 Tryd.zeroValue68 (fun w => by kernel_rfl) rfl (rfl)) (ltn rfl) ?_
  refine wl_eff (e_boxL (l := [_, _]) H rfl rfl) (ltn rfl) ?_
  rintro _ w1 ⟨b1, rfl, H1⟩
  refine wl_val (r_assign rfl) (ltn rfl) ?_
  refine wl_nil ?_
  refine wq_seq ?_
  refine wc_ret ?_
  refine wq_end1 (.inl rfl) Tryd.results20 rfl ?_
  exact ⟨_, rfl, Holds.mk_dec ((H1).row_nil none).f2⟩
theorem dec_none_ret (H : Holds w0 w (DecRep p b • F)) : Ret Tryd.prog 47 #[.pointer (some ⟨p, 0, none⟩)] w fun v w' => v = .bool false ∧ w = w' := by
  refine ret_enter Tryd.func47 rfl Tryd.ntmps47 (Nat.le_of_ble_eq_true rfl) ?_
  dsimp only [slots0, Nat.reduceAdd]
  refine wc_seq ?_
  refine wc_region ?_
  refine wl_val (r_assign rfl) (ltn rfl) ?_
  refine wl_nil ?_
  refine wq_seq ?_
  refine wc_seq ?_
  obtain ⟨dv_p, HD_p⟩ := (H).dec
  refine wc_region ?_
  refine wl_val (r_move rfl) (ltn rfl) ?_
  refine wl_val (r_ptr_nil Tryd.underlying36 rfl rfl) (ltn rfl) ?_
  refine wl_split rfl (ltn rfl) (fun h1 => ?_) (fun h1 => ?_)
  · (try simp only [beq_iff_eq, bne_iff_ne, ne_eq, decide_eq_true_eq, decide_eq_false_iff_not, beq_eq_false_iff_ne, bne_eq_false_iff_eq, Bool.not_eq_true', Bool.not_eq_false', Bool.not_eq_eq_eq_not, Bool.not_true, Bool.not_false, gt_iff_lt, ge_iff_le, Int.not_lt, Int.not_le] at h1)
    try (exfalso; first | contradiction | omega)
    all_goals
      refine wl_no rfl rfl rfl (ltn rfl) ?_
      refine wl_no rfl rfl rfl (ltn rfl) ?_
      refine wl_no rfl rfl rfl (ltn rfl) ?_
      refine wl_no rfl rfl rfl (ltn rfl) ?_
      refine wl_no rfl rfl rfl (ltn rfl) ?_
      refine wl_val (r_pick_t rfl rfl) (ltn rfl) ?_
      refine wl_val (r_assign rfl) (ltn rfl) ?_
      refine wl_nil ?_
      refine wq_seq ?_
      refine wc_ret ?_
      refine wq_end1 (.inl rfl) Tryd.results47 rfl ?_
      exact ⟨rfl, rfl⟩
  · (try simp only [beq_iff_eq, bne_iff_ne, ne_eq, decide_eq_true_eq, decide_eq_false_iff_not, beq_eq_false_iff_ne, bne_eq_false_iff_eq, Bool.not_eq_true', Bool.not_eq_false', Bool.not_eq_eq_eq_not, Bool.not_true, Bool.not_false, gt_iff_lt, ge_iff_le, Int.not_lt, Int.not_le] at h1)
    try (exfalso; first | contradiction | omega)
    all_goals
      refine wl_yes rfl rfl ?_
      refine wl_val (r_move rfl) (ltn rfl) ?_
      refine wl_yes rfl rfl ?_
      refine wl_val (r_nil rfl) (ltn rfl) ?_
      refine wl_yes rfl rfl ?_
      refine wl_val ((by first | exact r_field0 0 Tryd.underlying68 rfl rfl Tryd.sizeOf4 (by decide) rfl | exact r_field 0 Tryd.underlying68 rfl rfl Tryd.sizeOf4 (by decide) rfl)) (ltn rfl) ?_
      refine wl_yes rfl rfl ?_
      refine wl_val (r_load (plain_of Tryd.underlying4 rfl) rfl (cell_of_blk (HD_p).get.2 rfl)) (ltn rfl) ?_
      refine wl_yes rfl rfl ?_
      refine wl_val (r_not rfl) (ltn rfl) ?_
      refine wl_val (r_pick_f rfl rfl) (ltn rfl) ?_
      refine wl_val (r_assign rfl) (ltn rfl) ?_
      refine wl_nil ?_
      refine wq_seq ?_
      refine wc_ret ?_
      refine wq_end1 (.inl rfl) Tryd.results47 rfl ?_
      exact ⟨rfl, rfl⟩
theorem dec_pending_ret (H : Holds w0 w (DecRep p b • F)) : Ret Tryd.prog 24 #[.pointer (some ⟨p, 0, none⟩)] w fun v w' => v = .int .i64 (b.length : Nat) ∧ Holds w0 w' (DecRep p b • F) := by
  refine ret_enter Tryd.func24 rfl Tryd.ntmps24 (Nat.le_of_ble_eq_true rfl) ?_
  dsimp only [slots0, Nat.reduceAdd]
  refine wc_seq ?_
  refine wc_region ?_
  refine wl_val (r_assign rfl) (ltn rfl) ?_
  refine wl_nil ?_
  refine wq_seq ?_
  refine wc_seq ?_
  refine wc_seq ?_
  refine wc_region ?_
  refine wl_val (r_move rfl) (ltn rfl) ?_
  refine wl_eff (e_call (r_call rfl Tryd.func47 rfl rfl) (dec_none_ret H)) (ltn rfl) ?_
  rintro _ _ ⟨rfl, rfl⟩
  refine wl_nil ?_
  refine wq_seq ?_
  refine wc_cond_f rfl ?_
  refine wc_skip ?_
  refine wq_seq ?_
  refine wc_seq ?_
  obtain ⟨dv_p, HD_p⟩ := (H).dec
  refine wc_region ?_
  refine wl_val (r_move rfl) (ltn rfl) ?_
  refine wl_val (r_nil rfl) (ltn rfl) ?_
  refine wl_val ((by first | exact r_field0 1 Tryd.underlying68 rfl rfl Tryd.sizeOf39 (by decide) rfl | exact r_field 1 Tryd.underlying68 rfl rfl Tryd.sizeOf39 (by decide) rfl)) (ltn rfl) ?_
  refine wl_val (r_load (plain_of Tryd.underlying39 rfl) rfl (cell_of_blk (HD_p).get.2 rfl)) (ltn rfl) ?_
  refine wl_val (r_lenR ((HD_p.f2).row_rd) Tryd.underlying39 rfl) (ltn rfl) ?_
  refine wl_val (r_assign rfl) (ltn rfl) ?_
  refine wl_nil ?_
  refine wq_seq ?_
  refine wc_ret ?_
  refine wq_end1 (.inl rfl) Tryd.results24 rfl ?_
  have Ho4 := HD_p.f2.f2
  have Hc5 := Ho4.mk_dec
  exact ⟨rfl, Hc5⟩
theorem dec_flush_ret (H : Holds w0 w (DecRep p b • F)) (hT : UTabs w0) (hb : Byts b) (hL : b.length ≤ 17179869184) : Ret Tryd.prog 25 #[.pointer (some ⟨p, 0, none⟩)] w fun v w' => Holds w0 w' (RowI 21 .i32 v (runesM b) • DecRep p [] • F) := by
  refine ret_enter Tryd.func25 rfl Tryd.ntmps25 (Nat.le_of_ble_eq_true rfl) ?_
  dsimp only [slots0, Nat.reduceAdd]
  refine wc_seq ?_
  refine wc_region ?_
  refine wl_val (r_assign rfl) (ltn rfl) ?_
  refine wl_nil ?_
  refine wq_seq ?_
  refine wc_seq ?_
  refine wc_seq ?_
  refine wc_region ?_
  refine wl_val (r_move rfl) (ltn rfl) ?_
  refine wl_eff (e_call (r_call rfl Tryd.func47 rfl rfl) (dec_none_ret H)) (ltn rfl) ?_
  rintro _ _ ⟨rfl, rfl⟩
  refine wl_nil ?_
  refine wq_seq ?_
  refine wc_cond_f rfl ?_
  refine wc_skip ?_
  refine wq_seq ?_
  refine wc_seq ?_
  obtain ⟨dv_p, HD_p⟩ := (H).dec
  refine wc_region ?_
  refine wl_val (r_move rfl) (ltn rfl) ?_
  refine wl_val (r_nil rfl) (ltn rfl) ?_
  refine wl_val ((by first | exact r_field0 1 Tryd.underlying68 rfl rfl Tryd.sizeOf39 (by decide) rfl | exact r_field 1 Tryd.underlying68 rfl rfl Tryd.sizeOf39 (by decide) rfl)) (ltn rfl) ?_
  refine wl_val (r_load (plain_of Tryd.underlying39 rfl) rfl (cell_of_blk (HD_p).get.2 rfl)) (ltn rfl) ?_
  refine wl_eff (e_call (r_call rfl Tryd.func27 rfl rfl) (runes_ret HD_p hT (fun W HW => (HW.f2).row_rd) hb hL)) (ltn rfl) ?_
  rintro u3 w3 H3
  refine wl_val (r_assign rfl) (ltn rfl) ?_
  refine wl_nil ?_
  refine wq_seq ?_
  refine wc_seq ?_
  refine wc_region ?_
  refine wl_val (r_move rfl) (ltn rfl) ?_
  refine wl_val (r_nil rfl) (ltn rfl) ?_
  refine wl_val ((by first | exact r_field0 1 Tryd.underlying68 rfl rfl Tryd.sizeOf39 (by decide) rfl | exact r_field 1 Tryd.underlying68 rfl rfl Tryd.sizeOf39 (by decide) rfl)) (ltn rfl) ?_
  refine wl_eff0 (e_storeL 1 (l' := [_, _]) H3.f2 Tryd.sizeOf39 rfl rfl (by first | rfl | assumption) rfl rfl) ?_
  rintro _ w4 H4
  refine wl_nil ?_
  refine wq_seq ?_
  refine wc_seq ?_
  refine wc_region ?_
  refine wl_val (r_move rfl) (ltn rfl) ?_
  refine wl_val (r_assign rfl) (ltn rfl) ?_
  refine wl_nil ?_
  refine wq_seq ?_
  refine wc_ret ?_
  refine wq_end1 (.inl rfl) Tryd.results25 rfl ?_
  exact Holds.swap (Holds.mk_dec ((H4.f3.right.f2.f2).row_nil none).f2).swap.swap
theorem rdec_flush_ret (H : Holds w0 w (RefDec p b • F)) (hb : Byts b) (hL : b.length ≤ 17179869184) : Ret Tryd.prog 26 #[.pointer (some ⟨p, 0, none⟩)] w fun v w' => Holds w0 w' (RowI 21 .i32 v (runesM b) • RefDec p [] • F) := by
  refine ret_enter Tryd.func26 rfl Tryd.ntmps26 (Nat.le_of_ble_eq_true rfl) ?_
  dsimp only [slots0, Nat.reduceAdd]
  refine wc_seq ?_
  refine wc_region ?_
  refine wl_val (r_assign rfl) (ltn rfl) ?_
  refine wl_nil ?_
  refine wq_seq ?_
  refine wc_seq ?_
  obtain ⟨rv_p, HD_p⟩ := (H).rdec
  refine wc_region ?_
  refine wl_val (r_move rfl) (ltn rfl) ?_
  refine wl_val (r_nil rfl) (ltn rfl) ?_
  refine wl_val ((by first | exact r_field0 0 Tryd.underlying41 rfl rfl Tryd.sizeOf39 (by decide) rfl | exact r_field 0 Tryd.underlying41 rfl rfl Tryd.sizeOf39 (by decide) rfl)) (ltn rfl) ?_
  refine wl_val (r_load (plain_of Tryd.underlying39 rfl) rfl (cell_of_blk (HD_p).get.2 rfl)) (ltn rfl) ?_
  refine wl_eff (e_call (r_call rfl Tryd.func37 rfl rfl) (ref_runes_ret HD_p (fun W HW => (HW.f2).row_rd) hb hL)) (ltn rfl) ?_
  rintro u2 w2 H2
  refine wl_val (r_assign rfl) (ltn rfl) ?_
  refine wl_nil ?_
  refine wq_seq ?_
  refine wc_seq ?_
  refine wc_region ?_
  refine wl_val (r_move rfl) (ltn rfl) ?_
  refine wl_val (r_nil rfl) (ltn rfl) ?_
  refine wl_val ((by first | exact r_field0 0 Tryd.underlying41 rfl rfl Tryd.sizeOf39 (by decide) rfl | exact r_field 0 Tryd.underlying41 rfl rfl Tryd.sizeOf39 (by decide) rfl)) (ltn rfl) ?_
  refine wl_eff0 (e_storeL 0 (l' := [_]) H2.f2 Tryd.sizeOf39 rfl rfl (by first | rfl | assumption) rfl rfl) ?_
  rintro _ w3 H3
  refine wl_nil ?_
  refine wq_seq ?_
  refine wc_seq ?_
  refine wc_region ?_
  refine wl_val (r_move rfl) (ltn rfl) ?_
  refine wl_val (r_assign rfl) (ltn rfl) ?_
  refine wl_nil ?_
  refine wq_seq ?_
  refine wc_ret ?_
  refine wq_end1 (.inl rfl) Tryd.results26 rfl ?_
  exact Holds.swap (Holds.mk_rdec ((H3.f3.right.f2.f2).row_nil none).f2).swap.swap
theorem dec_put_ret (H : Holds w0 w (DecRep p h • F)) (hT : UTabs w0) (hv : FRdI w0 F .u8 v b) (hb : Byts b) (hh : Byts h) (hL : h.length + b.length ≤ 17179869184) :
    Ret Tryd.prog 22 #[.pointer (some ⟨p, 0, none⟩), v] w fun v w' => Holds w0 w' (RowI 21 .i32 v (putM (h ++ b)).1 • DecRep p (putM (h ++ b)).2 • F) := by
  have hhb : Byts (h ++ b) := fun x hx => by rcases List.mem_append.1 hx with hx | hx; exact hh x hx; exact hb x hx
  refine ret_enter Tryd.func22 rfl Tryd.ntmps22 (Nat.le_of_ble_eq_true rfl) ?_
  dsimp only [slots0, Nat.reduceAdd]
  refine wc_seq ?_
  refine wc_region ?_
  refine wl_val (r_assign rfl) (ltn rfl) ?_
  refine wl_nil ?_
  refine wq_seq ?_
  refine wc_seq ?_
  refine wc_seq ?_
  refine wc_region ?_
  refine wl_val (r_move rfl) (ltn rfl) ?_
  refine wl_eff (e_call (r_call rfl Tryd.func47 rfl rfl) (dec_none_ret H)) (ltn rfl) ?_
  rintro _ _ ⟨rfl, rfl⟩
  refine wl_nil ?_
  refine wq_seq ?_
  refine wc_cond_f rfl ?_
  refine wc_skip ?_
  refine wq_seq ?_
  refine wc_seq ?_
  obtain ⟨dv_p, HD_p⟩ := (H).dec
  refine wc_region ?_
  refine wl_val (r_move rfl) (ltn rfl) ?_
  refine wl_val (r_move rfl) (ltn rfl) ?_
  refine wl_val (r_nil rfl) (ltn rfl) ?_
  refine wl_val ((by first | exact r_field0 1 Tryd.underlying68 rfl rfl Tryd.sizeOf39 (by decide) rfl | exact r_field 1 Tryd.underlying68 rfl rfl Tryd.sizeOf39 (by decide) rfl)) (ltn rfl) ?_
  refine wl_val (r_load (plain_of Tryd.underlying39 rfl) rfl (cell_of_blk (HD_p).get.2 rfl)) (ltn rfl) ?_
  refine wl_val (r_move rfl) (ltn rfl) ?_
  refine wl_eff (e_append_ints HD_p.f2 (hv _ (HD_p.right.right)) Tryd.underlying39 (show (Tryd.prog.info? 5).map (fun i => (i.zero, i.size, i.bytes)) = some (some (.int .u8 0), 1, 1) by kernel_rfl) rfl rfl (by first | omega | (simp only [List.length_append, List.length_nil, List.length_cons]; omega) | (simp; omega)) (by first | omega | (simp only [List.length_append, List.length_nil, List.length_cons]; omega) | (simp; omega))) (ltn rfl) ?_
  rintro l3 w3 H3
  try simp only [List.nil_append] at H3
  refine wl_val (r_nil rfl) (ltn rfl) ?_
  refine wl_val ((by first | exact r_field0 1 Tryd.underlying68 rfl rfl Tryd.sizeOf39 (by decide) rfl | exact r_field 1 Tryd.underlying68 rfl rfl Tryd.sizeOf39 (by decide) rfl)) (ltn rfl) ?_
  refine wl_eff0 (e_storeL 1 (l' := [_, _]) H3.f2 Tryd.sizeOf39 rfl rfl (by first | rfl | exact Rd.one ((H3).row_rd)) rfl rfl) ?_
  rintro _ w4 H4
  refine wl_nil ?_
  refine wq_seq ?_
  refine wc_seq ?_
  refine wc_region ?_
  refine wl_val (r_assign rfl) (ltn rfl) ?_
  refine wl_nil ?_
  refine wq_seq ?_
  refine wc_seq ?_
  refine wc_block ?_
  have Ho5 := H4.f2.f2
  have Hc6 := Ho5.mk_dec
  refine wc_loop [(0, _)] (fun (⟨u, n⟩ : Value × Nat) => [(5, u)]) (fun (⟨u, n⟩ : Value × Nat) W => ∃ hq l2, (Byts hq ∧ (l2 ++ (putM hq).1, (putM hq).2) = putM (h ++ b) ∧ l2.length + hq.length ≤ (h ++ b).length ∧ hq.length = n) ∧ Holds w0 W (RowI 21 .i32 u l2 • DecRep p hq • F)) (fun (⟨u, n⟩ : Value × Nat) => n) ((.slice none 0 0, (h ++ b).length)) (Sub.cons rfl (Sub.nil _)) (Sub.cons rfl (Sub.nil _)) ⟨h ++ b, [], ⟨hhb, rfl, by simp, rfl⟩, (Hc6).row_nil none⟩ ?_
  rintro ⟨u, n⟩ w7 ⟨hq, l2, ⟨hb2, hr2, hl2, hn2⟩, HL⟩
  dsimp only [List.cons_append, List.nil_append]
  refine wc_seq ?_
  refine wc_seq ?_
  rw [List.length_append] at hl2
  obtain ⟨dv_p, HD_p⟩ := (HL.f2).dec
  refine wc_region ?_
  refine wl_val (r_move rfl) (ltn rfl) ?_
  refine wl_val (r_nil rfl) (ltn rfl) ?_
  refine wl_val ((by first | exact r_field0 1 Tryd.underlying68 rfl rfl Tryd.sizeOf39 (by decide) rfl | exact r_field 1 Tryd.underlying68 rfl rfl Tryd.sizeOf39 (by decide) rfl)) (ltn rfl) ?_
  refine wl_val (r_load (plain_of Tryd.underlying39 rfl) rfl (cell_of_blk (HD_p).get.2 rfl)) (ltn rfl) ?_
  refine wl_val (r_lenR ((HD_p.f2).row_rd) Tryd.underlying39 rfl) (ltn rfl) ?_
  refine wl_val (r_gtr rfl rfl) (ltn rfl) ?_
  refine wl_split rfl (ltn rfl) (fun h1 => ?_) (fun h1 => ?_)
  · (try simp only [beq_iff_eq, bne_iff_ne, ne_eq, decide_eq_true_eq, decide_eq_false_iff_not, beq_eq_false_iff_ne, bne_eq_false_iff_eq, Bool.not_eq_true', Bool.not_eq_false', Bool.not_eq_eq_eq_not, Bool.not_true, Bool.not_false, gt_iff_lt, ge_iff_le, Int.not_lt, Int.not_le] at h1)
    have hne : hq ≠ [] := by rintro rfl; simp at *
    refine wl_yes rfl rfl ?_
    refine wl_val (r_move rfl) (ltn rfl) ?_
    refine wl_yes rfl rfl ?_
    refine wl_val (r_nil rfl) (ltn rfl) ?_
    refine wl_yes rfl rfl ?_
    refine wl_val ((by first | exact r_field0 1 Tryd.underlying68 rfl rfl Tryd.sizeOf39 (by decide) rfl | exact r_field 1 Tryd.underlying68 rfl rfl Tryd.sizeOf39 (by decide) rfl)) (ltn rfl) ?_
    refine wl_yes rfl rfl ?_
    refine wl_val (r_load (plain_of Tryd.underlying39 rfl) rfl (cell_of_blk (HD_p).get.2 rfl)) (ltn rfl) ?_
    refine wl_yes rfl rfl ?_
    refine wl_eff (e_call (r_call rfl Tryd.func48 rfl rfl) (full_ret HD_p hT (fun W HW => (HW.f2).row_rd) hb2 hne)) (ltn rfl) ?_
    rintro _ w9 ⟨rfl, H9⟩
    refine wl_val (r_pick_t rfl rfl) (ltn rfl) ?_
    refine wl_nil ?_
    refine wq_seq ?_
    refine wc_cond rfl (fun h2 => ?_) (fun h2 => ?_)
    · (try simp only [beq_iff_eq, bne_iff_ne, ne_eq, decide_eq_true_eq, decide_eq_false_iff_not, beq_eq_false_iff_ne, bne_eq_false_iff_eq, Bool.not_eq_true', Bool.not_eq_false', Bool.not_eq_eq_eq_not, Bool.not_true, Bool.not_false, gt_iff_lt, ge_iff_le, Int.not_lt, Int.not_le] at h2)
      
      refine wc_skip ?_
      refine wq_seq ?_
      refine wc_block ?_
      refine wc_seq ?_
      have hpart : partM hq = false := by simp_all
      have hd := decM_len hne
      refine wc_region ?_
      refine wl_val (r_move rfl) (ltn rfl) ?_
      refine wl_val (r_nil rfl) (ltn rfl) ?_
      refine wl_val ((by first | exact r_field0 1 Tryd.underlying68 rfl rfl Tryd.sizeOf39 (by decide) rfl | exact r_field 1 Tryd.underlying68 rfl rfl Tryd.sizeOf39 (by decide) rfl)) (ltn rfl) ?_
      refine wl_val (r_load (plain_of Tryd.underlying39 rfl) rfl (cell_of_blk (H9).get.2 rfl)) (ltn rfl) ?_
      refine wl_eff (e_call (r_call rfl Tryd.func49 rfl rfl) (decode_ret H9 hT (fun W HW => (HW.f2).row_rd) hb2 hne)) (ltn rfl) ?_
      rintro _ w10 ⟨rfl, H10⟩
      refine wl_val (r_move rfl) (ltn rfl) ?_
      refine wl_val (r_extract rfl rfl) (ltn rfl) ?_
      refine wl_val (r_extract rfl rfl) (ltn rfl) ?_
      refine wl_val (r_assign rfl) (ltn rfl) ?_
      refine wl_val (r_assign rfl) (ltn rfl) ?_
      refine wl_nil ?_
      refine wq_seq ?_
      refine wc_seq ?_
      refine wc_region ?_
      refine wl_val (r_move rfl) (ltn rfl) ?_
      refine wl_val (r_move rfl) (ltn rfl) ?_
      refine wl_eff (e_lit_ints (k := .i32) (l := [_]) H10 Tryd.underlying22 Tryd.sizeOf21 Tryd.zeroValue21 rfl rfl rfl (by decide)) (ltn rfl) ?_
      rintro l11 w11 H11
      refine wl_eff (e_append_ints H11.f4 ((H11).row_rd) Tryd.underlying22 (show (Tryd.prog.info? 21).map (fun i => (i.zero, i.size, i.bytes)) = some (some (.int .i32 0), 1, 4) by kernel_rfl) rfl rfl (by first | omega | (simp only [List.length_append, List.length_nil, List.length_cons]; omega) | (simp; omega)) (by first | omega | (simp only [List.length_append, List.length_nil, List.length_cons]; omega) | (simp; omega))) (ltn rfl) ?_
      rintro l12 w12 H12
      try simp only [List.nil_append] at H12
      refine wl_val (r_assign rfl) (ltn rfl) ?_
      refine wl_nil ?_
      refine wq_seq ?_
      refine wc_region ?_
      refine wl_val (r_move rfl) (ltn rfl) ?_
      refine wl_val (r_move rfl) (ltn rfl) ?_
      refine wl_val (r_nil rfl) (ltn rfl) ?_
      refine wl_val ((by first | exact r_field0 1 Tryd.underlying68 rfl rfl Tryd.sizeOf39 (by decide) rfl | exact r_field 1 Tryd.underlying68 rfl rfl Tryd.sizeOf39 (by decide) rfl)) (ltn rfl) ?_
      refine wl_val (r_load (plain_of Tryd.underlying39 rfl) rfl (cell_of_blk (H12.f3).get.2 rfl)) (ltn rfl) ?_
      refine wl_val (r_move rfl) (ltn rfl) ?_
      refine wl_val (r_sliceS ((H12.f4).row_rd) Tryd.underlying39 Tryd.sizeOf5 rfl rfl rfl (by omega)) (ltn rfl) ?_
      refine wl_val (r_nil rfl) (ltn rfl) ?_
      refine wl_val ((by first | exact r_field0 1 Tryd.underlying68 rfl rfl Tryd.sizeOf39 (by decide) rfl | exact r_field 1 Tryd.underlying68 rfl rfl Tryd.sizeOf39 (by decide) rfl)) (ltn rfl) ?_
      refine wl_eff0 (e_storeL 1 (l' := [_, _]) H12.f3 Tryd.sizeOf39 rfl rfl (by first | rfl | exact Rd.one (RdI.from ((H12.f4).row_rd) (by omega))) rfl rfl) ?_
      rintro _ w13 H13
      have HX := (H13.f3.right.f2.f2.f3).rowi_from (i := (decM hq).2) hd.2.1
      have Ho14 := HX.f2
      have Hc15 := Ho14.mk_dec
      refine wl_nil ?_
      refine wq_block_normal ?_
      refine wq_round (_, _) (Sub.cons rfl (Sub.nil _)) (Sub.cons rfl (Sub.nil _)) (by (try dsimp only); exact ⟨_, _, ⟨byts_drop hb2 _, by rw [← hr2, putM_step hne hpart]; simp only [List.append_assoc]; rfl, by simp only [List.length_append, List.length_drop, List.length_cons, List.length_nil]; omega, rfl⟩, Hc15.f2⟩) ?_
      · (try dsimp only); rw [List.length_drop]; omega
    · (try simp only [beq_iff_eq, bne_iff_ne, ne_eq, decide_eq_true_eq, decide_eq_false_iff_not, beq_eq_false_iff_ne, bne_eq_false_iff_eq, Bool.not_eq_true', Bool.not_eq_false', Bool.not_eq_eq_eq_not, Bool.not_true, Bool.not_false, gt_iff_lt, ge_iff_le, Int.not_lt, Int.not_le] at h2)
      
      refine wc_exit ?_
      refine wq_then_exit ?_
      refine wq_then_exit ?_
      refine wq_block_hit ?_
      refine wq_seq ?_
      refine wc_seq ?_
      refine wc_region ?_
      refine wl_val (r_move rfl) (ltn rfl) ?_
      refine wl_val (r_assign rfl) (ltn rfl) ?_
      refine wl_nil ?_
      refine wq_seq ?_
      refine wc_ret ?_
      refine wq_end1 (.inl rfl) Tryd.results22 rfl ?_
      have hstop : hq = [] ∨ partM hq = true := by
        first
          | exact .inl (List.eq_nil_of_length_eq_zero (by omega))
          | exact .inr (by simp_all)
      rw [putM_stop hstop, List.append_nil] at hr2
      rw [← hr2]
      have Ho17 := H9.f2.f2
      have Hc18 := Ho17.mk_dec
      exact Hc18.f2
  · (try simp only [beq_iff_eq, bne_iff_ne, ne_eq, decide_eq_true_eq, decide_eq_false_iff_not, beq_eq_false_iff_ne, bne_eq_false_iff_eq, Bool.not_eq_true', Bool.not_eq_false', Bool.not_eq_eq_eq_not, Bool.not_true, Bool.not_false, gt_iff_lt, ge_iff_le, Int.not_lt, Int.not_le] at h1)
    refine wl_no rfl rfl rfl (ltn rfl) ?_
    refine wl_no rfl rfl rfl (ltn rfl) ?_
    refine wl_no rfl rfl rfl (ltn rfl) ?_
    refine wl_no rfl rfl rfl (ltn rfl) ?_
    refine wl_no rfl rfl rfl (ltn rfl) ?_
    refine wl_val (r_pick_f rfl rfl) (ltn rfl) ?_
    refine wl_nil ?_
    refine wq_seq ?_
    refine wc_cond_f rfl ?_
    refine wc_exit ?_
    refine wq_then_exit ?_
    refine wq_then_exit ?_
    refine wq_block_hit ?_
    refine wq_seq ?_
    refine wc_seq ?_
    refine wc_region ?_
    refine wl_val (r_move rfl) (ltn rfl) ?_
    refine wl_val (r_assign rfl) (ltn rfl) ?_
    refine wl_nil ?_
    refine wq_seq ?_
    refine wc_ret ?_
    refine wq_end1 (.inl rfl) Tryd.results22 rfl ?_
    have hstop : hq = [] ∨ partM hq = true := by
      first
        | exact .inl (List.eq_nil_of_length_eq_zero (by omega))
        | exact .inr (by simp_all)
    rw [putM_stop hstop, List.append_nil] at hr2
    rw [← hr2]
    have Ho20 := HD_p.f2.f2
    have Hc21 := Ho20.mk_dec
    exact Hc21.f2
theorem rdec_put_ret (H : Holds w0 w (RefDec p h • F)) (hv : FRdI w0 F .u8 v b) (hb : Byts b) (hh : Byts h) (hL : h.length + b.length ≤ 17179869184) :
    Ret Tryd.prog 23 #[.pointer (some ⟨p, 0, none⟩), v] w fun v w' => Holds w0 w' (RowI 21 .i32 v (putM (h ++ b)).1 • RefDec p (putM (h ++ b)).2 • F) := by
  have hhb : Byts (h ++ b) := fun x hx => by rcases List.mem_append.1 hx with hx | hx; exact hh x hx; exact hb x hx
  refine ret_enter Tryd.func23 rfl Tryd.ntmps23 (Nat.le_of_ble_eq_true rfl) ?_
  dsimp only [slots0, Nat.reduceAdd]
  refine wc_seq ?_
  refine wc_region ?_
  refine wl_val (r_assign rfl) (ltn rfl) ?_
  refine wl_nil ?_
  refine wq_seq ?_
  refine wc_seq ?_
  refine wc_region ?_
  refine wl_val (r_assign rfl) (ltn rfl) ?_
  refine wl_nil ?_
  refine wq_seq ?_
  refine wc_seq ?_
  obtain ⟨rv_p, HD_p⟩ := (H).rdec
  refine wc_region ?_
  refine wl_val (r_move rfl) (ltn rfl) ?_
  refine wl_val (r_move rfl) (ltn rfl) ?_
  refine wl_val (r_nil rfl) (ltn rfl) ?_
  refine wl_val ((by first | exact r_field0 0 Tryd.underlying41 rfl rfl Tryd.sizeOf39 (by decide) rfl | exact r_field 0 Tryd.underlying41 rfl rfl Tryd.sizeOf39 (by decide) rfl)) (ltn rfl) ?_
  refine wl_val (r_load (plain_of Tryd.underlying39 rfl) rfl (cell_of_blk (HD_p).get.2 rfl)) (ltn rfl) ?_
  refine wl_val (r_move rfl) (ltn rfl) ?_
  refine wl_eff (e_append_ints HD_p.f2 (hv _ (HD_p.right.right)) Tryd.underlying39 (show (Tryd.prog.info? 5).map (fun i => (i.zero, i.size, i.bytes)) = some (some (.int .u8 0), 1, 1) by kernel_rfl) rfl rfl (by first | omega | (simp only [List.length_append, List.length_nil, List.length_cons]; omega) | (simp; omega)) (by first | omega | (simp only [List.length_append, List.length_nil, List.length_cons]; omega) | (simp; omega))) (ltn rfl) ?_
  rintro l2 w2 H2
  try simp only [List.nil_append] at H2
  refine wl_val (r_nil rfl) (ltn rfl) ?_
  refine wl_val ((by first | exact r_field0 0 Tryd.underlying41 rfl rfl Tryd.sizeOf39 (by decide) rfl | exact r_field 0 Tryd.underlying41 rfl rfl Tryd.sizeOf39 (by decide) rfl)) (ltn rfl) ?_
  refine wl_eff0 (e_storeL 0 (l' := [_]) H2.f2 Tryd.sizeOf39 rfl rfl (by first | rfl | exact Rd.one ((H2).row_rd)) rfl rfl) ?_
  rintro _ w3 H3
  refine wl_nil ?_
  refine wq_seq ?_
  refine wc_seq ?_
  refine wc_block ?_
  have Ho4 := H3.f2.f2
  have Hc5 := Ho4.mk_rdec
  refine wc_loop [(0, _)] (fun (⟨u, n⟩ : Value × Nat) => [(5, u)]) (fun (⟨u, n⟩ : Value × Nat) W => ∃ hq l2, (Byts hq ∧ (l2 ++ (putM hq).1, (putM hq).2) = putM (h ++ b) ∧ l2.length + hq.length ≤ (h ++ b).length ∧ hq.length = n) ∧ Holds w0 W (RowI 21 .i32 u l2 • RefDec p hq • F)) (fun (⟨u, n⟩ : Value × Nat) => n) ((.slice none 0 0, (h ++ b).length)) (Sub.cons rfl (Sub.nil _)) (Sub.cons rfl (Sub.nil _)) ⟨h ++ b, [], ⟨hhb, rfl, by simp, rfl⟩, (Hc5).row_nil none⟩ ?_
  rintro ⟨u, n⟩ w6 ⟨hq, l2, ⟨hb2, hr2, hl2, hn2⟩, HL⟩
  dsimp only [List.cons_append, List.nil_append]
  refine wc_seq ?_
  refine wc_seq ?_
  rw [List.length_append] at hl2
  obtain ⟨rv_p, HD_p⟩ := (HL.f2).rdec
  refine wc_region ?_
  refine wl_val (r_move rfl) (ltn rfl) ?_
  refine wl_val (r_nil rfl) (ltn rfl) ?_
  refine wl_val ((by first | exact r_field0 0 Tryd.underlying41 rfl rfl Tryd.sizeOf39 (by decide) rfl | exact r_field 0 Tryd.underlying41 rfl rfl Tryd.sizeOf39 (by decide) rfl)) (ltn rfl) ?_
  refine wl_val (r_load (plain_of Tryd.underlying39 rfl) rfl (cell_of_blk (HD_p).get.2 rfl)) (ltn rfl) ?_
  refine wl_val (r_lenR ((HD_p.f2).row_rd) Tryd.underlying39 rfl) (ltn rfl) ?_
  refine wl_val (r_gtr rfl rfl) (ltn rfl) ?_
  refine wl_nil ?_
  refine wq_seq ?_
  refine wc_cond rfl (fun h1 => ?_) (fun h1 => ?_)
  · (try simp only [beq_iff_eq, bne_iff_ne, ne_eq, decide_eq_true_eq, decide_eq_false_iff_not, beq_eq_false_iff_ne, bne_eq_false_iff_eq, Bool.not_eq_true', Bool.not_eq_false', Bool.not_eq_eq_eq_not, Bool.not_true, Bool.not_false, gt_iff_lt, ge_iff_le, Int.not_lt, Int.not_le] at h1)
    
    refine wc_skip ?_
    refine wq_seq ?_
    refine wc_block ?_
    refine wc_seq ?_
    have hne : hq ≠ [] := by rintro rfl; simp at *
    have hd := decM_len hne
    have hfl := headM_fst_le (b := hq)
    refine wc_region ?_
    refine wl_val (r_move rfl) (ltn rfl) ?_
    refine wl_val (r_nil rfl) (ltn rfl) ?_
    refine wl_val ((by first | exact r_field0 0 Tryd.underlying41 rfl rfl Tryd.sizeOf39 (by decide) rfl | exact r_field 0 Tryd.underlying41 rfl rfl Tryd.sizeOf39 (by decide) rfl)) (ltn rfl) ?_
    refine wl_val (r_load (plain_of Tryd.underlying39 rfl) rfl (cell_of_blk (HD_p).get.2 rfl)) (ltn rfl) ?_
    refine wl_eff (e_call (r_call rfl Tryd.func50 rfl rfl) (head_ret HD_p (fun W HW => (HW.f2).row_rd) (by assumption))) (ltn rfl) ?_
    rintro _ w8 ⟨rfl, H8⟩
    refine wl_val (r_move rfl) (ltn rfl) ?_
    refine wl_val (r_extract rfl rfl) (ltn rfl) ?_
    refine wl_val (r_extract rfl rfl) (ltn rfl) ?_
    refine wl_val (r_assign rfl) (ltn rfl) ?_
    refine wl_val (r_assign rfl) (ltn rfl) ?_
    refine wl_nil ?_
    refine wq_seq ?_
    refine wc_block ?_
    refine wc_seq ?_
    refine wc_region ?_
    refine wl_val (r_move rfl) (ltn rfl) ?_
    refine wl_val (r_gtr rfl rfl) (ltn rfl) ?_
    refine wl_split rfl (ltn rfl) (fun h2 => ?_) (fun h2 => ?_)
    · (try simp only [beq_iff_eq, bne_iff_ne, ne_eq, decide_eq_true_eq, decide_eq_false_iff_not, beq_eq_false_iff_ne, bne_eq_false_iff_eq, Bool.not_eq_true', Bool.not_eq_false', Bool.not_eq_eq_eq_not, Bool.not_true, Bool.not_false, gt_iff_lt, ge_iff_le, Int.not_lt, Int.not_le] at h2)
      refine wl_yes rfl rfl ?_
      refine wl_val (r_move rfl) (ltn rfl) ?_
      refine wl_yes rfl rfl ?_
      refine wl_val (r_move rfl) (ltn rfl) ?_
      refine wl_yes rfl rfl ?_
      refine wl_val (r_eql rfl rfl) (ltn rfl) ?_
      refine wl_val (r_pick_t rfl rfl) (ltn rfl) ?_
      refine wl_val (r_assign rfl) (ltn rfl) ?_
      refine wl_nil ?_
      refine wq_seq ?_
      refine wc_cond rfl (fun h3 => ?_) (fun h3 => ?_)
      · (try simp only [beq_iff_eq, bne_iff_ne, ne_eq, decide_eq_true_eq, decide_eq_false_iff_not, beq_eq_false_iff_ne, bne_eq_false_iff_eq, Bool.not_eq_true', Bool.not_eq_false', Bool.not_eq_eq_eq_not, Bool.not_true, Bool.not_false, gt_iff_lt, ge_iff_le, Int.not_lt, Int.not_le] at h3)
        
        refine wc_seq ?_
        have hw : wholeM hq = true := whole_of (by omega) (by omega)
        have hwl := wholeM_len hw
        have hpart : partM hq = false := by unfold partM; simp only [decide_eq_false_iff_not]; omega
        have hlt : (hq.take (((headM hq).2 : Nat) : Int).toNat).length = (headM hq).2 := by rw [Int.toNat_natCast, List.length_take]; omega
        refine wc_region ?_
        refine wl_val (r_move rfl) (ltn rfl) ?_
        refine wl_val (r_move rfl) (ltn rfl) ?_
        refine wl_val (r_nil rfl) (ltn rfl) ?_
        refine wl_val ((by first | exact r_field0 0 Tryd.underlying41 rfl rfl Tryd.sizeOf39 (by decide) rfl | exact r_field 0 Tryd.underlying41 rfl rfl Tryd.sizeOf39 (by decide) rfl)) (ltn rfl) ?_
        refine wl_val (r_load (plain_of Tryd.underlying39 rfl) rfl (cell_of_blk (H8).get.2 rfl)) (ltn rfl) ?_
        refine wl_val (r_move rfl) (ltn rfl) ?_
        refine wl_val (r_sliceS ((H8.f2).row_rd) Tryd.underlying39 Tryd.sizeOf5 rfl rfl rfl (by omega)) (ltn rfl) ?_
        refine wl_eff (e_call (r_call rfl Tryd.func51 rfl rfl) (value_ret H8 (fun W HW => RdI.upto ((HW.f2).row_rd) (by omega)) (byts_take hb2 _) (by rw [hlt]; omega))) (ltn rfl) ?_
        rintro _ w9 ⟨rfl, H9⟩
        rw [show valM (hq.take (((headM hq).2 : Nat) : Int).toNat) (hq.take (((headM hq).2 : Nat) : Int).toNat).length = (decM hq).1 from (decM_whole hw).1.symm]
        refine wl_eff (e_lit_ints (k := .i32) (l := [_]) H9 Tryd.underlying22 Tryd.sizeOf21 Tryd.zeroValue21 rfl rfl rfl (by decide)) (ltn rfl) ?_
        rintro l10 w10 H10
        refine wl_eff (e_append_ints H10.f4 ((H10).row_rd) Tryd.underlying22 (show (Tryd.prog.info? 21).map (fun i => (i.zero, i.size, i.bytes)) = some (some (.int .i32 0), 1, 4) by kernel_rfl) rfl rfl (by first | omega | (simp only [List.length_append, List.length_nil, List.length_cons]; omega) | (simp; omega)) (by first | omega | (simp only [List.length_append, List.length_nil, List.length_cons]; omega) | (simp; omega))) (ltn rfl) ?_
        rintro l11 w11 H11
        try simp only [List.nil_append] at H11
        refine wl_val (r_assign rfl) (ltn rfl) ?_
        refine wl_nil ?_
        refine wq_seq ?_
        refine wc_region ?_
        refine wl_val (r_move rfl) (ltn rfl) ?_
        refine wl_val (r_move rfl) (ltn rfl) ?_
        refine wl_val (r_nil rfl) (ltn rfl) ?_
        refine wl_val ((by first | exact r_field0 0 Tryd.underlying41 rfl rfl Tryd.sizeOf39 (by decide) rfl | exact r_field 0 Tryd.underlying41 rfl rfl Tryd.sizeOf39 (by decide) rfl)) (ltn rfl) ?_
        refine wl_val (r_load (plain_of Tryd.underlying39 rfl) rfl (cell_of_blk (H11.f3).get.2 rfl)) (ltn rfl) ?_
        refine wl_val (r_move rfl) (ltn rfl) ?_
        refine wl_val (r_sliceS ((H11.f4).row_rd) Tryd.underlying39 Tryd.sizeOf5 rfl rfl rfl (by omega)) (ltn rfl) ?_
        refine wl_val (r_nil rfl) (ltn rfl) ?_
        refine wl_val ((by first | exact r_field0 0 Tryd.underlying41 rfl rfl Tryd.sizeOf39 (by decide) rfl | exact r_field 0 Tryd.underlying41 rfl rfl Tryd.sizeOf39 (by decide) rfl)) (ltn rfl) ?_
        refine wl_eff0 (e_storeL 0 (l' := [_]) H11.f3 Tryd.sizeOf39 rfl rfl (by first | rfl | exact Rd.one (RdI.from ((H11.f4).row_rd) (by omega))) rfl rfl) ?_
        rintro _ w12 H12
        have HX := (H12.f3.right.f2.f2.f3).rowi_from (i := (decM hq).2) hd.2.1
        rw [(decM_whole hw).2] at HX
        have HN := ((Holds.mk_rdec HX.f2).f2)
        rw [← (decM_whole hw).2] at HN
        refine wl_nil ?_
        refine wq_block_normal ?_
        refine wq_block_normal ?_
        refine wq_round (_, _) (Sub.cons rfl (Sub.nil _)) (Sub.cons rfl (Sub.nil _)) (by (try dsimp only); exact ⟨_, _, ⟨byts_drop hb2 _, by rw [← hr2, putM_step hne hpart]; simp only [List.append_assoc]; rfl, by simp only [List.length_append, List.length_drop, List.length_cons, List.length_nil]; omega, rfl⟩, HN⟩) ?_
        · (try dsimp only); rw [List.length_drop]; omega
      · (try simp only [beq_iff_eq, bne_iff_ne, ne_eq, decide_eq_true_eq, decide_eq_false_iff_not, beq_eq_false_iff_ne, bne_eq_false_iff_eq, Bool.not_eq_true', Bool.not_eq_false', Bool.not_eq_eq_eq_not, Bool.not_true, Bool.not_false, gt_iff_lt, ge_iff_le, Int.not_lt, Int.not_le] at h3)
        
        refine wc_seq ?_
        refine wc_region ?_
        refine wl_val (r_move rfl) (ltn rfl) ?_
        refine wl_val (r_gtr rfl rfl) (ltn rfl) ?_
        refine wl_split rfl (ltn rfl) (fun h4 => ?_) (fun h4 => ?_)
        · (try simp only [beq_iff_eq, bne_iff_ne, ne_eq, decide_eq_true_eq, decide_eq_false_iff_not, beq_eq_false_iff_ne, bne_eq_false_iff_eq, Bool.not_eq_true', Bool.not_eq_false', Bool.not_eq_eq_eq_not, Bool.not_true, Bool.not_false, gt_iff_lt, ge_iff_le, Int.not_lt, Int.not_le] at h4)
          refine wl_yes rfl rfl ?_
          refine wl_val (r_move rfl) (ltn rfl) ?_
          refine wl_yes rfl rfl ?_
          refine wl_val (r_move rfl) (ltn rfl) ?_
          refine wl_yes rfl rfl ?_
          refine wl_val (r_nil rfl) (ltn rfl) ?_
          refine wl_yes rfl rfl ?_
          refine wl_val ((by first | exact r_field0 0 Tryd.underlying41 rfl rfl Tryd.sizeOf39 (by decide) rfl | exact r_field 0 Tryd.underlying41 rfl rfl Tryd.sizeOf39 (by decide) rfl)) (ltn rfl) ?_
          refine wl_yes rfl rfl ?_
          refine wl_val (r_load (plain_of Tryd.underlying39 rfl) rfl (cell_of_blk (H8).get.2 rfl)) (ltn rfl) ?_
          refine wl_yes rfl rfl ?_
          refine wl_val (r_lenR ((H8.f2).row_rd) Tryd.underlying39 rfl) (ltn rfl) ?_
          refine wl_yes rfl rfl ?_
          refine wl_val (r_eql rfl rfl) (ltn rfl) ?_
          refine wl_val (r_pick_t rfl rfl) (ltn rfl) ?_
          refine wl_val (r_assign rfl) (ltn rfl) ?_
          refine wl_nil ?_
          refine wq_seq ?_
          refine wc_cond rfl (fun h5 => ?_) (fun h5 => ?_)
          · (try simp only [beq_iff_eq, bne_iff_ne, ne_eq, decide_eq_true_eq, decide_eq_false_iff_not, beq_eq_false_iff_ne, bne_eq_false_iff_eq, Bool.not_eq_true', Bool.not_eq_false', Bool.not_eq_eq_eq_not, Bool.not_true, Bool.not_false, gt_iff_lt, ge_iff_le, Int.not_lt, Int.not_le] at h5)
            
            refine wc_seq ?_
            refine wc_region ?_
            refine wl_val (r_move rfl) (ltn rfl) ?_
            refine wl_val (r_assign rfl) (ltn rfl) ?_
            refine wl_nil ?_
            refine wq_seq ?_
            refine wc_ret ?_
            refine wq_block_ret ?_
            refine wq_block_ret ?_
            refine wq_then_ret ?_
            refine wq_block_ret ?_
            refine wq_then_ret ?_
            refine wq_end1 (.inl rfl) Tryd.results23 rfl ?_
            have hstop : hq = [] ∨ partM hq = true := .inr (by unfold partM; simp only [decide_eq_true_eq]; have := headM_snd hne; unfold wholeM at *; omega)
            rw [putM_stop hstop, List.append_nil] at hr2
            rw [← hr2]
            have Ho14 := H8.f2.f2
            have Hc15 := Ho14.mk_rdec
            exact Hc15.f2
          · (try simp only [beq_iff_eq, bne_iff_ne, ne_eq, decide_eq_true_eq, decide_eq_false_iff_not, beq_eq_false_iff_ne, bne_eq_false_iff_eq, Bool.not_eq_true', Bool.not_eq_false', Bool.not_eq_eq_eq_not, Bool.not_true, Bool.not_false, gt_iff_lt, ge_iff_le, Int.not_lt, Int.not_le] at h5)
            
            refine wc_seq ?_
            have hw : wholeM hq = false := whole_not (by omega)
            have hpart : partM hq = false := by unfold partM; simp only [decide_eq_false_iff_not]; intro hc; have := part_fst hc; omega
            have hd1 : (decM hq).1 = 65533 ∧ (decM hq).2 = 1 := by rw [decM_not hw]; exact ⟨rfl, rfl⟩
            refine wc_region ?_
            refine wl_val (r_move rfl) (ltn rfl) ?_
            refine wl_eff (e_lit_ints (k := .i32) (l := [65533]) H8 Tryd.underlying22 Tryd.sizeOf21 Tryd.zeroValue21 rfl rfl rfl (by decide)) (ltn rfl) ?_
            rintro l16 w16 H16
            refine wl_eff (e_append_ints H16.f4 ((H16).row_rd) Tryd.underlying22 (show (Tryd.prog.info? 21).map (fun i => (i.zero, i.size, i.bytes)) = some (some (.int .i32 0), 1, 4) by kernel_rfl) rfl rfl (by first | omega | (simp only [List.length_append, List.length_nil, List.length_cons]; omega) | (simp; omega)) (by first | omega | (simp only [List.length_append, List.length_nil, List.length_cons]; omega) | (simp; omega))) (ltn rfl) ?_
            rintro l17 w17 H17
            try simp only [List.nil_append] at H17
            refine wl_val (r_assign rfl) (ltn rfl) ?_
            refine wl_nil ?_
            refine wq_seq ?_
            refine wc_region ?_
            refine wl_val (r_move rfl) (ltn rfl) ?_
            refine wl_val (r_move rfl) (ltn rfl) ?_
            refine wl_val (r_nil rfl) (ltn rfl) ?_
            refine wl_val ((by first | exact r_field0 0 Tryd.underlying41 rfl rfl Tryd.sizeOf39 (by decide) rfl | exact r_field 0 Tryd.underlying41 rfl rfl Tryd.sizeOf39 (by decide) rfl)) (ltn rfl) ?_
            refine wl_val (r_load (plain_of Tryd.underlying39 rfl) rfl (cell_of_blk (H17.f3).get.2 rfl)) (ltn rfl) ?_
            refine wl_val (r_sliceS ((H17.f4).row_rd) Tryd.underlying39 Tryd.sizeOf5 rfl rfl rfl (by omega)) (ltn rfl) ?_
            refine wl_val (r_nil rfl) (ltn rfl) ?_
            refine wl_val ((by first | exact r_field0 0 Tryd.underlying41 rfl rfl Tryd.sizeOf39 (by decide) rfl | exact r_field 0 Tryd.underlying41 rfl rfl Tryd.sizeOf39 (by decide) rfl)) (ltn rfl) ?_
            refine wl_eff0 (e_storeL 0 (l' := [_]) H17.f3 Tryd.sizeOf39 rfl rfl (by first | rfl | exact Rd.one (RdI.from ((H17.f4).row_rd) (by omega))) rfl rfl) ?_
            rintro _ w18 H18
            have HX := (H18.f3.right.f2.f2.f3).rowi_from (i := 1) (by omega)
            have HN := ((Holds.mk_rdec HX.f2).f2)
            rw [show hq.drop 1 = hq.drop (decM hq).2 from by rw [hd1.2], show l2 ++ [65533] = l2 ++ [(decM hq).1] from by rw [hd1.1]] at HN
            refine wl_nil ?_
            refine wq_block_normal ?_
            refine wq_block_normal ?_
            refine wq_round (_, _) (Sub.cons rfl (Sub.nil _)) (Sub.cons rfl (Sub.nil _)) (by (try dsimp only); exact ⟨_, _, ⟨byts_drop hb2 _, by rw [← hr2, putM_step hne hpart]; simp only [List.append_assoc]; rfl, by simp only [List.length_append, List.length_drop, List.length_cons, List.length_nil]; omega, rfl⟩, HN⟩) ?_
            · (try dsimp only); rw [List.length_drop]; omega
        · (try simp only [beq_iff_eq, bne_iff_ne, ne_eq, decide_eq_true_eq, decide_eq_false_iff_not, beq_eq_false_iff_ne, bne_eq_false_iff_eq, Bool.not_eq_true', Bool.not_eq_false', Bool.not_eq_eq_eq_not, Bool.not_true, Bool.not_false, gt_iff_lt, ge_iff_le, Int.not_lt, Int.not_le] at h4)
          refine wl_no rfl rfl rfl (ltn rfl) ?_
          refine wl_no rfl rfl rfl (ltn rfl) ?_
          refine wl_no rfl rfl rfl (ltn rfl) ?_
          refine wl_no rfl rfl rfl (ltn rfl) ?_
          refine wl_no rfl rfl rfl (ltn rfl) ?_
          refine wl_no rfl rfl rfl (ltn rfl) ?_
          refine wl_no rfl rfl rfl (ltn rfl) ?_
          refine wl_val (r_pick_f rfl rfl) (ltn rfl) ?_
          refine wl_val (r_assign rfl) (ltn rfl) ?_
          refine wl_nil ?_
          refine wq_seq ?_
          refine wc_cond_f rfl ?_
          refine wc_seq ?_
          have hw : wholeM hq = false := whole_not (by omega)
          have hpart : partM hq = false := by unfold partM; simp only [decide_eq_false_iff_not]; intro hc; have := part_fst hc; omega
          have hd1 : (decM hq).1 = 65533 ∧ (decM hq).2 = 1 := by rw [decM_not hw]; exact ⟨rfl, rfl⟩
          refine wc_region ?_
          refine wl_val (r_move rfl) (ltn rfl) ?_
          refine wl_eff (e_lit_ints (k := .i32) (l := [65533]) H8 Tryd.underlying22 Tryd.sizeOf21 Tryd.zeroValue21 rfl rfl rfl (by decide)) (ltn rfl) ?_
          rintro l19 w19 H19
          refine wl_eff (e_append_ints H19.f4 ((H19).row_rd) Tryd.underlying22 (show (Tryd.prog.info? 21).map (fun i => (i.zero, i.size, i.bytes)) = some (some (.int .i32 0), 1, 4) by kernel_rfl) rfl rfl (by first | omega | (simp only [List.length_append, List.length_nil, List.length_cons]; omega) | (simp; omega)) (by first | omega | (simp only [List.length_append, List.length_nil, List.length_cons]; omega) | (simp; omega))) (ltn rfl) ?_
          rintro l20 w20 H20
          try simp only [List.nil_append] at H20
          refine wl_val (r_assign rfl) (ltn rfl) ?_
          refine wl_nil ?_
          refine wq_seq ?_
          refine wc_region ?_
          refine wl_val (r_move rfl) (ltn rfl) ?_
          refine wl_val (r_move rfl) (ltn rfl) ?_
          refine wl_val (r_nil rfl) (ltn rfl) ?_
          refine wl_val ((by first | exact r_field0 0 Tryd.underlying41 rfl rfl Tryd.sizeOf39 (by decide) rfl | exact r_field 0 Tryd.underlying41 rfl rfl Tryd.sizeOf39 (by decide) rfl)) (ltn rfl) ?_
          refine wl_val (r_load (plain_of Tryd.underlying39 rfl) rfl (cell_of_blk (H20.f3).get.2 rfl)) (ltn rfl) ?_
          refine wl_val (r_sliceS ((H20.f4).row_rd) Tryd.underlying39 Tryd.sizeOf5 rfl rfl rfl (by omega)) (ltn rfl) ?_
          refine wl_val (r_nil rfl) (ltn rfl) ?_
          refine wl_val ((by first | exact r_field0 0 Tryd.underlying41 rfl rfl Tryd.sizeOf39 (by decide) rfl | exact r_field 0 Tryd.underlying41 rfl rfl Tryd.sizeOf39 (by decide) rfl)) (ltn rfl) ?_
          refine wl_eff0 (e_storeL 0 (l' := [_]) H20.f3 Tryd.sizeOf39 rfl rfl (by first | rfl | exact Rd.one (RdI.from ((H20.f4).row_rd) (by omega))) rfl rfl) ?_
          rintro _ w21 H21
          have HX := (H21.f3.right.f2.f2.f3).rowi_from (i := 1) (by omega)
          have HN := ((Holds.mk_rdec HX.f2).f2)
          rw [show hq.drop 1 = hq.drop (decM hq).2 from by rw [hd1.2], show l2 ++ [65533] = l2 ++ [(decM hq).1] from by rw [hd1.1]] at HN
          refine wl_nil ?_
          refine wq_block_normal ?_
          refine wq_block_normal ?_
          refine wq_round (_, _) (Sub.cons rfl (Sub.nil _)) (Sub.cons rfl (Sub.nil _)) (by (try dsimp only); exact ⟨_, _, ⟨byts_drop hb2 _, by rw [← hr2, putM_step hne hpart]; simp only [List.append_assoc]; rfl, by simp only [List.length_append, List.length_drop, List.length_cons, List.length_nil]; omega, rfl⟩, HN⟩) ?_
          · (try dsimp only); rw [List.length_drop]; omega
    · (try simp only [beq_iff_eq, bne_iff_ne, ne_eq, decide_eq_true_eq, decide_eq_false_iff_not, beq_eq_false_iff_ne, bne_eq_false_iff_eq, Bool.not_eq_true', Bool.not_eq_false', Bool.not_eq_eq_eq_not, Bool.not_true, Bool.not_false, gt_iff_lt, ge_iff_le, Int.not_lt, Int.not_le] at h2)
      refine wl_no rfl rfl rfl (ltn rfl) ?_
      refine wl_no rfl rfl rfl (ltn rfl) ?_
      refine wl_no rfl rfl rfl (ltn rfl) ?_
      refine wl_val (r_pick_f rfl rfl) (ltn rfl) ?_
      refine wl_val (r_assign rfl) (ltn rfl) ?_
      refine wl_nil ?_
      refine wq_seq ?_
      refine wc_cond_f rfl ?_
      refine wc_seq ?_
      refine wc_region ?_
      refine wl_val (r_move rfl) (ltn rfl) ?_
      refine wl_val (r_gtr rfl rfl) (ltn rfl) ?_
      refine wl_split rfl (ltn rfl) (fun h6 => ?_) (fun h6 => ?_)
      · (try simp only [beq_iff_eq, bne_iff_ne, ne_eq, decide_eq_true_eq, decide_eq_false_iff_not, beq_eq_false_iff_ne, bne_eq_false_iff_eq, Bool.not_eq_true', Bool.not_eq_false', Bool.not_eq_eq_eq_not, Bool.not_true, Bool.not_false, gt_iff_lt, ge_iff_le, Int.not_lt, Int.not_le] at h6)
        refine wl_yes rfl rfl ?_
        refine wl_val (r_move rfl) (ltn rfl) ?_
        refine wl_yes rfl rfl ?_
        refine wl_val (r_move rfl) (ltn rfl) ?_
        refine wl_yes rfl rfl ?_
        refine wl_val (r_nil rfl) (ltn rfl) ?_
        refine wl_yes rfl rfl ?_
        refine wl_val ((by first | exact r_field0 0 Tryd.underlying41 rfl rfl Tryd.sizeOf39 (by decide) rfl | exact r_field 0 Tryd.underlying41 rfl rfl Tryd.sizeOf39 (by decide) rfl)) (ltn rfl) ?_
        refine wl_yes rfl rfl ?_
        refine wl_val (r_load (plain_of Tryd.underlying39 rfl) rfl (cell_of_blk (H8).get.2 rfl)) (ltn rfl) ?_
        refine wl_yes rfl rfl ?_
        refine wl_val (r_lenR ((H8.f2).row_rd) Tryd.underlying39 rfl) (ltn rfl) ?_
        refine wl_yes rfl rfl ?_
        refine wl_val (r_eql rfl rfl) (ltn rfl) ?_
        refine wl_val (r_pick_t rfl rfl) (ltn rfl) ?_
        refine wl_val (r_assign rfl) (ltn rfl) ?_
        refine wl_nil ?_
        refine wq_seq ?_
        refine wc_cond rfl (fun h7 => ?_) (fun h7 => ?_)
        · (try simp only [beq_iff_eq, bne_iff_ne, ne_eq, decide_eq_true_eq, decide_eq_false_iff_not, beq_eq_false_iff_ne, bne_eq_false_iff_eq, Bool.not_eq_true', Bool.not_eq_false', Bool.not_eq_eq_eq_not, Bool.not_true, Bool.not_false, gt_iff_lt, ge_iff_le, Int.not_lt, Int.not_le] at h7)
          
          refine wc_seq ?_
          refine wc_region ?_
          refine wl_val (r_move rfl) (ltn rfl) ?_
          refine wl_val (r_assign rfl) (ltn rfl) ?_
          refine wl_nil ?_
          refine wq_seq ?_
          refine wc_ret ?_
          refine wq_block_ret ?_
          refine wq_block_ret ?_
          refine wq_then_ret ?_
          refine wq_block_ret ?_
          refine wq_then_ret ?_
          refine wq_end1 (.inl rfl) Tryd.results23 rfl ?_
          have hstop : hq = [] ∨ partM hq = true := .inr (by unfold partM; simp only [decide_eq_true_eq]; have := headM_snd hne; unfold wholeM at *; omega)
          rw [putM_stop hstop, List.append_nil] at hr2
          rw [← hr2]
          have Ho23 := H8.f2.f2
          have Hc24 := Ho23.mk_rdec
          exact Hc24.f2
        · (try simp only [beq_iff_eq, bne_iff_ne, ne_eq, decide_eq_true_eq, decide_eq_false_iff_not, beq_eq_false_iff_ne, bne_eq_false_iff_eq, Bool.not_eq_true', Bool.not_eq_false', Bool.not_eq_eq_eq_not, Bool.not_true, Bool.not_false, gt_iff_lt, ge_iff_le, Int.not_lt, Int.not_le] at h7)
          
          refine wc_seq ?_
          have hw : wholeM hq = false := whole_not (by omega)
          have hpart : partM hq = false := by unfold partM; simp only [decide_eq_false_iff_not]; intro hc; have := part_fst hc; omega
          have hd1 : (decM hq).1 = 65533 ∧ (decM hq).2 = 1 := by rw [decM_not hw]; exact ⟨rfl, rfl⟩
          refine wc_region ?_
          refine wl_val (r_move rfl) (ltn rfl) ?_
          refine wl_eff (e_lit_ints (k := .i32) (l := [65533]) H8 Tryd.underlying22 Tryd.sizeOf21 Tryd.zeroValue21 rfl rfl rfl (by decide)) (ltn rfl) ?_
          rintro l25 w25 H25
          refine wl_eff (e_append_ints H25.f4 ((H25).row_rd) Tryd.underlying22 (show (Tryd.prog.info? 21).map (fun i => (i.zero, i.size, i.bytes)) = some (some (.int .i32 0), 1, 4) by kernel_rfl) rfl rfl (by first | omega | (simp only [List.length_append, List.length_nil, List.length_cons]; omega) | (simp; omega)) (by first | omega | (simp only [List.length_append, List.length_nil, List.length_cons]; omega) | (simp; omega))) (ltn rfl) ?_
          rintro l26 w26 H26
          try simp only [List.nil_append] at H26
          refine wl_val (r_assign rfl) (ltn rfl) ?_
          refine wl_nil ?_
          refine wq_seq ?_
          refine wc_region ?_
          refine wl_val (r_move rfl) (ltn rfl) ?_
          refine wl_val (r_move rfl) (ltn rfl) ?_
          refine wl_val (r_nil rfl) (ltn rfl) ?_
          refine wl_val ((by first | exact r_field0 0 Tryd.underlying41 rfl rfl Tryd.sizeOf39 (by decide) rfl | exact r_field 0 Tryd.underlying41 rfl rfl Tryd.sizeOf39 (by decide) rfl)) (ltn rfl) ?_
          refine wl_val (r_load (plain_of Tryd.underlying39 rfl) rfl (cell_of_blk (H26.f3).get.2 rfl)) (ltn rfl) ?_
          refine wl_val (r_sliceS ((H26.f4).row_rd) Tryd.underlying39 Tryd.sizeOf5 rfl rfl rfl (by omega)) (ltn rfl) ?_
          refine wl_val (r_nil rfl) (ltn rfl) ?_
          refine wl_val ((by first | exact r_field0 0 Tryd.underlying41 rfl rfl Tryd.sizeOf39 (by decide) rfl | exact r_field 0 Tryd.underlying41 rfl rfl Tryd.sizeOf39 (by decide) rfl)) (ltn rfl) ?_
          refine wl_eff0 (e_storeL 0 (l' := [_]) H26.f3 Tryd.sizeOf39 rfl rfl (by first | rfl | exact Rd.one (RdI.from ((H26.f4).row_rd) (by omega))) rfl rfl) ?_
          rintro _ w27 H27
          have HX := (H27.f3.right.f2.f2.f3).rowi_from (i := 1) (by omega)
          have HN := ((Holds.mk_rdec HX.f2).f2)
          rw [show hq.drop 1 = hq.drop (decM hq).2 from by rw [hd1.2], show l2 ++ [65533] = l2 ++ [(decM hq).1] from by rw [hd1.1]] at HN
          refine wl_nil ?_
          refine wq_block_normal ?_
          refine wq_block_normal ?_
          refine wq_round (_, _) (Sub.cons rfl (Sub.nil _)) (Sub.cons rfl (Sub.nil _)) (by (try dsimp only); exact ⟨_, _, ⟨byts_drop hb2 _, by rw [← hr2, putM_step hne hpart]; simp only [List.append_assoc]; rfl, by simp only [List.length_append, List.length_drop, List.length_cons, List.length_nil]; omega, rfl⟩, HN⟩) ?_
          · (try dsimp only); rw [List.length_drop]; omega
      · (try simp only [beq_iff_eq, bne_iff_ne, ne_eq, decide_eq_true_eq, decide_eq_false_iff_not, beq_eq_false_iff_ne, bne_eq_false_iff_eq, Bool.not_eq_true', Bool.not_eq_false', Bool.not_eq_eq_eq_not, Bool.not_true, Bool.not_false, gt_iff_lt, ge_iff_le, Int.not_lt, Int.not_le] at h6)
        refine wl_no rfl rfl rfl (ltn rfl) ?_
        refine wl_no rfl rfl rfl (ltn rfl) ?_
        refine wl_no rfl rfl rfl (ltn rfl) ?_
        refine wl_no rfl rfl rfl (ltn rfl) ?_
        refine wl_no rfl rfl rfl (ltn rfl) ?_
        refine wl_no rfl rfl rfl (ltn rfl) ?_
        refine wl_no rfl rfl rfl (ltn rfl) ?_
        refine wl_val (r_pick_f rfl rfl) (ltn rfl) ?_
        refine wl_val (r_assign rfl) (ltn rfl) ?_
        refine wl_nil ?_
        refine wq_seq ?_
        refine wc_cond_f rfl ?_
        refine wc_seq ?_
        have hw : wholeM hq = false := whole_not (by omega)
        have hpart : partM hq = false := by unfold partM; simp only [decide_eq_false_iff_not]; intro hc; have := part_fst hc; omega
        have hd1 : (decM hq).1 = 65533 ∧ (decM hq).2 = 1 := by rw [decM_not hw]; exact ⟨rfl, rfl⟩
        refine wc_region ?_
        refine wl_val (r_move rfl) (ltn rfl) ?_
        refine wl_eff (e_lit_ints (k := .i32) (l := [65533]) H8 Tryd.underlying22 Tryd.sizeOf21 Tryd.zeroValue21 rfl rfl rfl (by decide)) (ltn rfl) ?_
        rintro l28 w28 H28
        refine wl_eff (e_append_ints H28.f4 ((H28).row_rd) Tryd.underlying22 (show (Tryd.prog.info? 21).map (fun i => (i.zero, i.size, i.bytes)) = some (some (.int .i32 0), 1, 4) by kernel_rfl) rfl rfl (by first | omega | (simp only [List.length_append, List.length_nil, List.length_cons]; omega) | (simp; omega)) (by first | omega | (simp only [List.length_append, List.length_nil, List.length_cons]; omega) | (simp; omega))) (ltn rfl) ?_
        rintro l29 w29 H29
        try simp only [List.nil_append] at H29
        refine wl_val (r_assign rfl) (ltn rfl) ?_
        refine wl_nil ?_
        refine wq_seq ?_
        refine wc_region ?_
        refine wl_val (r_move rfl) (ltn rfl) ?_
        refine wl_val (r_move rfl) (ltn rfl) ?_
        refine wl_val (r_nil rfl) (ltn rfl) ?_
        refine wl_val ((by first | exact r_field0 0 Tryd.underlying41 rfl rfl Tryd.sizeOf39 (by decide) rfl | exact r_field 0 Tryd.underlying41 rfl rfl Tryd.sizeOf39 (by decide) rfl)) (ltn rfl) ?_
        refine wl_val (r_load (plain_of Tryd.underlying39 rfl) rfl (cell_of_blk (H29.f3).get.2 rfl)) (ltn rfl) ?_
        refine wl_val (r_sliceS ((H29.f4).row_rd) Tryd.underlying39 Tryd.sizeOf5 rfl rfl rfl (by omega)) (ltn rfl) ?_
        refine wl_val (r_nil rfl) (ltn rfl) ?_
        refine wl_val ((by first | exact r_field0 0 Tryd.underlying41 rfl rfl Tryd.sizeOf39 (by decide) rfl | exact r_field 0 Tryd.underlying41 rfl rfl Tryd.sizeOf39 (by decide) rfl)) (ltn rfl) ?_
        refine wl_eff0 (e_storeL 0 (l' := [_]) H29.f3 Tryd.sizeOf39 rfl rfl (by first | rfl | exact Rd.one (RdI.from ((H29.f4).row_rd) (by omega))) rfl rfl) ?_
        rintro _ w30 H30
        have HX := (H30.f3.right.f2.f2.f3).rowi_from (i := 1) (by omega)
        have HN := ((Holds.mk_rdec HX.f2).f2)
        rw [show hq.drop 1 = hq.drop (decM hq).2 from by rw [hd1.2], show l2 ++ [65533] = l2 ++ [(decM hq).1] from by rw [hd1.1]] at HN
        refine wl_nil ?_
        refine wq_block_normal ?_
        refine wq_block_normal ?_
        refine wq_round (_, _) (Sub.cons rfl (Sub.nil _)) (Sub.cons rfl (Sub.nil _)) (by (try dsimp only); exact ⟨_, _, ⟨byts_drop hb2 _, by rw [← hr2, putM_step hne hpart]; simp only [List.append_assoc]; rfl, by simp only [List.length_append, List.length_drop, List.length_cons, List.length_nil]; omega, rfl⟩, HN⟩) ?_
        · (try dsimp only); rw [List.length_drop]; omega
  · (try simp only [beq_iff_eq, bne_iff_ne, ne_eq, decide_eq_true_eq, decide_eq_false_iff_not, beq_eq_false_iff_ne, bne_eq_false_iff_eq, Bool.not_eq_true', Bool.not_eq_false', Bool.not_eq_eq_eq_not, Bool.not_true, Bool.not_false, gt_iff_lt, ge_iff_le, Int.not_lt, Int.not_le] at h1)
    
    refine wc_exit ?_
    refine wq_then_exit ?_
    refine wq_then_exit ?_
    refine wq_block_hit ?_
    refine wq_seq ?_
    refine wc_seq ?_
    refine wc_region ?_
    refine wl_val (r_move rfl) (ltn rfl) ?_
    refine wl_val (r_assign rfl) (ltn rfl) ?_
    refine wl_nil ?_
    refine wq_seq ?_
    refine wc_ret ?_
    refine wq_end1 (.inl rfl) Tryd.results23 rfl ?_
    obtain rfl : hq = [] := List.eq_nil_of_length_eq_zero (by omega)
    rw [putM_stop (.inl rfl), List.append_nil] at hr2
    rw [← hr2]
    have Ho32 := HD_p.f2.f2
    have Hc33 := Ho32.mk_rdec
    exact Hc33.f2
end
end Go.Proofs.YtmkmffoadapmnaaDoor
