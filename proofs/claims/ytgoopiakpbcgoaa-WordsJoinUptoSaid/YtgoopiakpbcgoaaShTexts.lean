/- shwords.Texts, walked: the words' runes, gone through. -/
import Derived.Test.YtgoopiakpbcgoaaShBegun
import Derived.Test.YtgoopiakpbcgoaaShSep
import Derived.Test.YtgoopiakpbcgoaaLL
import Derived.Test.YtgoopiakpbcgoaaRange
set_option linter.unusedSimpArgs false
set_option linter.unusedVariables false
namespace Go.Proofs.Ytgoopiakpbcgoaa
open Go.RowKit Go.Lib
theorem sep_in (l : List Int) : ∀ (es : List Wd) (a : Nat), SepE l a es → ∀ c ∈ es, c.2.1 ≤ c.2.2 ∧ c.2.2 ≤ l.length
  | [], _, _, c, hc => by cases hc
  | d :: r, a, ⟨h1, h2, h3, h4, h5, h6⟩, c, hc => by
    rcases List.mem_cons.1 hc with rfl | hc
    · exact ⟨h2, h3⟩
    · exact sep_in l r _ h6 c hc
theorem words_in {l : List Int} {k : Nat} (h : k < (wordsS l).length) : ((wordsS l).getD k (0, 0, 0)).2.1 ≤ ((wordsS l).getD k (0, 0, 0)).2.2 ∧ ((wordsS l).getD k (0, 0, 0)).2.2 ≤ l.length := by
  refine sep_in l _ 0 (sep_words l) _ ?_
  rw [List.getD_eq_getElem?_getD, List.getElem?_eq_getElem h]
  exact List.mem_append_left _ (List.getElem_mem h)
def textW (l : List Int) (c : Wd) : List Int := (l.drop c.2.1).take (c.2.2 - c.2.1)
def textsS (l : List Int) : List (List Int) := (wordsS l).map (textW l)
theorem textsS_len (l : List Int) : (textsS l).length = (wordsS l).length := by simp [textsS]
theorem textsS_take {l : List Int} {k : Nat} (h : k < (wordsS l).length) : (textsS l).take (k + 1) = (textsS l).take k ++ [textW l ((wordsS l).getD k (0, 0, 0))] := by
  rw [List.take_succ_eq_append_getElem (by rw [textsS_len]; exact h)]
  unfold textsS
  rw [List.getElem_map, List.getD_eq_getElem?_getD, List.getElem?_eq_getElem h]; rfl
theorem textsS_le {l : List Int} {k : Nat} (h : k < (textsS l).length) : ((textsS l).getD k []).length ≤ l.length := by
  rw [List.getD_eq_getElem?_getD, List.getElem?_eq_getElem h]
  simp only [textsS, List.getElem_map, textW, Option.getD_some, List.length_take, List.length_drop]; omega
def textsHP (b : Nat) (T : List (List Int)) : HP := exHP fun (x : Value × List Value) => blk b (.cells #[x.1] 30 (0, 0)) • Row 22 1 x.1 T.length x.2 • immsI .i32 x.2 T
theorem texts_close (b : Nat) (T : List (List Int)) (v : Value) (vs : List Value) : Ent (blk b (.cells #[v] 30 (0, 0)) • Row 22 1 v T.length vs • immsI .i32 vs T) (textsHP b T) := fun I x hx => ⟨(v, vs), hx⟩
section
variable {w0 w : World} {F : HP} {v u : Value} {l : List Int} {T : List (List Int)}
theorem sh_clone_ret (H : Holds w0 w F) (hr : FRdI w0 F .i32 v l) (hb : l.length * 4 ≤ 140737488355328) :
    Ret Try.prog 31 #[v] w fun v' w' => Holds w0 w' (RowI 21 .i32 v' l • F) := by
  obtain ⟨a, c, rfl, h1, h2, h3⟩ := (hr w H).open
  have info_i32 : (Try.prog.info? 21).map (fun i => (i.zero, i.size, i.bytes)) = some (some (.int .i32 0), 1, 4) := by kernel_rfl
  refine ret_enter Try.func31 rfl Try.ntmps31 (Nat.le_of_ble_eq_true rfl) ?_
  dsimp only [slots0, Nat.reduceAdd]
  refine wc_seq ?_
  refine wc_region ?_
  refine wl_val (r_assign rfl) (ltn rfl) ?_
  refine wl_nil ?_
  refine wq_seq ?_
  refine wc_seq ?_
  refine wc_seq ?_
  refine wc_region ?_
  refine wl_val (r_move rfl) (ltn rfl) ?_
  refine wl_val (r_slice_nil Try.underlying22 rfl rfl) (ltn rfl) ?_
  refine wl_nil ?_
  refine wq_seq ?_
  refine wc_cond rfl (fun h1 => ?_) (fun h1 => ?_)
  · (try simp only [beq_iff_eq, bne_iff_ne, ne_eq, decide_eq_true_eq, decide_eq_false_iff_not, beq_eq_false_iff_ne, bne_eq_false_iff_eq, Bool.not_eq_true', Bool.not_eq_false', Bool.not_eq_eq_eq_not, Bool.not_true, Bool.not_false, gt_iff_lt, ge_iff_le, Int.not_lt, Int.not_le] at h1)
    try (exfalso; first | contradiction | omega)
    all_goals
      
      refine wc_seq ?_
      refine wc_region ?_
      refine wl_val (r_assign rfl) (ltn rfl) ?_
      refine wl_nil ?_
      refine wq_seq ?_
      refine wc_ret ?_
      refine wq_then_ret ?_
      refine wq_end1 (.inl rfl) Try.results31 rfl ?_
      obtain rfl : a = none := by simpa using h1
      obtain rfl : l = [] := by
        cases l with
        | nil => rfl
        | cons x l => obtain ⟨b, o, e, _⟩ := h3 (by simp); cases e
      exact H.row_nil none
  · (try simp only [beq_iff_eq, bne_iff_ne, ne_eq, decide_eq_true_eq, decide_eq_false_iff_not, beq_eq_false_iff_ne, bne_eq_false_iff_eq, Bool.not_eq_true', Bool.not_eq_false', Bool.not_eq_eq_eq_not, Bool.not_true, Bool.not_false, gt_iff_lt, ge_iff_le, Int.not_lt, Int.not_le] at h1)
    try (exfalso; first | contradiction | omega)
    all_goals
      
      refine wc_skip ?_
      refine wq_seq ?_
      refine wc_seq ?_
      refine wc_region ?_
      refine wl_eff (e_lit_row (vs := []) H Try.underlying22 Try.sizeOf21 Try.zeroValue21 rfl rfl rfl (by decide) (by simp)) (ltn rfl) ?_
      rintro _ w1 H1
      refine wl_val (r_move rfl) (ltn rfl) ?_
      refine wl_eff (e_append_ints (l := []) H1 (hr.under _ H1) Try.underlying22 info_i32 rfl rfl (by simp; omega) (by simpa using hb)) (ltn rfl) ?_
      rintro _ w2 H2
      refine wl_val (r_assign rfl) (ltn rfl) ?_
      refine wl_nil ?_
      refine wq_seq ?_
      refine wc_ret ?_
      refine wq_end1 (.inl rfl) Try.results31 rfl ?_
      exact H2
theorem texts_iter (b : Nat) (hT : ∀ k, k < T.length → (T.getD k []).length ≤ 4294967296) (hT2 : T.length ≤ 4294967296) : Iter Try.prog w0 (.func (.func 32) #[] #[.pointer (some ⟨b, 0, none⟩)]) (textsHP b T) T.length
    (fun k vs A => ∃ x, vs = [.int .i64 (k : Int), x] ∧ A = RowI 21 .i32 x (T.getD k [])) := by
  intro l J X w hy H
  refine ⟨32, [], [.pointer (some ⟨b, 0, none⟩)], _, _, rfl, Try.func32, rfl, rfl, ?_⟩
  obtain ⟨⟨v, vs⟩, H⟩ := H.comm.ex_sep
  have H := H.flat
  have H1 : Holds w0 w (blk b (.cells #[v] 30 (0, 0)) • Row 22 1 v T.length vs • immsI .i32 vs T • J 0) := H.of_eq (by dsimp only; ac_rfl)
  obtain ⟨a, c, hv, hc1, hc2, _⟩ := (H1.swap.row_rd).form
  subst hv
  simp only [List.nil_append, List.cons_append]
  refine ret_enter Try.func32 rfl Try.ntmps32 (Nat.le_of_ble_eq_true rfl) ?_
  dsimp only [slots0, Nat.reduceAdd]
  refine wc_seq ?_
  refine wc_region ?_
  refine wl_val (r_load (plain_of Try.underlying30 rfl) rfl (cell_of_blk (H1).get.2 rfl)) (ltn rfl) ?_
  refine wl_val (r_lenS ((H1.f2).row_rd) Try.underlying30 rfl) (ltn rfl) ?_
  refine wl_val (r_move rfl) (ltn rfl) ?_
  refine wl_nil ?_
  refine wq_seq ?_
  refine wc_block ?_
  refine wc_loop [(0, _), (5, _), (6, _)] (fun (k : Nat) => [(7, .int .i64 (k : Int))]) (fun (k : Nat) W => k ≤ T.length ∧ Holds w0 W (blk b (.cells #[.slice a T.length c] 30 (0, 0)) • Row 22 1 (.slice a T.length c) T.length vs • immsI .i32 vs T • J k)) (fun (k : Nat) => T.length - k) (0) (Sub.cons rfl (Sub.cons rfl (Sub.cons rfl (Sub.nil _)))) (Sub.cons rfl (Sub.nil _)) ⟨by omega, H1⟩ ?_
  rintro k w1 ⟨hk, HL⟩
  dsimp only [List.cons_append, List.nil_append]
  refine wc_seq ?_
  refine wc_region ?_
  refine wl_val (r_lss rfl rfl) (ltn rfl) ?_
  refine wl_nil ?_
  refine wq_seq ?_
  refine wc_seq ?_
  refine wc_cond rfl (fun h1 => ?_) (fun h1 => ?_)
  · (try simp only [beq_iff_eq, bne_iff_ne, ne_eq, decide_eq_true_eq, decide_eq_false_iff_not, beq_eq_false_iff_ne, bne_eq_false_iff_eq, Bool.not_eq_true', Bool.not_eq_false', Bool.not_eq_eq_eq_not, Bool.not_true, Bool.not_false, gt_iff_lt, ge_iff_le, Int.not_lt, Int.not_le] at h1)
    
    refine wc_skip ?_
    refine wq_seq ?_
    refine wc_seq ?_
    refine wc_block ?_
    refine wc_seq ?_
    refine wc_region ?_
    refine wl_val (r_move rfl) (ltn rfl) ?_
    obtain ⟨bv, ov, cv, ev⟩ := Rd.posV ((HL.f2).row_rd) (by omega)
    cases ev
    refine wl_val (r_index Try.underlying30 Try.sizeOf22 rfl rfl (by omega)) (ltn rfl) ?_
    refine wl_val (r_load (plain_of Try.underlying22 rfl) rfl (by first | exact Rd.at1n ((HL.f2).row_rd) (by omega) | exact Rd.at0 ((HL.f2).row_rd) (by omega) | exact Rd.at1 ((HL.f2).row_rd) (by omega))) (ltn rfl) ?_
    refine wl_gen (fun x11_2 hx11_2 => ?_)
    refine wl_val (r_assign rfl) (ltn rfl) ?_
    refine wl_val (r_assign rfl) (ltn rfl) ?_
    refine wl_nil ?_
    refine wq_seq ?_
    refine wc_seq ?_
    have hkl : k < T.length := by omega
    have hTk := hT k hkl
    refine wc_region ?_
    refine wl_val (r_move rfl) (ltn rfl) ?_
    refine wl_val (r_move rfl) (ltn rfl) ?_
    refine wl_val (r_move rfl) (ltn rfl) ?_
    refine wl_eff (e_call (r_call rfl Try.func31 rfl rfl) (sh_clone_ret HL (fun W HW => (by rw [hx11_2]; exact (HW.f3).imms_rd (by omega))) (by omega))) (ltn rfl) ?_
    rintro u3 w3 H3
    refine wl_eff (e_yield rfl rfl (hy k (by omega) _ _ ⟨_, rfl, rfl⟩ _ _ H3.e3).bool) (ltn rfl) ?_
    rintro _ w4 ⟨t, rfl, ht1, ht2⟩
    refine wl_val (r_not rfl) (ltn rfl) ?_
    refine wl_nil ?_
    refine wq_seq ?_
    refine wc_cond rfl (fun h2 => ?_) (fun h2 => ?_)
    · (try simp only [beq_iff_eq, bne_iff_ne, ne_eq, decide_eq_true_eq, decide_eq_false_iff_not, beq_eq_false_iff_ne, bne_eq_false_iff_eq, Bool.not_eq_true', Bool.not_eq_false', Bool.not_eq_eq_eq_not, Bool.not_true, Bool.not_false, gt_iff_lt, ge_iff_le, Int.not_lt, Int.not_le] at h2)
      have HX := ht2 (by simpa using h2)
      refine wc_ret ?_
      refine wq_block_ret ?_
      refine wq_then_ret ?_
      refine wq_then_ret ?_
      refine wq_block_ret ?_
      refine wq_end0 (.inl rfl) Try.results32 ?_
      exact .inr (HX.ent ((Ent.refl _).sep (texts_close b T _ vs)))
    · (try simp only [beq_iff_eq, bne_iff_ne, ne_eq, decide_eq_true_eq, decide_eq_false_iff_not, beq_eq_false_iff_ne, bne_eq_false_iff_eq, Bool.not_eq_true', Bool.not_eq_false', Bool.not_eq_eq_eq_not, Bool.not_true, Bool.not_false, gt_iff_lt, ge_iff_le, Int.not_lt, Int.not_le] at h2)
      have HN := (ht1 (by simpa using h2)).comm.u3
      refine wc_skip ?_
      refine wq_block_normal ?_
      refine wq_seq ?_
      refine wc_region ?_
      refine wl_val (r_add rfl rfl (by omega)) (ltn rfl) ?_
      refine wl_val (r_move rfl) (ltn rfl) ?_
      refine wl_nil ?_
      refine wq_round (k + 1) ?_ ?_ ?_ ?_
      · exact (Sub.cons rfl (Sub.nil _))
      · exact (Sub.cons rfl (Sub.cons rfl (Sub.cons rfl (Sub.nil _))))
      · (try dsimp only)
        exact ⟨by omega, HN.f3.f3.f3⟩
      · (try dsimp only); omega
  · (try simp only [beq_iff_eq, bne_iff_ne, ne_eq, decide_eq_true_eq, decide_eq_false_iff_not, beq_eq_false_iff_ne, bne_eq_false_iff_eq, Bool.not_eq_true', Bool.not_eq_false', Bool.not_eq_eq_eq_not, Bool.not_true, Bool.not_false, gt_iff_lt, ge_iff_le, Int.not_lt, Int.not_le] at h1)
    
    refine wc_exit ?_
    refine wq_then_exit ?_
    refine wq_then_exit ?_
    refine wq_block_hit ?_
    refine wq_end0 (.inr rfl) Try.results32 ?_
    obtain rfl : k = T.length := by omega
    exact .inl ((HL.g3).comm.ent ((Ent.refl _).sep (texts_close b T _ vs)))
theorem sh_texts_ret (H : Holds w0 w F) (hv : FRdI w0 F .i32 v l) (hl : Rn32 l) (hL : l.length ≤ 1073741824) : Ret Try.prog 12 #[v] w fun v' w' => ∃ b, v' = .func (.func 32) #[] #[.pointer (some ⟨b, 0, none⟩)] ∧ Holds w0 w' (textsHP b (textsS l) • F) := by
  have hwl := wordsS_len l
  have htl := textsS_len l
  refine ret_enter Try.func12 rfl Try.ntmps12 (Nat.le_of_ble_eq_true rfl) ?_
  dsimp only [slots0, Nat.reduceAdd]
  refine wc_seq ?_
  refine wc_region ?_
  refine wl_val (r_assign rfl) (ltn rfl) ?_
  refine wl_nil ?_
  refine wq_seq ?_
  refine wc_seq ?_
  refine wc_region ?_
  refine wl_eff (e_allocL (l := [_]) H Try.zeroValue30 rfl) (ltn rfl) ?_
  rintro _ w1 ⟨b1, rfl, H1⟩
  refine wl_nil ?_
  refine wq_seq ?_
  refine wc_seq ?_
  refine wc_seq ?_
  refine wc_region ?_
  refine wl_val (r_move rfl) (ltn rfl) ?_
  refine wl_eff (e_call (r_call rfl Try.func9 rfl rfl) (sh_words_ret H1 (fun W HW => hv _ (HW.right)) (by assumption) (by omega))) (ltn rfl) ?_
  rintro u2 w2 H2
  refine wl_val (r_lenS ((H2).row_rd) Try.underlying24 rfl) (ltn rfl) ?_
  refine wl_val (r_move rfl) (ltn rfl) ?_
  refine wl_nil ?_
  refine wq_seq ?_
  refine wc_block ?_
  obtain ⟨au2, cu2, eu2, -⟩ := ((H2).row_rd).form
  subst eu2
  have HS := ((H2.f2).imms_nil (k := .i32)).row_nil (e := 22) (sz := 1) none
  refine wc_loop [(0, _), (3, _), (7, _), (8, _)] (fun (k : Nat) => [(9, .int .i64 (k : Int))]) (fun (k : Nat) W => ∃ tv ts, k ≤ (wordsS l).length ∧ Holds w0 W (blk b1 (.cells #[tv] 30 (0, 0)) • Row 22 1 tv k ts • immsI .i32 ts ((textsS l).take k) • Row 27 3 (.slice au2 (wordsS l).length cu2) (wordsS l).length ((wordsS l).flatMap wdE) • F)) (fun (k : Nat) => (wordsS l).length - k) (0) (Sub.cons rfl (Sub.cons rfl (Sub.cons rfl (Sub.cons rfl (Sub.nil _))))) (Sub.cons rfl (Sub.nil _)) ⟨.slice none 0 0, [], by omega, HS.f4.f3.f3.f4⟩ ?_
  rintro k w4 ⟨tv, ts, hk, HL⟩
  dsimp only [List.cons_append, List.nil_append]
  refine wc_seq ?_
  refine wc_region ?_
  refine wl_val (r_lss rfl rfl) (ltn rfl) ?_
  refine wl_nil ?_
  refine wq_seq ?_
  refine wc_seq ?_
  refine wc_cond rfl (fun h1 => ?_) (fun h1 => ?_)
  · (try simp only [beq_iff_eq, bne_iff_ne, ne_eq, decide_eq_true_eq, decide_eq_false_iff_not, beq_eq_false_iff_ne, bne_eq_false_iff_eq, Bool.not_eq_true', Bool.not_eq_false', Bool.not_eq_eq_eq_not, Bool.not_true, Bool.not_false, gt_iff_lt, ge_iff_le, Int.not_lt, Int.not_le] at h1)
    
    refine wc_skip ?_
    refine wq_seq ?_
    refine wc_seq ?_
    refine wc_block ?_
    refine wc_seq ?_
    have hkl : k < (wordsS l).length := by omega
    have hwi := words_in hkl
    refine wc_region ?_
    obtain ⟨bu2, ou2, rfl⟩ := Rd.pos ((HL.f4).row_rd) (by omega)
    refine wl_val (r_index Try.underlying24 Try.sizeOf27 rfl rfl (by omega)) (ltn rfl) ?_
    refine wl_val (r_load_elem (ys := [_, _, _]) ((HL.f4).row_rd) (by omega) Try.underlying27 rfl Try.sizeOf27 rfl (flat_elem wdE_len (by omega) (0, 0, 0)) rfl) (ltn rfl) ?_
    refine wl_eff (e_allocL (l := [_, _, _]) HL Try.zeroValue27 rfl) (ltn rfl) ?_
    rintro _ w5 ⟨b5, rfl, H5⟩
    refine wl_eff0 (e_storePL 0 (l' := [_, _, _]) (us := [_, _, _]) H5 Try.sizeOf27 rfl rfl rfl (ones_cons (by first | rfl | assumption) (ones_cons (by first | rfl | assumption) (ones_cons (by first | rfl | assumption) ones_nil))) rfl rfl) ?_
    rintro _ w6 H6
    refine wl_nil ?_
    refine wq_seq ?_
    have H5d6 := H6.drew
    have hS5d6 := Holds.kp (H5d6.f5.f5.f5.f5.f5)
    refine wd_beginK [0, 3, 5] hS5d6 (by kernel_rfl) (by kernel_rfl) rfl ?_
    refine wd_take 0 rfl (by kernel_rfl) (by kernel_rfl) hS5d6 (by decide) (fun W hW => r_load (plain_of Try.underlying30 rfl) rfl (cell_of_blk ((Kp.h hW).f2).get.2 rfl)) (ltn rfl) ?_
    refine wd_takeT 1 rfl (by kernel_rfl) (by kernel_rfl) hS5d6 (fun _ => r_move rfl) (ltn rfl) ?_
    refine wd_takeT 2 rfl (by kernel_rfl) (by kernel_rfl) hS5d6 (fun _ => (by first | exact r_field0 1 Try.underlying27 rfl rfl Try.sizeOf3 (by decide) rfl | exact r_field 1 Try.underlying27 rfl rfl Try.sizeOf3 (by decide) rfl)) (ltn rfl) ?_
    refine wd_take 3 rfl (by kernel_rfl) (by kernel_rfl) hS5d6 (by decide) (fun W hW => r_load (plain_of Try.underlying3 rfl) rfl (cell_of_blk ((Kp.h hW)).get.2 rfl)) (ltn rfl) ?_
    refine wd_takeT 4 rfl (by kernel_rfl) (by kernel_rfl) hS5d6 (fun _ => (by first | exact r_field0 2 Try.underlying27 rfl rfl Try.sizeOf3 (by decide) rfl | exact r_field 2 Try.underlying27 rfl rfl Try.sizeOf3 (by decide) rfl)) (ltn rfl) ?_
    refine wd_take 5 rfl (by kernel_rfl) (by kernel_rfl) hS5d6 (by decide) (fun W hW => r_load (plain_of Try.underlying3 rfl) rfl (cell_of_blk ((Kp.h hW)).get.2 rfl)) (ltn rfl) ?_
    refine wd_takeT 6 rfl (by kernel_rfl) (by kernel_rfl) hS5d6 (fun _ => r_sliceS (hv _ (H5d6.right.right.right.right.right)) Try.underlying22 Try.sizeOf21 rfl rfl rfl (by omega)) (ltn rfl) ?_
    refine wd_eff 7 rfl (by kernel_rfl) (e_call (r_call rfl Try.func31 rfl rfl) (sh_clone_ret H5d6 (fun W HW => RdI.cut (hv _ (HW.right.right.right.right.right)) (by omega) (by omega)) (by simp only [List.length_take, List.length_drop]; omega))) (ltn rfl) ?_
    rintro u7 w7 H7
    have hS7n := Holds.kp (H7.f6.f6.f6.f6.f6.f6)
    refine keepK hS7n (fun W hW => (Kp.h hW).right.f5.f5.f5.f5.f5) ?_
    refine wd_eff 8 rfl (by kernel_rfl) (e_lit_row (vs := [_]) H7 Try.underlying30 Try.sizeOf22 Try.zeroValue22 rfl rfl rfl (by decide) (ones_cons (by first | rfl | exact Rd.one ((H7).row_rd)) ones_nil)) (ltn rfl) ?_
    rintro l8 w8 H8
    have hS8n := Holds.kp (H8.f7.f7.f7.f7.f7.f7.f7)
    refine keepK hS8n (fun W hW => (Kp.h hW).right.f6.f6.f6.f6.f6.f6) ?_
    refine wd_eff 9 rfl (by kernel_rfl) (e_append H8.f5 Try.underlying30 (show (Try.prog.info? 22).map (fun i => (i.zero, i.size, i.bytes)) = some (some (.slice none 0 0), 1, 24) by kernel_rfl) rfl rfl rfl ((H8).row_rd) (ones_cons (by first | rfl | exact Rd.one ((H8.f2).row_rd)) ones_nil) (by omega) (by omega)) (ltn rfl) ?_
    rintro l9 w9 H9
    have Hd10 := H9.f2.right
    have hS10n := Holds.kp (Hd10.f6.f6.f6.f6.f6.f6)
    refine keepX hS10n (by kernel_rfl) ?_
    refine wd_eff0 10 rfl (by kernel_rfl) (e_storeL 0 (l' := [_]) Hd10.f4 Try.sizeOf30 rfl rfl (by first | rfl | exact Rd.one ((Hd10).row_rd)) rfl rfl) ?_
    rintro _ w11 H11
    have hS11n := Holds.kp (H11.f6.f6.f6.f6.f6.f6)
    refine keepX hS11n (by kernel_rfl) ?_
    refine wd_done (by kernel_rfl) ?_
    refine wq_block_normal ?_
    refine wq_seq ?_
    refine wc_region ?_
    refine wl_val (r_add rfl rfl (by omega)) (ltn rfl) ?_
    refine wl_val (r_move rfl) (ltn rfl) ?_
    refine wl_nil ?_
    refine wq_round (k + 1) ?_ ?_ ?_ ?_
    · exact (Sub.cons rfl (Sub.nil _))
    · exact (Sub.cons rfl (Sub.cons rfl (Sub.cons rfl (Sub.cons rfl (Sub.nil _)))))
    · (try dsimp only)
      exact ⟨_, _, by omega, by rw [textsS_take hkl]; exact ((H11.f4.right.f5.f3.f3.f4.f5).swap.freezeI.swap.imms_snoc).of_eq (by ac_rfl)⟩
    · (try dsimp only); omega
  · (try simp only [beq_iff_eq, bne_iff_ne, ne_eq, decide_eq_true_eq, decide_eq_false_iff_not, beq_eq_false_iff_ne, bne_eq_false_iff_eq, Bool.not_eq_true', Bool.not_eq_false', Bool.not_eq_eq_eq_not, Bool.not_true, Bool.not_false, gt_iff_lt, ge_iff_le, Int.not_lt, Int.not_le] at h1)
    
    refine wc_exit ?_
    refine wq_then_exit ?_
    refine wq_then_exit ?_
    refine wq_block_hit ?_
    refine wq_seq ?_
    refine wc_seq ?_
    refine wc_region ?_
    refine wl_val (r_makeFunc rfl rfl) (ltn rfl) ?_
    refine wl_val (r_assign rfl) (ltn rfl) ?_
    refine wl_nil ?_
    refine wq_seq ?_
    refine wc_ret ?_
    refine wq_end1 (.inl rfl) Try.results12 rfl ?_
    obtain rfl : k = (wordsS l).length := by omega
    rw [← htl, List.take_length] at HL
    exact ⟨b1, rfl, (HL.f4.right.f3.f3.f3).g3.ent ((texts_close b1 _ tv ts).sep (Ent.refl _))⟩
end
end Go.Proofs.Ytgoopiakpbcgoaa
