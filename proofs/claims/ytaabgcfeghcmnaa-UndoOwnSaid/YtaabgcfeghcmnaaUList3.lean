/- Lists of edits that are taken back: inverses, Undo. -/
import Derived.Test.YtaabgcfeghcmnaaUList2
set_option linter.unusedSimpArgs false
set_option linter.unusedVariables false
namespace Go.Proofs.Ytaabgcfeghcmnaa
open Go.RowKit
def invA (e : EdA) : EdA := (e.1, e.2.2, e.2.1)
def invHP (c : Nat) (es : List BEd) (k : Nat) : HP := exHP fun (x : Value × List BEd) => fact (x.2.map BEd.says = ((es.map BEd.says).reverse.take k).map invA) • blk c (.cells #[x.1] 39 (0, 0)) • EdL x.1 x.2
theorem inv_succ {es : List BEd} {k : Nat} (hk : k < es.length) : ((es.map BEd.says).reverse.take (k + 1)).map invA = ((es.map BEd.says).reverse.take k).map invA ++ [invA (es.getD (es.length - (k + 1)) default).says] := by
  rw [List.take_succ_eq_append_getElem (by simpa using hk), List.map_append]
  congr 1
  simp only [List.map_cons, List.map_nil, List.getElem_reverse, List.getElem_map, List.length_map]
  rw [List.getD_eq_getElem?_getD, List.getElem?_eq_getElem (by omega)]
  have e : es.length - 1 - k = es.length - (k + 1) := by omega
  simp only [Option.getD_some, e]
section
variable {w0 w : World} {F : HP} {p : Nat} {G : List (List EdA)} {N : List EdA} {op : Int} {gv nv v : Value} {gs : List (Value × List BEd)} {now es : List BEd} {a : Int} {d z : Value} {dl il : List Int}
theorem Holds.inv_open {c k : Nat} (H : Holds w0 w (invHP c es k • F)) : ∃ u fs, fs.map BEd.says = ((es.map BEd.says).reverse.take k).map invA ∧ fs.length ≤ es.length ∧ Holds w0 w (blk c (.cells #[u] 39 (0, 0)) • Row 24 3 u fs.length (fs.flatMap BEd.enc) • edsK fs • F) := by
  obtain ⟨⟨u, fs⟩, H⟩ := H.ex_sep
  obtain ⟨h, H⟩ := H.flat.fact
  refine ⟨u, fs, h, ?_, ?_⟩
  · have := congrArg List.length h
    simp at this
    omega
  · have := H.flat
    unfold EdL at this
    exact this.of_eq (by ac_rfl)
theorem Holds.mk_inv {c k : Nat} {u : Value} {fs : List BEd} (h : fs.map BEd.says = ((es.map BEd.says).reverse.take k).map invA) (H : Holds w0 w (blk c (.cells #[u] 39 (0, 0)) • EdL u fs • F)) : Holds w0 w (invHP c es k • F) :=
  Holds.mk_ex_sep (u, fs) (Holds.deep (Holds.mk_fact h H.deep))
theorem Holds.elK_at (H : Holds w0 w (elK v es • F)) {k : Nat} (hk : k < es.length) : Holds w0 w (immI .i32 (es.getD k default).d (es.getD k default).dl • immI .i32 (es.getD k default).i (es.getD k default).il • elK v es • F) := by
  have h1 : Holds w0 w (immI .i32 (es.getD k default).d (es.getD k default).dl • elK v es • elK v es • F) := H.elK_dup.elK_dup.ent (know_ent (fun I h => (h.2 k hk).1) _)
  have h2 : Holds w0 w (immI .i32 (es.getD k default).i (es.getD k default).il • immI .i32 (es.getD k default).d (es.getD k default).dl • elK v es • F) := h1.swap.ent (know_ent (fun I h => (h.2 k hk).2) _)
  exact h2.swap
theorem back_ret (H : Holds w0 w F) (hv : v.oneCell' = true) : Ret Try.prog 60 #[v] w fun v' w' => ∃ b, v' = .func (.func 61) #[] #[.pointer (some ⟨b, 0, none⟩)] ∧ Holds w0 w' (blk b (.cells #[v] 39 (0, 0)) • F) := by
  refine ret_enter Try.func60 rfl Try.ntmps60 (Nat.le_of_ble_eq_true rfl) ?_
  dsimp only [slots0, Nat.reduceAdd]
  refine wc_seq ?_
  refine wc_region ?_
  refine wl_eff (e_boxL (l := [_]) H rfl (by first | rfl | exact one_cells (by first | rfl | assumption))) (ltn rfl) ?_
  rintro _ w1 ⟨b1, rfl, H1⟩
  refine wl_val (r_assign rfl) (ltn rfl) ?_
  refine wl_nil ?_
  refine wq_seq ?_
  refine wc_seq ?_
  refine wc_region ?_
  refine wl_val (r_makeFunc rfl rfl) (ltn rfl) ?_
  refine wl_val (r_assign rfl) (ltn rfl) ?_
  refine wl_nil ?_
  refine wq_seq ?_
  refine wc_ret ?_
  refine wq_end1 (.inl rfl) Try.results60 rfl ?_
  exact ⟨_, rfl, H1⟩
theorem undo_inverses_ret (H : Holds w0 w (elK v es • F)) (hB : ∀ k, k < es.length → EB (es.getD k default).says) (hL : es.length ≤ 16384) :
    Ret Try.prog 56 #[v] w fun v' w' => ∃ fs : List BEd, fs.map BEd.says = (es.map BEd.says).reverse.map invA ∧ Holds w0 w' (Row 24 3 v' fs.length (fs.flatMap BEd.enc) • edsK fs • elK v es • F) := by
  refine ret_enter Try.func56 rfl Try.ntmps56 (Nat.le_of_ble_eq_true rfl) ?_
  dsimp only [slots0, Nat.reduceAdd]
  refine wc_seq ?_
  refine wc_region ?_
  refine wl_val (r_assign rfl) (ltn rfl) ?_
  refine wl_nil ?_
  refine wq_seq ?_
  refine wc_seq ?_
  refine wc_region ?_
  refine wl_eff (e_allocL (l := [_]) H Try.zeroValue39 rfl) (ltn rfl) ?_
  rintro _ w1 ⟨b1, rfl, H1⟩
  refine wl_nil ?_
  refine wq_seq ?_
  refine wc_seq ?_
  refine wc_seq ?_
  refine wc_region ?_
  refine wl_val (r_move rfl) (ltn rfl) ?_
  refine wl_eff (e_call (r_call rfl Try.func60 rfl rfl) (back_ret H1 (Rd.one ((H1.f2).elK_rd)))) (ltn rfl) ?_
  rintro _ w2 ⟨bB2, rfl, H2⟩
  refine wl_nil ?_
  refine wq_seq ?_
  refine wc_block ?_
  have Ho3 := H2.f2
  have Hc4 := Holds.mk_inv (es := es) (k := 0) (fs := []) rfl (Ho3.edL_nil none).swap
  refine wc_rangeFunc rfl (back_iter bB2) (fun k => invHP b1 es k • F) (fact False) (fun _ => fact False) (Hc4.f3.f3.f3.f3.f3.g2.comm) (by rfl) ?_ ?_ ?_ ?_
  · rintro l5 k hkR0 vs5 A5 ⟨rfl, rfl⟩ G5 w5 H5
    try simp only [sep_assoc, emp_sep, sep_emp] at H5
    refine ⟨rfl, ?_⟩
    dsimp only [zipL]
    have Hq := (H5).elK_at (k := es.length - (k + 1)) (by omega)
    obtain ⟨hb1, hb2⟩ := hB (es.length - (k + 1)) (by omega)
    have hb1 : (es.getD (es.length - (k + 1)) default).dl.length ≤ 35184372087808 := hb1
    have hb2 : (es.getD (es.length - (k + 1)) default).il.length ≤ 35184372087808 := hb2
    obtain ⟨u, fs, hfs, hfl, HI⟩ := (Hq.f4).inv_open
    refine wc_region ?_
    refine wl_eff (e_allocL (l := [_, _, _]) HI Try.zeroValue24 rfl) (ltn rfl) ?_
    rintro _ w6 ⟨b6, rfl, H6⟩
    refine wl_eff0 (e_storePL 0 (l' := [_, _, _]) (us := [_, _, _]) H6 Try.sizeOf24 rfl rfl rfl (ones_cons (by first | rfl | assumption) (ones_cons (by first | rfl | exact Rd.one ((H6.f5).imm_rd)) (ones_cons (by first | rfl | exact Rd.one ((H6.f6).imm_rd)) ones_nil))) rfl rfl) ?_
    rintro _ w7 H7
    refine wl_nil ?_
    refine wq_mid (H7.g8) ?_
    intro G8 w8 H8
    try simp only [sep_assoc] at H8
    refine wc_block ?_
    have H4d8 := H8.drew
    have hS4d8 := Holds.kp (H4d8.f7.f7.f7.f7.f7.f7.f7)
    refine wd_beginK [0, 1] hS4d8 (by kernel_rfl) (by kernel_rfl) rfl ?_
    refine wd_take 0 rfl (by kernel_rfl) (by kernel_rfl) hS4d8 (by decide) (fun W hW => r_load (plain_of Try.underlying39 rfl) rfl (cell_of_blk ((Kp.h hW).f2).get.2 rfl)) (ltn rfl) ?_
    refine wd_take 1 rfl (by kernel_rfl) (by kernel_rfl) hS4d8 (by decide) (fun W hW => r_load_whole Try.underlying24 rfl Try.sizeOf24 rfl rfl ((Kp.h hW)).get.2) (ltn rfl) ?_
    refine wd_eff 2 rfl (by kernel_rfl) (e_call (r_call rfl Try.func16 rfl rfl) (undo_inverse_ret H4d8 (fun W HW => (HW.f5).imm_rd) (fun W HW => (HW.f6).imm_rd) (by omega) (by omega))) (ltn rfl) ?_
    rintro _ w9 ⟨d9, s9, rfl, H9⟩
    have hS9n := Holds.kp (H9.f9.f9.f9.f9.f9.f9.f9.f9.f9)
    refine keepK hS9n (fun W hW => (Kp.h hW).right.right.f7.f7.f7.f7.f7.f7.f7) ?_
    refine wd_eff 3 rfl (by kernel_rfl) (e_lit_one H9 Try.underlying39 Try.sizeOf24 Try.zeroValue24 rfl rfl rfl (by decide) (by decide)) (ltn rfl) ?_
    rintro l10 w10 H10
    have hS10n := Holds.kp (H10.f10.f10.f10.f10.f10.f10.f10.f10.f10.f10)
    refine keepK hS10n (fun W hW => (Kp.h hW).right.f9.f9.f9.f9.f9.f9.f9.f9.f9) ?_
    refine wd_eff 4 rfl (by kernel_rfl) (e_append H10.f6 Try.underlying39 (show (Try.prog.info? 24).map (fun i => (i.zero, i.size, i.bytes)) = some (some (.agg #[.int .i64 0, .slice none 0 0, .slice none 0 0]), 3, 56) by kernel_rfl) rfl rfl rfl ((H10).row_rd) (ones_cons (by first | rfl | assumption) (ones_cons (by first | rfl | exact Rd.one ((H10.f2).row_rd)) (ones_cons (by first | rfl | exact Rd.one ((H10.f3).row_rd)) ones_nil))) (by omega) (by omega)) (ltn rfl) ?_
    rintro l11 w11 H11
    have Hd12 := H11.f2.right
    have hS12n := Holds.kp (Hd12.f9.f9.f9.f9.f9.f9.f9.f9.f9)
    refine keepX hS12n (by kernel_rfl) ?_
    refine wd_eff0 5 rfl (by kernel_rfl) (e_storeL 0 (l' := [_]) Hd12.f5 Try.sizeOf39 rfl rfl (by first | rfl | exact Rd.one ((Hd12).row_rd)) rfl rfl) ?_
    rintro _ w13 H13
    have hS13n := Holds.kp (H13.f9.f9.f9.f9.f9.f9.f9.f9.f9)
    refine keepX hS13n (by kernel_rfl) ?_
    refine wd_done (by kernel_rfl) ?_
    refine wq_block_normal ?_
    refine wq_rnormal ?_
    have X := (H13.f5.right.f6.right.f6.right.f6.right.f6.f2.f6.f4.f6.f6).freezeI.swap.freezeI.swap
    have X2 := Holds.edL_snoc X.f3
    exact (Holds.mk_inv (es := es) (k := k + 1) (by rw [List.map_append, hfs, inv_succ (by omega)]; rfl) X2.swap).deep
  · rintro D14 w14 H14
    have H14d := H14.ed
    try simp only [sep_assoc, emp_sep, sep_emp] at H14d
    have H14m := H14d.mark1
    obtain ⟨u, fs, hfs, hfl, HI⟩ := (H14m.f4).inv_open
    refine wq_block_normal ?_
    refine wq_seq ?_
    refine wc_seq ?_
    refine wc_region ?_
    refine wl_val (r_load (plain_of Try.underlying39 rfl) rfl (cell_of_blk (HI).get.2 rfl)) (ltn rfl) ?_
    refine wl_val (r_assign rfl) (ltn rfl) ?_
    refine wl_nil ?_
    refine wq_seq ?_
    refine wc_ret ?_
    refine wq_endM (.inl rfl) (HI.f4) (fun w15 H15 => ?_)
    refine ⟨_, res1 Try.results56 rfl, ?_⟩
    rw [List.take_of_length_le (by simp)] at hfs
    exact ⟨_, hfs, H15.right.f3.right.f3.f3.f3⟩
  · rintro D w H; exact absurd H.swap.fact.1 id
  · rintro id D w H; exact absurd H.swap.fact.1 fun h => h
end
end Go.Proofs.Ytaabgcfeghcmnaa
