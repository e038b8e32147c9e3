import Derived.Test.YtgmpclifphbjkaaGreatDoorZ11
/- Texts of mine, joined: UList2 UList3 UList4 UList5. -/
section
/- Lists of edits that are taken back: close, inverses, Undo. -/
set_option linter.unusedSimpArgs false
set_option linter.unusedVariables false
namespace Go.Proofs.YtgmpclifphbjkaaGreatDoor
open Go.RowKit
def closeG (G : List (List EdA)) (N : List EdA) : List (List EdA) := if N = [] then G else G ++ [N]
theorem closeG_nil {G : List (List EdA)} {N : List EdA} (h : N = []) : closeG G N = G := by unfold closeG; rw [if_pos h]
theorem closeG_snoc {G : List (List EdA)} {N : List EdA} (h : N ≠ []) : closeG G N = G ++ [N] := by unfold closeG; rw [if_neg h]
theorem uTot_close {G : List (List EdA)} {N : List EdA} : uTot (closeG G N) [] = uTot G N := by
  unfold closeG; split
  · rename_i h; rw [h]
  · simp [uTot]
section
variable {w0 w : World} {F : HP} {p : Nat} {G : List (List EdA)} {N : List EdA} {op : Int} {gv nv v : Value} {gs : List (Value × List BEd)} {now es : List BEd} {a : Int} {d z : Value} {dl il : List Int}
theorem undo_close_ret (H : Holds w0 w (UList p G N op • F)) : Ret Tryz.prog 128 #[.pointer (some ⟨p, 0, none⟩)] w fun _ w' => Holds w0 w' (UList p (closeG G N) [] 0 • F) := by
  refine ret_enter Tryz.func128 rfl Tryz.ntmps128 (Nat.le_of_ble_eq_true rfl) ?_
  dsimp only [slots0, Nat.reduceAdd]
  refine wc_seq ?_
  refine wc_seq ?_
  obtain ⟨gv_p, nv_p, gs_p, now_p, k1_p, k2_p, k3_p, k4_p, k5_p, k6_p, HU_p⟩ := (H).ulist
  refine wc_region ?_
  refine wl_val (r_move rfl) (ltn rfl) ?_
  refine wl_val (r_nil rfl) (ltn rfl) ?_
  refine wl_val (r_fieldA 0 Tryz.underlying171 rfl rfl Tryz.sizeOf169 (by decide) rfl (by first | exact Nat.zero_add _ | rfl)) (ltn rfl) ?_
  refine wl_val (r_fieldA 1 Tryz.underlying169 rfl rfl Tryz.sizeOf64 (by decide) rfl (by first | exact Nat.zero_add _ | rfl)) (ltn rfl) ?_
  refine wl_val (r_load (plain_of Tryz.underlying64 rfl) rfl (cell_of_blk (HU_p).get.2 rfl)) (ltn rfl) ?_
  refine wl_val (r_lenS ((HU_p.f4).row_rd) Tryz.underlying64 rfl) (ltn rfl) ?_
  refine wl_val (r_gtr rfl rfl) (ltn rfl) ?_
  refine wl_nil ?_
  refine wq_seq ?_
  refine wc_cond rfl (fun h1 => ?_) (fun h1 => ?_)
  · (try simp only [cmpS] at h1)
    have hnow : 0 < now_p.length := by omega
    have H1d1 := HU_p.drew
    have hS1d1 := Holds.kp (H1d1.f5.f5.f5.f5.f5)
    refine wd_beginK [5, 10] hS1d1 (by kernel_rfl) (by kernel_rfl) rfl ?_
    refine wd_takeT 0 rfl (by kernel_rfl) (by kernel_rfl) hS1d1 (fun _ => r_move rfl) (ltn rfl) ?_
    refine wd_takeT 1 rfl (by kernel_rfl) (by kernel_rfl) hS1d1 (fun _ => r_move rfl) (ltn rfl) ?_
    refine wd_takeT 2 rfl (by kernel_rfl) (by kernel_rfl) hS1d1 (fun _ => r_nil rfl) (ltn rfl) ?_
    refine wd_takeT 3 rfl (by kernel_rfl) (by kernel_rfl) hS1d1 (fun _ => r_fieldA 0 Tryz.underlying171 rfl rfl Tryz.sizeOf169 (by decide) rfl (by first | exact Nat.zero_add _ | rfl)) (ltn rfl) ?_
    refine wd_takeT 4 rfl (by kernel_rfl) (by kernel_rfl) hS1d1 (fun _ => r_fieldA 0 Tryz.underlying169 rfl rfl Tryz.sizeOf167 (by decide) rfl (by first | exact Nat.zero_add _ | rfl)) (ltn rfl) ?_
    refine wd_take 5 rfl (by kernel_rfl) (by kernel_rfl) hS1d1 (by decide) (fun W hW => r_load (plain_of Tryz.underlying167 rfl) rfl (cell_of_blk ((Kp.h hW)).get.2 rfl)) (ltn rfl) ?_
    refine wd_takeT 6 rfl (by kernel_rfl) (by kernel_rfl) hS1d1 (fun _ => r_move rfl) (ltn rfl) ?_
    refine wd_takeT 7 rfl (by kernel_rfl) (by kernel_rfl) hS1d1 (fun _ => r_nil rfl) (ltn rfl) ?_
    refine wd_takeT 8 rfl (by kernel_rfl) (by kernel_rfl) hS1d1 (fun _ => r_fieldA 0 Tryz.underlying171 rfl rfl Tryz.sizeOf169 (by decide) rfl (by first | exact Nat.zero_add _ | rfl)) (ltn rfl) ?_
    refine wd_takeT 9 rfl (by kernel_rfl) (by kernel_rfl) hS1d1 (fun _ => r_fieldA 1 Tryz.underlying169 rfl rfl Tryz.sizeOf64 (by decide) rfl (by first | exact Nat.zero_add _ | rfl)) (ltn rfl) ?_
    refine wd_take 10 rfl (by kernel_rfl) (by kernel_rfl) hS1d1 (by decide) (fun W hW => r_load (plain_of Tryz.underlying64 rfl) rfl (cell_of_blk ((Kp.h hW)).get.2 rfl)) (ltn rfl) ?_
    refine wd_eff 11 rfl (by kernel_rfl) (e_lit_row (vs := [_]) H1d1 Tryz.underlying167 Tryz.sizeOf64 Tryz.zeroValue64 rfl rfl rfl (by decide) (ones_cons (by first | rfl | exact Rd.one ((H1d1.f4).row_rd)) ones_nil)) (ltn rfl) ?_
    rintro l2 w2 H2
    have hS2n := Holds.kp (H2.f6.f6.f6.f6.f6.f6)
    refine keepK hS2n (fun W hW => (Kp.h hW).right.f5.f5.f5.f5.f5) ?_
    refine wd_eff 12 rfl (by kernel_rfl) (e_append H2.f3 Tryz.underlying167 (show (Tryz.prog.info? 64).map (fun i => (i.zero, i.size, i.bytes)) = some (some (.slice none 0 0), 1, 24) by kernel_rfl) rfl rfl rfl ((H2).row_rd) (ones_cons (by first | rfl | exact Rd.one ((H2.f5).row_rd)) ones_nil) (by omega) (by omega)) (ltn rfl) ?_
    rintro l3 w3 H3
    have Hd4 := H3.f2.right
    have hS4n := Holds.kp (Hd4.f5.f5.f5.f5.f5)
    refine keepX hS4n (by kernel_rfl) ?_
    refine wd_takeT 13 rfl (by kernel_rfl) (by kernel_rfl) hS4n (fun _ => r_nil rfl) (ltn rfl) ?_
    refine wd_takeT 14 rfl (by kernel_rfl) (by kernel_rfl) hS4n (fun _ => r_fieldA 0 Tryz.underlying171 rfl rfl Tryz.sizeOf169 (by decide) rfl (by first | exact Nat.zero_add _ | rfl)) (ltn rfl) ?_
    refine wd_takeT 15 rfl (by kernel_rfl) (by kernel_rfl) hS4n (fun _ => r_fieldA 0 Tryz.underlying169 rfl rfl Tryz.sizeOf167 (by decide) rfl (by first | exact Nat.zero_add _ | rfl)) (ltn rfl) ?_
    refine wd_eff0 16 rfl (by kernel_rfl) (e_storeL 0 (l' := [_, _, _, _, _]) Hd4.f2 Tryz.sizeOf167 rfl rfl (by first | rfl | exact Rd.one ((Hd4).row_rd)) rfl rfl) ?_
    rintro _ w5 H5
    have hS5n := Holds.kp (H5.f5.f5.f5.f5.f5)
    refine keepX hS5n (by kernel_rfl) ?_
    refine wd_done (by kernel_rfl) ?_
    refine wq_seq ?_
    refine wc_region ?_
    refine wl_val (r_move rfl) (ltn rfl) ?_
    refine wl_val (r_move rfl) (ltn rfl) ?_
    refine wl_val (r_nil rfl) (ltn rfl) ?_
    refine wl_val (r_fieldA 0 Tryz.underlying171 rfl rfl Tryz.sizeOf169 (by decide) rfl (by first | exact Nat.zero_add _ | rfl)) (ltn rfl) ?_
    refine wl_val (r_fieldA 1 Tryz.underlying169 rfl rfl Tryz.sizeOf64 (by decide) rfl (by first | exact Nat.zero_add _ | rfl)) (ltn rfl) ?_
    refine wl_eff0 (e_storeL 1 (l' := [_, _, _, _, _]) H5 Tryz.sizeOf64 rfl rfl (by first | rfl | assumption) rfl rfl) ?_
    rintro _ w6 H6
    refine wl_val (r_nil rfl) (ltn rfl) ?_
    refine wl_val (r_fieldA 0 Tryz.underlying171 rfl rfl Tryz.sizeOf169 (by decide) rfl (by first | exact Nat.zero_add _ | rfl)) (ltn rfl) ?_
    refine wl_val (r_fieldA 2 Tryz.underlying169 rfl rfl Tryz.sizeOf3 (by decide) rfl (by first | exact Nat.zero_add _ | rfl)) (ltn rfl) ?_
    refine wl_eff0 (e_storeL 2 (l' := [_, _, _, _, _]) H6 Tryz.sizeOf3 rfl rfl (by first | rfl | assumption) rfl rfl) ?_
    rintro _ w7 H7
    refine wl_nil ?_
    refine wq_end0 (.inr rfl) Tryz.results128 ?_
    have hN : N ≠ [] := by rintro rfl; exact absurd k5_p (by simp only [List.length_nil]; omega)
    rw [closeG_snoc hN]
    have X := Holds.edL_freeze (v := nv_p) (es := now_p) (H7.f3.f3.f5.f5).deep
    have X4 := Holds.edLL_snoc X.swap
    refine Holds.mk_ulist (gv := l3) (nv := .slice none 0 0) (gs := gs_p ++ [(nv_p, now_p)]) (now := []) (ed := (uTot G N : Nat)) ⟨nn_snoc k1_p.1 hN, by rw [← closeG_snoc hN, uTot_close]; exact k1_p.2.1, by decide, by decide, EBs_snoc k1_p.2.2.2.2.1 k1_p.2.2.2.2.2, by simp⟩ (by rw [List.map_append, k2_p, ← k3_p]; rfl) rfl (by rw [← closeG_snoc hN, uTot_close]) ((X4.edL_nil none).of_eq (by ac_rfl))
  · (try simp only [cmpS] at h1)
    have hnow : now_p.length = 0 := by omega
    refine wc_skip ?_
    refine wq_seq ?_
    refine wc_region ?_
    refine wl_val (r_move rfl) (ltn rfl) ?_
    refine wl_val (r_move rfl) (ltn rfl) ?_
    refine wl_val (r_nil rfl) (ltn rfl) ?_
    refine wl_val (r_fieldA 0 Tryz.underlying171 rfl rfl Tryz.sizeOf169 (by decide) rfl (by first | exact Nat.zero_add _ | rfl)) (ltn rfl) ?_
    refine wl_val (r_fieldA 1 Tryz.underlying169 rfl rfl Tryz.sizeOf64 (by decide) rfl (by first | exact Nat.zero_add _ | rfl)) (ltn rfl) ?_
    refine wl_eff0 (e_storeL 1 (l' := [_, _, _, _, _]) HU_p Tryz.sizeOf64 rfl rfl (by first | rfl | assumption) rfl rfl) ?_
    rintro _ w8 H8
    refine wl_val (r_nil rfl) (ltn rfl) ?_
    refine wl_val (r_fieldA 0 Tryz.underlying171 rfl rfl Tryz.sizeOf169 (by decide) rfl (by first | exact Nat.zero_add _ | rfl)) (ltn rfl) ?_
    refine wl_val (r_fieldA 2 Tryz.underlying169 rfl rfl Tryz.sizeOf3 (by decide) rfl (by first | exact Nat.zero_add _ | rfl)) (ltn rfl) ?_
    refine wl_eff0 (e_storeL 2 (l' := [_, _, _, _, _]) H8 Tryz.sizeOf3 rfl rfl (by first | rfl | assumption) rfl rfl) ?_
    rintro _ w9 H9
    refine wl_nil ?_
    refine wq_end0 (.inr rfl) Tryz.results128 ?_
    have hN : N = [] := by rw [← k3_p, List.eq_nil_of_length_eq_zero hnow]; rfl
    subst hN
    rw [closeG_nil rfl]
    refine Holds.mk_ulist (gv := gv_p) (nv := .slice none 0 0) (gs := gs_p) (now := []) (ed := (uTot G [] : Nat)) ⟨k1_p.1, k1_p.2.1, by decide, by decide, k1_p.2.2.2.2⟩ k2_p rfl rfl (((H9.f4.right.f4.right.f3.f3).edL_nil none).of_eq (by unfold EdLL; ac_rfl))
theorem Holds.elK_dup (H : Holds w0 w (elK v es • F)) : Holds w0 w (elK v es • elK v es • F) := H.dup_know
theorem back_iter (b : Nat) : Iter Tryz.prog w0 (.func (.func 196) #[] #[.pointer (some ⟨b, 0, none⟩)]) (blk b (.cells #[v] 64 (0, 0)) • elK v es) es.length
    (fun k vs A => vs = [.int .i64 ((es.length - (k + 1) : Nat) : Int), .agg (es.getD (es.length - (k + 1)) default).enc.toArray] ∧ A = elK v es) := by
  intro l J X w hy H
  refine ⟨196, [], [.pointer (some ⟨b, 0, none⟩)], _, _, rfl, Tryz.func196, rfl, rfl, ?_⟩
  have H1 : Holds w0 w (blk b (.cells #[v] 64 (0, 0)) • elK v es • J 0) := H.of_eq (by ac_rfl)
  obtain ⟨a, c, hv, hc1, hc2, _⟩ := (H1.swap.elK_rd).form
  subst hv
  simp only [List.nil_append, List.cons_append]
  refine ret_enter Tryz.func196 rfl Tryz.ntmps196 (Nat.le_of_ble_eq_true rfl) ?_
  dsimp only [slots0, Nat.reduceAdd]
  refine wc_seq ?_
  refine wc_region ?_
  refine wl_val (r_load (plain_of Tryz.underlying64 rfl) rfl (cell_of_blk (H1).get.2 rfl)) (ltn rfl) ?_
  refine wl_val (r_lenS ((H1.f2).elK_rd) Tryz.underlying64 rfl) (ltn rfl) ?_
  refine wl_val (r_sub rfl rfl (by omega)) (ltn rfl) ?_
  refine wl_val (r_assign rfl) (ltn rfl) ?_
  refine wl_nil ?_
  refine wq_seq ?_
  refine wc_block ?_
  refine wc_loop [(0, _), (1, _)] (fun (k : Nat) => [(3, .int .i64 ((k : Int) - 1))]) (fun (k : Nat) W => k ≤ es.length ∧ Holds w0 W (blk b (.cells #[.slice a es.length c] 64 (0, 0)) • elK (.slice a es.length c) es • J (es.length - k))) (fun (k : Nat) => k) (es.length) (Sub.cons rfl (Sub.cons rfl (Sub.nil _))) (Sub.cons rfl (Sub.nil _)) ⟨by omega, by rw [Nat.sub_self]; exact H1⟩ ?_
  rintro k w1 ⟨hk, HL⟩
  dsimp only [List.cons_append, List.nil_append]
  refine wc_seq ?_
  refine wc_seq ?_
  refine wc_region ?_
  refine wl_val (r_move rfl) (ltn rfl) ?_
  refine wl_val (r_geq rfl rfl) (ltn rfl) ?_
  refine wl_nil ?_
  refine wq_seq ?_
  refine wc_cond rfl (fun h1 => ?_) (fun h1 => ?_)
  · (try simp only [cmpS] at h1)
    try (exfalso; first | contradiction | omega)
    all_goals
      
      refine wc_skip ?_
      refine wq_seq ?_
      refine wc_seq ?_
      refine wc_block ?_
      refine wc_seq ?_
      obtain ⟨m, rfl⟩ : ∃ m, k = m + 1 := ⟨k - 1, by omega⟩
      rw [show (((m + 1 : Nat) : Int) - 1) = (m : Int) from by omega]
      refine wc_region ?_
      refine wl_val (r_move rfl) (ltn rfl) ?_
      refine wl_val (r_move rfl) (ltn rfl) ?_
      refine wl_val (r_load (plain_of Tryz.underlying64 rfl) rfl (cell_of_blk (HL).get.2 rfl)) (ltn rfl) ?_
      refine wl_val (r_move rfl) (ltn rfl) ?_
      obtain ⟨bv, ov, cv, ev⟩ := Rd.posV ((HL.f2).elK_rd) (by omega)
      cases ev
      refine wl_val (r_index Tryz.underlying64 Tryz.sizeOf120 rfl rfl (by omega)) (ltn rfl) ?_
      refine wl_val (r_load_elem (ys := [_, _, _]) ((HL.f2).elK_rd) (by omega) Tryz.underlying120 rfl Tryz.sizeOf120 rfl (flat_elem BEd.enc_len (by omega) default) rfl) (ltn rfl) ?_
      refine wl_eff (e_yield rfl rfl (hy (es.length - (m + 1)) (by omega) _ _ ⟨by rw [show es.length - (es.length - (m + 1) + 1) = m from by omega]; rfl, rfl⟩ (elK (.slice (some ⟨bv, ov, none⟩) es.length c) es • blk b (.cells #[.slice (some ⟨bv, ov, none⟩) es.length c] 64 (0, 0))) _ (HL.swap.elK_dup.of_eq (by ac_rfl))).bool) (ltn rfl) ?_
      rintro _ w2 ⟨t, rfl, ht1, ht2⟩
      refine wl_val (r_not rfl) (ltn rfl) ?_
      refine wl_nil ?_
      refine wq_seq ?_
      refine wc_cond rfl (fun h2 => ?_) (fun h2 => ?_)
      · (try simp only [cmpS] at h2)
        try (exfalso; first | contradiction | omega)
        all_goals
          have HX := ht2 (by simpa using h2)
          refine wc_ret ?_
          refine wq_block_ret ?_
          refine wq_then_ret ?_
          refine wq_then_ret ?_
          refine wq_block_ret ?_
          refine wq_end0 (.inl rfl) Tryz.results196 ?_
          exact .inr (HX.of_eq (by ac_rfl))
      · (try simp only [cmpS] at h2)
        try (exfalso; first | contradiction | omega)
        all_goals
          have HN : Holds w0 w2 (blk b (.cells #[.slice (some ⟨bv, ov, none⟩) es.length c] 64 (0, 0)) • elK (.slice (some ⟨bv, ov, none⟩) es.length c) es • J (es.length - m)) := by
            have h9 := ht1 (by simpa using h2)
            rw [show es.length - (m + 1) + 1 = es.length - m from by omega] at h9
            exact h9.of_eq (by ac_rfl)
          refine wc_skip ?_
          refine wq_block_normal ?_
          refine wq_seq ?_
          refine wc_region ?_
          refine wl_val (r_move rfl) (ltn rfl) ?_
          refine wl_val (r_sub rfl rfl (by omega)) (ltn rfl) ?_
          refine wl_val (r_assign rfl) (ltn rfl) ?_
          refine wl_nil ?_
          refine wq_round (m) ?_ ?_ ?_ ?_
          · exact (Sub.cons rfl (Sub.nil _))
          · exact (Sub.cons rfl (Sub.cons rfl (Sub.nil _)))
          · (try dsimp only)
            first | done | exact ⟨by omega, HN.f2.f2⟩
          · (try dsimp only); omega
  · (try simp only [cmpS] at h1)
    try (exfalso; first | contradiction | omega)
    all_goals
      
      refine wc_exit ?_
      refine wq_then_exit ?_
      refine wq_then_exit ?_
      refine wq_block_hit ?_
      refine wq_end0 (.inr rfl) Tryz.results196 ?_
      obtain rfl : k = 0 := by omega
      rw [Nat.sub_zero] at HL
      exact .inl (HL.of_eq (by ac_rfl))
end
end Go.Proofs.YtgmpclifphbjkaaGreatDoor
end
section
/- Lists of edits that are taken back: inverses, Undo. -/
set_option linter.unusedSimpArgs false
set_option linter.unusedVariables false
namespace Go.Proofs.YtgmpclifphbjkaaGreatDoor
open Go.RowKit
def invA (e : EdA) : EdA := (e.1, e.2.2, e.2.1)
def invHP (c : Nat) (es : List BEd) (k : Nat) : HP := exHP fun (x : Value × List BEd) => fact (x.2.map BEd.says = ((es.map BEd.says).reverse.take k).map invA) • blk c (.cells #[x.1] 64 (0, 0)) • EdL x.1 x.2
theorem inv_succ {es : List BEd} {k : Nat} (hk : k < es.length) : ((es.map BEd.says).reverse.take (k + 1)).map invA = ((es.map BEd.says).reverse.take k).map invA ++ [invA (es.getD (es.length - (k + 1)) default).says] := by
  rw [List.take_succ_eq_append_getElem (by simpa using hk), List.map_append]
  congr 1
  simp only [List.map_cons, List.map_nil, List.getElem_reverse, List.getElem_map, List.length_map]
  rw [List.getD_eq_getElem?_getD, List.getElem?_eq_getElem (by omega)]
  have e : es.length - 1 - k = es.length - (k + 1) := by omega
  simp only [Option.getD_some, e]
section
variable {w0 w : World} {F : HP} {p : Nat} {G : List (List EdA)} {N : List EdA} {op : Int} {gv nv v : Value} {gs : List (Value × List BEd)} {now es : List BEd} {a : Int} {d z : Value} {dl il : List Int}
theorem Holds.inv_open {c k : Nat} (H : Holds w0 w (invHP c es k • F)) : ∃ u fs, fs.map BEd.says = ((es.map BEd.says).reverse.take k).map invA ∧ fs.length ≤ es.length ∧ Holds w0 w (blk c (.cells #[u] 64 (0, 0)) • Row 120 3 u fs.length (fs.flatMap BEd.enc) • edsK fs • F) := by
  obtain ⟨⟨u, fs⟩, H⟩ := H.ex_sep
  obtain ⟨h, H⟩ := H.flat.fact
  refine ⟨u, fs, h, ?_, ?_⟩
  · have := congrArg List.length h
    simp at this
    omega
  · have := H.flat
    unfold EdL at this
    exact this.of_eq (by ac_rfl)
theorem Holds.mk_inv {c k : Nat} {u : Value} {fs : List BEd} (h : fs.map BEd.says = ((es.map BEd.says).reverse.take k).map invA) (H : Holds w0 w (blk c (.cells #[u] 64 (0, 0)) • EdL u fs • F)) : Holds w0 w (invHP c es k • F) :=
  Holds.mk_ex_sep (u, fs) (Holds.deep (Holds.mk_fact h H.deep))
theorem Holds.elK_at (H : Holds w0 w (elK v es • F)) {k : Nat} (hk : k < es.length) : Holds w0 w (immI .i32 (es.getD k default).d (es.getD k default).dl • immI .i32 (es.getD k default).i (es.getD k default).il • elK v es • F) := by
  have h1 : Holds w0 w (immI .i32 (es.getD k default).d (es.getD k default).dl • elK v es • elK v es • F) := H.elK_dup.elK_dup.ent (know_ent (fun I h => (h.2 k hk).1) _)
  have h2 : Holds w0 w (immI .i32 (es.getD k default).i (es.getD k default).il • immI .i32 (es.getD k default).d (es.getD k default).dl • elK v es • F) := h1.swap.ent (know_ent (fun I h => (h.2 k hk).2) _)
  exact h2.swap
theorem back_ret (H : Holds w0 w F) (hv : v.oneCell' = true) : Ret Tryz.prog 172 #[v] w fun v' w' => ∃ b, v' = .func (.func 196) #[] #[.pointer (some ⟨b, 0, none⟩)] ∧ Holds w0 w' (blk b (.cells #[v] 64 (0, 0)) • F) := by
  refine ret_enter Tryz.func172 rfl Tryz.ntmps172 (Nat.le_of_ble_eq_true rfl) ?_
  dsimp only [slots0, Nat.reduceAdd]
  refine wc_seq ?_
  refine wc_region ?_
  refine wl_eff (e_boxL (l := [_]) H rfl (by first | rfl | exact one_cells (by first | rfl | assumption))) (ltn rfl) ?_
  rintro _ w1 ⟨b1, rfl, H1⟩
  refine wl_val (r_assign rfl) (ltn rfl) ?_
  refine wl_nil ?_
  refine wq_seq ?_
  refine wc_seq ?_
  refine wc_region ?_
  refine wl_val (r_makeFunc rfl rfl) (ltn rfl) ?_
  refine wl_val (r_assign rfl) (ltn rfl) ?_
  refine wl_nil ?_
  refine wq_seq ?_
  refine wc_ret ?_
  refine wq_end1 (.inl rfl) Tryz.results172 rfl ?_
  exact ⟨_, rfl, H1⟩
theorem undo_inverses_ret (H : Holds w0 w (elK v es • F)) (hB : ∀ k, k < es.length → EB (es.getD k default).says) (hL : es.length ≤ 16384) :
    Ret Tryz.prog 129 #[v] w fun v' w' => ∃ fs : List BEd, fs.map BEd.says = (es.map BEd.says).reverse.map invA ∧ Holds w0 w' (Row 120 3 v' fs.length (fs.flatMap BEd.enc) • edsK fs • elK v es • F) := by
  refine ret_enter Tryz.func129 rfl Tryz.ntmps129 (Nat.le_of_ble_eq_true rfl) ?_
  dsimp only [slots0, Nat.reduceAdd]
  refine wc_seq ?_
  refine wc_region ?_
  refine wl_val (r_assign rfl) (ltn rfl) ?_
  refine wl_nil ?_
  refine wq_seq ?_
  refine wc_seq ?_
  refine wc_region ?_
  refine wl_eff (e_allocL (l := [_]) H Tryz.zeroValue64 rfl) (ltn rfl) ?_
  rintro _ w1 ⟨b1, rfl, H1⟩
  refine wl_nil ?_
  refine wq_seq ?_
  refine wc_seq ?_
  refine wc_seq ?_
  refine wc_region ?_
  refine wl_val (r_move rfl) (ltn rfl) ?_
  refine wl_eff (e_call (r_call rfl Tryz.func172 rfl rfl) (back_ret H1 (Rd.one ((H1.f2).elK_rd)))) (ltn rfl) ?_
  rintro _ w2 ⟨bB2, rfl, H2⟩
  refine wl_nil ?_
  refine wq_seq ?_
  refine wc_block ?_
  have Ho3 := H2.f2
  have Hc4 := Holds.mk_inv (es := es) (k := 0) (fs := []) rfl (Ho3.edL_nil none).swap
  refine wc_rangeFunc rfl (back_iter bB2) (fun k => invHP b1 es k • F) (fact False) (fun _ => fact False) (Hc4.f3.f3.f3.f3.f3.g2.comm) (by rfl) ?_ ?_ ?_ ?_
  · rintro l5 k hkR0 vs5 A5 ⟨rfl, rfl⟩ G5 w5 H5
    try simp only [sep_assoc, emp_sep, sep_emp] at H5
    refine ⟨rfl, ?_⟩
    dsimp only [zipL]
    have Hq := (H5).elK_at (k := es.length - (k + 1)) (by omega)
    obtain ⟨hb1, hb2⟩ := hB (es.length - (k + 1)) (by omega)
    have hb1 : (es.getD (es.length - (k + 1)) default).dl.length ≤ 35184372087808 := hb1
    have hb2 : (es.getD (es.length - (k + 1)) default).il.length ≤ 35184372087808 := hb2
    obtain ⟨u, fs, hfs, hfl, HI⟩ := (Hq.f4).inv_open
    refine wc_region ?_
    refine wl_eff (e_allocL (l := [_, _, _]) HI Tryz.zeroValue120 rfl) (ltn rfl) ?_
    rintro _ w6 ⟨b6, rfl, H6⟩
    refine wl_eff0 (e_storePL 0 (l' := [_, _, _]) (us := [_, _, _]) H6 Tryz.sizeOf120 rfl rfl rfl (ones_cons (by first | rfl | assumption) (ones_cons (by first | rfl | exact Rd.one ((H6.f5).imm_rd)) (ones_cons (by first | rfl | exact Rd.one ((H6.f6).imm_rd)) ones_nil))) rfl rfl) ?_
    rintro _ w7 H7
    refine wl_nil ?_
    refine wq_mid (H7.g8) ?_
    intro G8 w8 H8
    try simp only [sep_assoc] at H8
    refine wc_block ?_
    have H4d8 := H8.drew
    have hS4d8 := Holds.kp (H4d8.f7.f7.f7.f7.f7.f7.f7)
    refine wd_beginK [0, 1] hS4d8 (by kernel_rfl) (by kernel_rfl) rfl ?_
    refine wd_take 0 rfl (by kernel_rfl) (by kernel_rfl) hS4d8 (by decide) (fun W hW => r_load (plain_of Tryz.underlying64 rfl) rfl (cell_of_blk ((Kp.h hW).f2).get.2 rfl)) (ltn rfl) ?_
    refine wd_take 1 rfl (by kernel_rfl) (by kernel_rfl) hS4d8 (by decide) (fun W hW => r_load_whole Tryz.underlying120 rfl Tryz.sizeOf120 rfl rfl ((Kp.h hW)).get.2) (ltn rfl) ?_
    refine wd_eff 2 rfl (by kernel_rfl) (e_call (r_call rfl Tryz.func173 rfl rfl) (undo_inverse_ret H4d8 (fun W HW => (HW.f5).imm_rd) (fun W HW => (HW.f6).imm_rd) (by omega) (by omega))) (ltn rfl) ?_
    rintro _ w9 ⟨d9, s9, rfl, H9⟩
    have hS9n := Holds.kp (H9.f9.f9.f9.f9.f9.f9.f9.f9.f9)
    refine keepK hS9n (fun W hW => (Kp.h hW).right.right.f7.f7.f7.f7.f7.f7.f7) ?_
    refine wd_eff 3 rfl (by kernel_rfl) (e_lit_one H9 Tryz.underlying64 Tryz.sizeOf120 Tryz.zeroValue120 rfl rfl rfl (by decide) (by decide)) (ltn rfl) ?_
    rintro l10 w10 H10
    have hS10n := Holds.kp (H10.f10.f10.f10.f10.f10.f10.f10.f10.f10.f10)
    refine keepK hS10n (fun W hW => (Kp.h hW).right.f9.f9.f9.f9.f9.f9.f9.f9.f9) ?_
    refine wd_eff 4 rfl (by kernel_rfl) (e_append H10.f6 Tryz.underlying64 (show (Tryz.prog.info? 120).map (fun i => (i.zero, i.size, i.bytes)) = some (some (.agg #[.int .i64 0, .slice none 0 0, .slice none 0 0]), 3, 56) by kernel_rfl) rfl rfl rfl ((H10).row_rd) (ones_cons (by first | rfl | assumption) (ones_cons (by first | rfl | exact Rd.one ((H10.f2).row_rd)) (ones_cons (by first | rfl | exact Rd.one ((H10.f3).row_rd)) ones_nil))) (by omega) (by omega)) (ltn rfl) ?_
    rintro l11 w11 H11
    have Hd12 := H11.f2.right
    have hS12n := Holds.kp (Hd12.f9.f9.f9.f9.f9.f9.f9.f9.f9)
    refine keepX hS12n (by kernel_rfl) ?_
    refine wd_eff0 5 rfl (by kernel_rfl) (e_storeL 0 (l' := [_]) Hd12.f5 Tryz.sizeOf64 rfl rfl (by first | rfl | exact Rd.one ((Hd12).row_rd)) rfl rfl) ?_
    rintro _ w13 H13
    have hS13n := Holds.kp (H13.f9.f9.f9.f9.f9.f9.f9.f9.f9)
    refine keepX hS13n (by kernel_rfl) ?_
    refine wd_done (by kernel_rfl) ?_
    refine wq_block_normal ?_
    refine wq_rnormal ?_
    have X := (H13.f5.right.f6.right.f6.right.f6.right.f6.f2.f6.f4.f6.f6).freezeI.swap.freezeI.swap
    have X2 := Holds.edL_snoc X.f3
    exact (Holds.mk_inv (es := es) (k := k + 1) (by rw [List.map_append, hfs, inv_succ (by omega)]; rfl) X2.swap).deep
  · rintro D14 w14 H14
    have H14d := H14.ed
    try simp only [sep_assoc, emp_sep, sep_emp] at H14d
    have H14m := H14d.mark1
    obtain ⟨u, fs, hfs, hfl, HI⟩ := (H14m.f4).inv_open
    refine wq_block_normal ?_
    refine wq_seq ?_
    refine wc_seq ?_
    refine wc_region ?_
    refine wl_val (r_load (plain_of Tryz.underlying64 rfl) rfl (cell_of_blk (HI).get.2 rfl)) (ltn rfl) ?_
    refine wl_val (r_assign rfl) (ltn rfl) ?_
    refine wl_nil ?_
    refine wq_seq ?_
    refine wc_ret ?_
    refine wq_endM (.inl rfl) (HI.f4) (fun w15 H15 => ?_)
    refine ⟨_, res1 Tryz.results129 rfl, ?_⟩
    rw [List.take_of_length_le (by simp)] at hfs
    exact ⟨_, hfs, H15.right.f3.right.f3.f3.f3⟩
  · rintro D w H; exact absurd H.swap.fact.1 id
  · rintro id D w H; exact absurd H.swap.fact.1 fun h => h
end
end Go.Proofs.YtgmpclifphbjkaaGreatDoor
end
section
/- Lists of edits that are taken back: Undo. -/
set_option linter.unusedSimpArgs false
set_option linter.unusedVariables false
namespace Go.Proofs.YtgmpclifphbjkaaGreatDoor
open Go.RowKit
def undoE (G : List (List EdA)) (N : List EdA) : Int := if G.length + N.length = 0 then 6 else 0
def undoG (G : List (List EdA)) (N : List EdA) : List (List EdA) := if G.length + N.length = 0 then G else (closeG G N).dropLast
def undoN (G : List (List EdA)) (N : List EdA) : List EdA := if G.length + N.length = 0 then N else []
def undoO (G : List (List EdA)) (N : List EdA) (op : Int) : Int := if G.length + N.length = 0 then op else 0
def undoR (G : List (List EdA)) (N : List EdA) : List EdA := if G.length + N.length = 0 then [] else ((closeG G N).getLastD []).reverse.map invA
theorem uTot_snoc {G : List (List EdA)} {g N : List EdA} : uTot (G ++ [g]) N = uTot G N + g.length := by simp [uTot]; omega
section
variable {w0 w : World} {F : HP} {p : Nat} {G : List (List EdA)} {N : List EdA} {op : Int} {gv nv v : Value} {gs : List (Value × List BEd)} {now es : List BEd} {a : Int} {d z : Value} {dl il : List Int}
theorem closeG_pos (h : ¬ G.length + N.length = 0) : closeG G N ≠ [] := by
  unfold closeG; split
  · rename_i hN; rintro rfl; subst hN; exact h rfl
  · simp
/-- The last group of a list in which nothing is open. -/
theorem Holds.ulist_last (H : Holds w0 w (UList p G [] op • F)) (hG : G ≠ []) : ∃ gv nv hs gl ges, G = hs.map (fun g => g.2.map BEd.says) ++ [ges.map BEd.says] ∧ UOk G [] op ∧ G.length = hs.length + 1 ∧ hs.length ≤ 16384 ∧ ges.length ≤ 16384 ∧ (∀ k, k < ges.length → EB (ges.getD k default).says) ∧
    Holds w0 w (blk p (.cells #[gv, nv, .int .i64 op, .int .i64 (uTot G [] : Nat), .bool true] 171 (0, 0)) • Row 64 1 gv (hs.length + 1) (hs.map (·.1) ++ [gl]) • elsK hs • elK gl ges • EdL nv [] • F) := by
  obtain ⟨gv, nv, gs, now, h1, h2, h3, h4, h5, h6, H⟩ := H.ulist
  obtain rfl : now = [] := List.eq_nil_of_length_eq_zero (by simpa using h5)
  rcases List.eq_nil_or_concat gs with rfl | ⟨hs, ⟨gl, ges⟩, rfl⟩
  · exact absurd h2.symm hG
  · have hG2 : G = hs.map (fun g => g.2.map BEd.says) ++ [ges.map BEd.says] := by rw [← h2]; simp
    have hle : ges.length ≤ 16384 := by
      have := h1.2.1
      rw [hG2, uTot_snoc] at this
      simp at this
      omega
    refine ⟨gv, nv, hs, gl, ges, hG2, h1, ?_, ?_, hle, fun k hk => ?_, ?_⟩
    · rw [hG2]; simp
    · rw [hG2] at h6; simp at h6; omega
    · refine h1.2.2.2.2.1 (ges.map BEd.says) (by rw [hG2]; simp) _ ?_
      rw [List.getD_eq_getElem?_getD, List.getElem?_eq_getElem hk]
      exact List.mem_map_of_mem (List.getElem_mem hk)
    · rw [List.concat_eq_append, List.length_append, List.map_append] at H
      have H1 := (H.f3.elsK_get (k := hs.length) (by simp)).swap
      rw [show (hs ++ [(gl, ges)]).getD hs.length default = (gl, ges) from by simp [List.getD_eq_getElem?_getD]] at H1
      have H2 := H1.elsK_cut hs.length
      rw [List.take_left' rfl] at H2
      exact H2.of_eq (by unfold EdL; ac_rfl)
theorem undo_undo_ret (H : Holds w0 w (UList p G N op • F)) : Ret Tryz.prog 58 #[.pointer (some ⟨p, 0, none⟩)] w fun v w' => ∃ u, ∃ fs : List BEd, v = .tuple #[u, .int .i64 (undoE G N)] ∧ fs.map BEd.says = undoR G N ∧
    Holds w0 w' (Row 120 3 u fs.length (fs.flatMap BEd.enc) • edsK fs • UList p (undoG G N) (undoN G N) (undoO G N op) • F) := by
  unfold undoE undoR undoG undoN undoO
  refine ret_enter Tryz.func58 rfl Tryz.ntmps58 (Nat.le_of_ble_eq_true rfl) ?_
  dsimp only [slots0, Nat.reduceAdd]
  refine wc_seq ?_
  refine wc_region ?_
  refine wl_val (r_assign rfl) (ltn rfl) ?_
  refine wl_val (r_assign rfl) (ltn rfl) ?_
  refine wl_nil ?_
  refine wq_seq ?_
  refine wc_seq ?_
  refine wc_seq ?_
  refine wc_region ?_
  refine wl_val (r_move rfl) (ltn rfl) ?_
  refine wl_eff (e_call (r_call rfl Tryz.func127 rfl rfl) (undo_none_ret H)) (ltn rfl) ?_
  rintro _ _ ⟨rfl, rfl⟩
  refine wl_nil ?_
  refine wq_seq ?_
  refine wc_cond_f rfl ?_
  refine wc_skip ?_
  refine wq_seq ?_
  refine wc_seq ?_
  refine wc_seq ?_
  obtain ⟨gv_p, nv_p, gs_p, now_p, k1_p, k2_p, k3_p, k4_p, k5_p, k6_p, HU_p⟩ := (H).ulist
  have H3d2 := HU_p.drew
  have hS3d2 := Holds.kp (H3d2.f5.f5.f5.f5.f5)
  refine wd_beginK [4, 10] hS3d2 (by kernel_rfl) (by kernel_rfl) rfl ?_
  refine wd_takeT 0 rfl (by kernel_rfl) (by kernel_rfl) hS3d2 (fun _ => r_move rfl) (ltn rfl) ?_
  refine wd_takeT 1 rfl (by kernel_rfl) (by kernel_rfl) hS3d2 (fun _ => r_nil rfl) (ltn rfl) ?_
  refine wd_takeT 2 rfl (by kernel_rfl) (by kernel_rfl) hS3d2 (fun _ => r_fieldA 0 Tryz.underlying171 rfl rfl Tryz.sizeOf169 (by decide) rfl (by first | exact Nat.zero_add _ | rfl)) (ltn rfl) ?_
  refine wd_takeT 3 rfl (by kernel_rfl) (by kernel_rfl) hS3d2 (fun _ => r_fieldA 0 Tryz.underlying169 rfl rfl Tryz.sizeOf167 (by decide) rfl (by first | exact Nat.zero_add _ | rfl)) (ltn rfl) ?_
  refine wd_take 4 rfl (by kernel_rfl) (by kernel_rfl) hS3d2 (by decide) (fun W hW => r_load (plain_of Tryz.underlying167 rfl) rfl (cell_of_blk ((Kp.h hW)).get.2 rfl)) (ltn rfl) ?_
  refine wd_takeT 5 rfl (by kernel_rfl) (by kernel_rfl) hS3d2 (fun _ => r_lenS ((H3d2.f2).row_rd) Tryz.underlying167 rfl) (ltn rfl) ?_
  refine wd_takeT 6 rfl (by kernel_rfl) (by kernel_rfl) hS3d2 (fun _ => r_move rfl) (ltn rfl) ?_
  refine wd_takeT 7 rfl (by kernel_rfl) (by kernel_rfl) hS3d2 (fun _ => r_nil rfl) (ltn rfl) ?_
  refine wd_takeT 8 rfl (by kernel_rfl) (by kernel_rfl) hS3d2 (fun _ => r_fieldA 0 Tryz.underlying171 rfl rfl Tryz.sizeOf169 (by decide) rfl (by first | exact Nat.zero_add _ | rfl)) (ltn rfl) ?_
  refine wd_takeT 9 rfl (by kernel_rfl) (by kernel_rfl) hS3d2 (fun _ => r_fieldA 1 Tryz.underlying169 rfl rfl Tryz.sizeOf64 (by decide) rfl (by first | exact Nat.zero_add _ | rfl)) (ltn rfl) ?_
  refine wd_take 10 rfl (by kernel_rfl) (by kernel_rfl) hS3d2 (by decide) (fun W hW => r_load (plain_of Tryz.underlying64 rfl) rfl (cell_of_blk ((Kp.h hW)).get.2 rfl)) (ltn rfl) ?_
  refine wd_takeT 11 rfl (by kernel_rfl) (by kernel_rfl) hS3d2 (fun _ => r_lenS ((H3d2.f4).row_rd) Tryz.underlying64 rfl) (ltn rfl) ?_
  refine wd_takeT 12 rfl (by kernel_rfl) (by kernel_rfl) hS3d2 (fun _ => r_add rfl rfl (by omega)) (ltn rfl) ?_
  refine wd_takeT 13 rfl (by kernel_rfl) (by kernel_rfl) hS3d2 (fun _ => r_eql rfl rfl) (ltn rfl) ?_
  refine wd_done (by kernel_rfl) ?_
  refine wq_seq ?_
  refine wc_cond rfl (fun h1 => ?_) (fun h1 => ?_)
  · (try simp only [cmpS] at h1)
    have hGN : G.length + N.length = 0 := by omega
    have Ho4 := H3d2.f5.f5.f5.f5.f5
    have Hc5 := Holds.mk_ulistF k1_p k2_p k3_p rfl Ho4
    refine wc_seq ?_
    refine wc_region ?_
    refine wl_val (r_assign rfl) (ltn rfl) ?_
    refine wl_val (r_assign rfl) (ltn rfl) ?_
    refine wl_nil ?_
    refine wq_seq ?_
    refine wc_ret ?_
    refine wq_then_ret ?_
    refine wq_end2 (.inl rfl) Tryz.results58 rfl rfl ?_
    simp only [if_pos hGN]
    exact ⟨_, [], rfl, rfl, ((Hc5).edL_nil none).edL⟩
  · (try simp only [cmpS] at h1)
    have hGN : ¬ G.length + N.length = 0 := by omega
    have Ho7 := H3d2.f5.f5.f5.f5.f5
    have Hc8 := Holds.mk_ulistF k1_p k2_p k3_p rfl Ho7
    refine wc_skip ?_
    refine wq_seq ?_
    refine wc_seq ?_
    refine wc_region ?_
    refine wl_val (r_move rfl) (ltn rfl) ?_
    refine wl_eff (e_call (r_call rfl Tryz.func128 rfl rfl) (undo_close_ret Hc8)) (ltn rfl) ?_
    rintro _ w9 H9
    refine wl_nil ?_
    refine wq_seq ?_
    refine wc_seq ?_
    obtain ⟨gv, nv, hs, gl, ges, hG, hok, hl1, hl2, hl3, hEB, HU⟩ := (H9).ulist_last (closeG_pos hGN)
    have htot := hok.2.1
    refine wc_region ?_
    refine wl_val (r_move rfl) (ltn rfl) ?_
    refine wl_val (r_nil rfl) (ltn rfl) ?_
    refine wl_val (r_fieldA 0 Tryz.underlying171 rfl rfl Tryz.sizeOf169 (by decide) rfl (by first | exact Nat.zero_add _ | rfl)) (ltn rfl) ?_
    refine wl_val (r_fieldA 0 Tryz.underlying169 rfl rfl Tryz.sizeOf167 (by decide) rfl (by first | exact Nat.zero_add _ | rfl)) (ltn rfl) ?_
    refine wl_val (r_load (plain_of Tryz.underlying167 rfl) rfl (cell_of_blk (HU).get.2 rfl)) (ltn rfl) ?_
    refine wl_val (r_lenS ((HU.f2).row_rd) Tryz.underlying167 rfl) (ltn rfl) ?_
    refine wl_val (r_sub rfl rfl (by omega)) (ltn rfl) ?_
    refine wl_val (r_assign rfl) (ltn rfl) ?_
    refine wl_nil ?_
    refine wq_seq ?_
    refine wc_seq ?_
    refine wc_region ?_
    refine wl_val (r_move rfl) (ltn rfl) ?_
    refine wl_val (r_nil rfl) (ltn rfl) ?_
    refine wl_val (r_fieldA 0 Tryz.underlying171 rfl rfl Tryz.sizeOf169 (by decide) rfl (by first | exact Nat.zero_add _ | rfl)) (ltn rfl) ?_
    refine wl_val (r_fieldA 0 Tryz.underlying169 rfl rfl Tryz.sizeOf167 (by decide) rfl (by first | exact Nat.zero_add _ | rfl)) (ltn rfl) ?_
    refine wl_val (r_load (plain_of Tryz.underlying167 rfl) rfl (cell_of_blk (HU).get.2 rfl)) (ltn rfl) ?_
    refine wl_val (r_move rfl) (ltn rfl) ?_
    obtain ⟨bgv, ogv, cgv, egv⟩ := Rd.posV ((HU.f2).row_rd) (by omega)
    cases egv
    refine wl_val (r_index Tryz.underlying167 Tryz.sizeOf64 rfl rfl (by omega)) (ltn rfl) ?_
    refine wl_val (r_load (plain_of Tryz.underlying64 rfl) rfl (by first | exact Rd.at1n ((HU.f2).row_rd) (by omega) | exact Rd.at0 ((HU.f2).row_rd) (by omega) | exact Rd.at1 ((HU.f2).row_rd) (by omega))) (ltn rfl) ?_
    rw [show (hs.map (·.1) ++ [gl]).getD ((((hs.length + 1 : Nat)) : Int) - 1).toNat undef = gl from by rw [show ((((hs.length + 1 : Nat)) : Int) - 1).toNat = hs.length from by omega]; simp [List.getD_eq_getElem?_getD]]
    refine wl_val (r_assign rfl) (ltn rfl) ?_
    refine wl_nil ?_
    refine wq_seq ?_
    refine wc_seq ?_
    refine wc_region ?_
    refine wl_val (r_move rfl) (ltn rfl) ?_
    refine wl_val (r_move rfl) (ltn rfl) ?_
    refine wl_val (r_nil rfl) (ltn rfl) ?_
    refine wl_val (r_fieldA 0 Tryz.underlying171 rfl rfl Tryz.sizeOf169 (by decide) rfl (by first | exact Nat.zero_add _ | rfl)) (ltn rfl) ?_
    refine wl_val (r_fieldA 0 Tryz.underlying169 rfl rfl Tryz.sizeOf167 (by decide) rfl (by first | exact Nat.zero_add _ | rfl)) (ltn rfl) ?_
    refine wl_val (r_load (plain_of Tryz.underlying167 rfl) rfl (cell_of_blk (HU).get.2 rfl)) (ltn rfl) ?_
    refine wl_val (r_move rfl) (ltn rfl) ?_
    refine wl_val (r_sliceS ((HU.f2).row_rd) Tryz.underlying167 Tryz.sizeOf64 rfl rfl rfl (by omega)) (ltn rfl) ?_
    refine wl_val (r_nil rfl) (ltn rfl) ?_
    refine wl_val (r_fieldA 0 Tryz.underlying171 rfl rfl Tryz.sizeOf169 (by decide) rfl (by first | exact Nat.zero_add _ | rfl)) (ltn rfl) ?_
    refine wl_val (r_fieldA 0 Tryz.underlying169 rfl rfl Tryz.sizeOf167 (by decide) rfl (by first | exact Nat.zero_add _ | rfl)) (ltn rfl) ?_
    refine wl_eff0 (e_storeL 0 (l' := [_, _, _, _, _]) HU Tryz.sizeOf167 rfl rfl (by first | rfl | exact Rd.one (Rd.upto1 ((HU.f2).row_rd) (by omega))) rfl rfl) ?_
    rintro _ w10 H10
    refine wl_nil ?_
    refine wq_seq ?_
    refine wc_seq ?_
    refine wc_region ?_
    refine wl_val (r_move rfl) (ltn rfl) ?_
    refine wl_val (r_nil rfl) (ltn rfl) ?_
    refine wl_val (r_fieldA 0 Tryz.underlying171 rfl rfl Tryz.sizeOf169 (by decide) rfl (by first | exact Nat.zero_add _ | rfl)) (ltn rfl) ?_
    refine wl_val (r_fieldA 3 Tryz.underlying169 rfl rfl Tryz.sizeOf3 (by decide) rfl (by first | exact Nat.zero_add _ | rfl)) (ltn rfl) ?_
    refine wl_val (r_load (plain_of Tryz.underlying3 rfl) rfl (cell_of_blk (H10).get.2 rfl)) (ltn rfl) ?_
    refine wl_val (r_move rfl) (ltn rfl) ?_
    refine wl_val (r_lenS ((H10.f4).elK_rd) Tryz.underlying64 rfl) (ltn rfl) ?_
    refine wl_val (r_sub rfl rfl (by omega)) (ltn rfl) ?_
    refine wl_val (r_nil rfl) (ltn rfl) ?_
    refine wl_val (r_fieldA 0 Tryz.underlying171 rfl rfl Tryz.sizeOf169 (by decide) rfl (by first | exact Nat.zero_add _ | rfl)) (ltn rfl) ?_
    refine wl_val (r_fieldA 3 Tryz.underlying169 rfl rfl Tryz.sizeOf3 (by decide) rfl (by first | exact Nat.zero_add _ | rfl)) (ltn rfl) ?_
    refine wl_eff0 (e_storeL 3 (l' := [_, _, _, _, _]) H10 Tryz.sizeOf3 rfl rfl (by first | rfl | assumption) rfl rfl) ?_
    rintro _ w11 H11
    refine wl_nil ?_
    refine wq_seq ?_
    refine wc_seq ?_
    refine wc_region ?_
    refine wl_val (r_move rfl) (ltn rfl) ?_
    refine wl_eff (e_call (r_call rfl Tryz.func129 rfl rfl) (undo_inverses_ret H11.f4 hEB hl3)) (ltn rfl) ?_
    rintro u12 w12 ⟨fs12, hfs12, H12⟩
    refine wl_val (r_assign rfl) (ltn rfl) ?_
    refine wl_val (r_assign rfl) (ltn rfl) ?_
    refine wl_nil ?_
    refine wq_seq ?_
    refine wc_ret ?_
    refine wq_end2 (.inl rfl) Tryz.results58 rfl rfl ?_
    simp only [if_neg hGN]
    have hdl : (closeG G N).dropLast = hs.map (fun g => g.2.map BEd.says) := by rw [hG]; simp
    have hlast : (closeG G N).getLastD [] = ges.map BEd.says := by rw [hG]; simp
    have hX := (H12.f3.right.f6.f6.f5.f5.f5.f6).row_cut0 (h := hs.length) (by omega)
    rw [hdl, hlast]
    rw [Nat.mul_one, List.take_left' (by simp), show (((hs.length + 1 : Nat) : Int) - 1).toNat = hs.length from by omega, show Int.toNat 0 = 0 from rfl] at hX
    have hT : uTot (closeG G N) [] = uTot (hs.map (fun g => g.2.map BEd.says)) [] + ges.length := by rw [hG, uTot_snoc, List.length_map]
    have hok2 : UOk (hs.map (fun g => g.2.map BEd.says)) [] 0 := ⟨fun g hg => hok.1 g (by rw [hG]; exact List.mem_append_left _ hg), by omega, by decide, by decide, fun g hg => hok.2.2.2.2.1 g (by rw [hG]; exact List.mem_append_left _ hg), by simp⟩
    refine ⟨_, _, rfl, (by assumption), ?_⟩
    have hU := Holds.mk_ulist (gv := cutV 1 0 hs.length (.slice (some ⟨bgv, ogv, none⟩) (hs.length + 1) cgv)) (nv := nv) (gs := hs) (now := []) (ed := (uTot (closeG G N) [] : Nat) - (ges.length : Int)) (F := Row 120 3 u12 fs12.length (fs12.flatMap BEd.enc) • edsK fs12 • F) hok2 rfl rfl (by omega) (hX.of_eq (by unfold EdLL; ac_rfl))
    exact hU.of_eq (by ac_rfl)
end
end Go.Proofs.YtgmpclifphbjkaaGreatDoor
end
section
/- Lists of edits that are taken back: End; copies. -/
set_option linter.unusedSimpArgs false
set_option linter.unusedVariables false
namespace Go.Proofs.YtgmpclifphbjkaaGreatDoor
open Go.RowKit
def endE (op : Int) : Int := if op = 0 then 1 else 0
def endG (G : List (List EdA)) (N : List EdA) (op : Int) : List (List EdA) := if op = 1 then closeG G N else G
def endN (N : List EdA) (op : Int) : List EdA := if op = 1 then [] else N
def endO (op : Int) : Int := if op = 0 then 0 else op - 1
theorem take_says {es : List BEd} {k : Nat} (hk : k < es.length) : (es.take (k + 1)).map BEd.says = (es.take k).map BEd.says ++ [(es.getD k default).says] := by
  rw [List.take_succ_eq_append_getElem hk, List.map_append, List.getD_eq_getElem?_getD, List.getElem?_eq_getElem hk]
  rfl
section
variable {w0 w : World} {F : HP} {p : Nat} {G : List (List EdA)} {N : List EdA} {op : Int} {gv nv v : Value} {gs : List (Value × List BEd)} {now es : List BEd} {a : Int} {d z : Value} {dl il : List Int}
theorem undo_end_ret (H : Holds w0 w (UList p G N op • F)) : Ret Tryz.prog 123 #[.pointer (some ⟨p, 0, none⟩)] w fun v w' => v = .int .i64 (endE op) ∧ Holds w0 w' (UList p (endG G N op) (endN N op) (endO op) • F) := by
  unfold endE endG endN endO
  refine ret_enter Tryz.func123 rfl Tryz.ntmps123 (Nat.le_of_ble_eq_true rfl) ?_
  dsimp only [slots0, Nat.reduceAdd]
  refine wc_seq ?_
  refine wc_region ?_
  refine wl_val (r_assign rfl) (ltn rfl) ?_
  refine wl_nil ?_
  refine wq_seq ?_
  refine wc_seq ?_
  refine wc_seq ?_
  refine wc_region ?_
  refine wl_val (r_move rfl) (ltn rfl) ?_
  refine wl_eff (e_call (r_call rfl Tryz.func127 rfl rfl) (undo_none_ret H)) (ltn rfl) ?_
  rintro _ _ ⟨rfl, rfl⟩
  refine wl_nil ?_
  refine wq_seq ?_
  refine wc_cond_f rfl ?_
  refine wc_skip ?_
  refine wq_seq ?_
  refine wc_seq ?_
  refine wc_seq ?_
  obtain ⟨gv_p, nv_p, gs_p, now_p, k1_p, k2_p, k3_p, k4_p, k5_p, k6_p, HU_p⟩ := (H).ulist
  have hop := k1_p.2.2.1
  have hop2 := k1_p.2.2.2.1
  refine wc_region ?_
  refine wl_val (r_move rfl) (ltn rfl) ?_
  refine wl_val (r_nil rfl) (ltn rfl) ?_
  refine wl_val (r_fieldA 0 Tryz.underlying171 rfl rfl Tryz.sizeOf169 (by decide) rfl (by first | exact Nat.zero_add _ | rfl)) (ltn rfl) ?_
  refine wl_val (r_fieldA 2 Tryz.underlying169 rfl rfl Tryz.sizeOf3 (by decide) rfl (by first | exact Nat.zero_add _ | rfl)) (ltn rfl) ?_
  refine wl_val (r_load (plain_of Tryz.underlying3 rfl) rfl (cell_of_blk (HU_p).get.2 rfl)) (ltn rfl) ?_
  refine wl_val (r_eql rfl rfl) (ltn rfl) ?_
  refine wl_nil ?_
  refine wq_seq ?_
  refine wc_cond rfl (fun h1 => ?_) (fun h1 => ?_)
  · (try simp only [cmpS] at h1)
    have h0 : op = 0 := by omega
    refine wc_seq ?_
    refine wc_region ?_
    refine wl_val (r_assign rfl) (ltn rfl) ?_
    refine wl_nil ?_
    refine wq_seq ?_
    refine wc_ret ?_
    refine wq_then_ret ?_
    refine wq_end1 (.inl rfl) Tryz.results123 rfl ?_
    have Ho4 := HU_p.f5.f5.f5.f5.f5
    have Hc5 := Holds.mk_ulistF k1_p k2_p k3_p rfl Ho4
    subst h0
    exact ⟨rfl, Hc5⟩
  · (try simp only [cmpS] at h1)
    have h0 : ¬ op = 0 := by omega
    refine wc_skip ?_
    refine wq_seq ?_
    refine wc_seq ?_
    refine wc_seq ?_
    refine wc_region ?_
    refine wl_val (r_move rfl) (ltn rfl) ?_
    refine wl_val (r_nil rfl) (ltn rfl) ?_
    refine wl_val (r_fieldA 0 Tryz.underlying171 rfl rfl Tryz.sizeOf169 (by decide) rfl (by first | exact Nat.zero_add _ | rfl)) (ltn rfl) ?_
    refine wl_val (r_fieldA 2 Tryz.underlying169 rfl rfl Tryz.sizeOf3 (by decide) rfl (by first | exact Nat.zero_add _ | rfl)) (ltn rfl) ?_
    refine wl_val (r_load (plain_of Tryz.underlying3 rfl) rfl (cell_of_blk (HU_p).get.2 rfl)) (ltn rfl) ?_
    refine wl_val (r_sub rfl rfl (by omega)) (ltn rfl) ?_
    refine wl_val (r_nil rfl) (ltn rfl) ?_
    refine wl_val (r_fieldA 0 Tryz.underlying171 rfl rfl Tryz.sizeOf169 (by decide) rfl (by first | exact Nat.zero_add _ | rfl)) (ltn rfl) ?_
    refine wl_val (r_fieldA 2 Tryz.underlying169 rfl rfl Tryz.sizeOf3 (by decide) rfl (by first | exact Nat.zero_add _ | rfl)) (ltn rfl) ?_
    refine wl_eff0 (e_storeL 2 (l' := [_, _, _, _, _]) HU_p Tryz.sizeOf3 rfl rfl (by first | rfl | assumption) rfl rfl) ?_
    rintro _ w6 H6
    refine wl_nil ?_
    refine wq_seq ?_
    refine wc_seq ?_
    refine wc_region ?_
    refine wl_val (r_move rfl) (ltn rfl) ?_
    refine wl_val (r_nil rfl) (ltn rfl) ?_
    refine wl_val (r_fieldA 0 Tryz.underlying171 rfl rfl Tryz.sizeOf169 (by decide) rfl (by first | exact Nat.zero_add _ | rfl)) (ltn rfl) ?_
    refine wl_val (r_fieldA 2 Tryz.underlying169 rfl rfl Tryz.sizeOf3 (by decide) rfl (by first | exact Nat.zero_add _ | rfl)) (ltn rfl) ?_
    refine wl_val (r_load (plain_of Tryz.underlying3 rfl) rfl (cell_of_blk (H6).get.2 rfl)) (ltn rfl) ?_
    refine wl_val (r_eql rfl rfl) (ltn rfl) ?_
    refine wl_nil ?_
    refine wq_seq ?_
    refine wc_cond rfl (fun h2 => ?_) (fun h2 => ?_)
    · (try simp only [cmpS] at h2)
      have h1 : op = 1 := by omega
      have Ho7 := H6.f5.f5.f5.f5.f5
      have Hc8 := Holds.mk_ulistF (op := op - 1) ⟨k1_p.1, k1_p.2.1, by omega, by omega, k1_p.2.2.2.2⟩ k2_p k3_p rfl Ho7
      refine wc_region ?_
      refine wl_val (r_move rfl) (ltn rfl) ?_
      refine wl_eff (e_call (r_call rfl Tryz.func128 rfl rfl) (undo_close_ret Hc8)) (ltn rfl) ?_
      rintro _ w9 H9
      refine wl_nil ?_
      refine wq_seq ?_
      refine wc_seq ?_
      refine wc_region ?_
      refine wl_val (r_assign rfl) (ltn rfl) ?_
      refine wl_nil ?_
      refine wq_seq ?_
      refine wc_ret ?_
      refine wq_end1 (.inl rfl) Tryz.results123 rfl ?_
      subst h1
      exact ⟨rfl, H9⟩
    · (try simp only [cmpS] at h2)
      have h1 : ¬ op = 1 := by omega
      refine wc_skip ?_
      refine wq_seq ?_
      refine wc_seq ?_
      refine wc_region ?_
      refine wl_val (r_assign rfl) (ltn rfl) ?_
      refine wl_nil ?_
      refine wq_seq ?_
      refine wc_ret ?_
      refine wq_end1 (.inl rfl) Tryz.results123 rfl ?_
      rw [if_neg h0, if_neg h1, if_neg h1, if_neg h0]
      exact ⟨rfl, Holds.mk_ulistF ⟨k1_p.1, k1_p.2.1, by omega, by omega, k1_p.2.2.2.2⟩ k2_p k3_p rfl H6.f5.f5.f5.f5.f5⟩
theorem copied_any (H : Holds w0 w F) (hv : FRd w0 F 3 v es.length (es.flatMap BEd.enc)) (he : ∀ k, k < es.length → FRdI w0 F .i32 (es.getD k default).d (es.getD k default).dl ∧ FRdI w0 F .i32 (es.getD k default).i (es.getD k default).il)
    (hB : ∀ k, k < es.length → EB (es.getD k default).says) (hL : es.length ≤ 16384) :
    Ret Tryz.prog 164 #[v] w fun v' w' => ∃ fs : List BEd, fs.map BEd.says = es.map BEd.says ∧ Holds w0 w' (Row 120 3 v' fs.length (fs.flatMap BEd.enc) • edsK fs • F) := by
  refine ret_enter Tryz.func164 rfl Tryz.ntmps164 (Nat.le_of_ble_eq_true rfl) ?_
  dsimp only [slots0, Nat.reduceAdd]
  refine wc_seq ?_
  refine wc_region ?_
  refine wl_val (r_assign rfl) (ltn rfl) ?_
  refine wl_nil ?_
  refine wq_seq ?_
  refine wc_seq ?_
  refine wc_region ?_
  refine wl_val (r_assign rfl) (ltn rfl) ?_
  refine wl_nil ?_
  refine wq_seq ?_
  refine wc_seq ?_
  refine wc_seq ?_
  refine wc_region ?_
  refine wl_val (r_move rfl) (ltn rfl) ?_
  refine wl_val (r_lenS (hv _ (H)) Tryz.underlying64 rfl) (ltn rfl) ?_
  refine wl_val (r_move rfl) (ltn rfl) ?_
  refine wl_nil ?_
  refine wq_seq ?_
  refine wc_block ?_
  refine wc_loop [(6, _), (7, _)] (fun (⟨k, u⟩ : Nat × Value) => [(3, u), (8, .int .i64 (k : Int))]) (fun (⟨k, u⟩ : Nat × Value) W => k ≤ es.length ∧ ∃ fs : List BEd, fs.map BEd.says = (es.take k).map BEd.says ∧ Holds w0 W (Row 120 3 u fs.length (fs.flatMap BEd.enc) • edsK fs • F)) (fun (⟨k, u⟩ : Nat × Value) => es.length - k) ((0, .slice none 0 0)) (Sub.cons rfl (Sub.cons rfl (Sub.nil _))) (Sub.cons rfl (Sub.cons rfl (Sub.nil _))) ⟨by omega, [], rfl, (H.edL_nil none).edL⟩ ?_
  rintro ⟨k, u⟩ w1 ⟨hk, fs, hfs, HL⟩
  dsimp only [List.cons_append, List.nil_append]
  refine wc_seq ?_
  refine wc_region ?_
  refine wl_val (r_lss rfl rfl) (ltn rfl) ?_
  refine wl_nil ?_
  refine wq_seq ?_
  refine wc_seq ?_
  refine wc_cond rfl (fun h1 => ?_) (fun h1 => ?_)
  · (try simp only [cmpS] at h1)
    try (exfalso; first | contradiction | omega)
    all_goals
      
      refine wc_skip ?_
      refine wq_seq ?_
      refine wc_seq ?_
      refine wc_block ?_
      refine wc_seq ?_
      refine wc_region ?_
      obtain ⟨bv, ov, cv, ev⟩ := Rd.posV (hv _ (HL.right.right)) (by omega)
      cases ev
      refine wl_val (r_index Tryz.underlying64 Tryz.sizeOf120 rfl rfl (by omega)) (ltn rfl) ?_
      refine wl_val (r_load_elem (ys := [_, _, _]) (hv _ (HL.right.right)) (by omega) Tryz.underlying120 rfl Tryz.sizeOf120 rfl (flat_elem BEd.enc_len (by omega) default) rfl) (ltn rfl) ?_
      have hkl : k < es.length := by omega
      obtain ⟨f1, f2⟩ := he k hkl
      obtain ⟨hb1, hb2⟩ := hB k hkl
      have hb1 : (es.getD k default).dl.length ≤ 35184372087808 := hb1
      have hb2 : (es.getD k default).il.length ≤ 35184372087808 := hb2
      have hfl : fs.length = k := by have h9 := congrArg List.length hfs; simp at h9; omega
      refine wl_eff (e_allocL (l := [_, _, _]) HL Tryz.zeroValue120 rfl) (ltn rfl) ?_
      rintro _ w2 ⟨b2, rfl, H2⟩
      refine wl_eff0 (e_storePL 0 (l' := [_, _, _]) (us := [_, _, _]) H2 Tryz.sizeOf120 rfl rfl rfl (ones_cons (by first | rfl | assumption) (ones_cons (by first | rfl | exact Rd.one (f1 _ (H2.right.right.right))) (ones_cons (by first | rfl | exact Rd.one (f2 _ (H2.right.right.right))) ones_nil))) rfl rfl) ?_
      rintro _ w3 H3
      refine wl_nil ?_
      refine wq_seq ?_
      refine wc_region ?_
      refine wl_val (r_move rfl) (ltn rfl) ?_
      refine wl_val (r_load_whole Tryz.underlying120 rfl Tryz.sizeOf120 rfl rfl (H3).get.2) (ltn rfl) ?_
      refine wl_eff (e_call (r_call rfl Tryz.func170 rfl rfl) (undo_own_ret H3 (fun W HW => f1 _ (HW.right.right.right)) (fun W HW => f2 _ (HW.right.right.right)) (by omega) (by omega))) (ltn rfl) ?_
      rintro _ w4 ⟨d4, s4, rfl, H4⟩
      refine wl_eff (e_lit_one H4 Tryz.underlying64 Tryz.sizeOf120 Tryz.zeroValue120 rfl rfl rfl (by decide) (by decide)) (ltn rfl) ?_
      rintro l5 w5 H5
      refine wl_eff (e_append H5.f5 Tryz.underlying64 (show (Tryz.prog.info? 120).map (fun i => (i.zero, i.size, i.bytes)) = some (some (.agg #[.int .i64 0, .slice none 0 0, .slice none 0 0]), 3, 56) by kernel_rfl) rfl rfl rfl ((H5).row_rd) (ones_cons (by first | rfl | assumption) (ones_cons (by first | rfl | exact Rd.one ((H5.f2).row_rd)) (ones_cons (by first | rfl | exact Rd.one ((H5.f3).row_rd)) ones_nil))) (by omega) (by omega)) (ltn rfl) ?_
      rintro l6 w6 H6
      have Hd7 := H6.f2.right
      refine wl_val (r_assign rfl) (ltn rfl) ?_
      refine wl_nil ?_
      refine wq_block_normal ?_
      refine wq_seq ?_
      refine wc_region ?_
      refine wl_val (r_add rfl rfl (by omega)) (ltn rfl) ?_
      refine wl_val (r_move rfl) (ltn rfl) ?_
      refine wl_nil ?_
      refine wq_round ((k + 1, l6)) ?_ ?_ ?_ ?_
      · exact (Sub.cons rfl (Sub.cons rfl (Sub.nil _)))
      · exact (Sub.cons rfl (Sub.cons rfl (Sub.nil _)))
      · (try dsimp only)
        first | done | exact ⟨by omega, _, by rw [List.map_append, hfs, take_says (by omega)]; rfl, (Holds.edL_snoc (Hd7.f4.right.f4.f2.f4.f4).freezeI.swap.freezeI.swap.f3).edL⟩
      · (try dsimp only); omega
  · (try simp only [cmpS] at h1)
    try (exfalso; first | contradiction | omega)
    all_goals
      
      refine wc_exit ?_
      refine wq_then_exit ?_
      refine wq_then_exit ?_
      refine wq_block_hit ?_
      refine wq_seq ?_
      refine wc_seq ?_
      refine wc_region ?_
      refine wl_val (r_move rfl) (ltn rfl) ?_
      refine wl_val (r_assign rfl) (ltn rfl) ?_
      refine wl_nil ?_
      refine wq_seq ?_
      refine wc_ret ?_
      refine wq_end1 (.inl rfl) Tryz.results164 rfl ?_
      rw [List.take_of_length_le (by omega)] at hfs
      exact ⟨_, hfs, HL.f2.f2⟩
theorem Holds.edsK_ii {es : List BEd} (H : Holds w0 w (edsK es • F)) {k : Nat} (hk : k < es.length) : RdI w .i32 (es.getD k default).d (es.getD k default).dl ∧ RdI w .i32 (es.getD k default).i (es.getD k default).il := let ⟨I, h, hI⟩ := H.of_know; ⟨(h k hk).1.rd hI, (h k hk).2.rd hI⟩
theorem copied_row_ret (H : Holds w0 w (Row 120 3 v es.length (es.flatMap BEd.enc) • edsK es • F)) (hB : ∀ k, k < es.length → EB (es.getD k default).says) (hL : es.length ≤ 16384) :
    Ret Tryz.prog 164 #[v] w fun v' w' => ∃ fs : List BEd, fs.map BEd.says = es.map BEd.says ∧ Holds w0 w' (Row 120 3 v' fs.length (fs.flatMap BEd.enc) • edsK fs • Row 120 3 v es.length (es.flatMap BEd.enc) • edsK es • F) :=
  copied_any H (fun W HW => HW.row_rd) (fun k hk => ⟨fun W HW => (HW.right.edsK_ii hk).1, fun W HW => (HW.right.edsK_ii hk).2⟩) hB hL
theorem copied_el_ret (H : Holds w0 w (elK v es • F)) (hB : ∀ k, k < es.length → EB (es.getD k default).says) (hL : es.length ≤ 16384) :
    Ret Tryz.prog 164 #[v] w fun v' w' => ∃ fs : List BEd, fs.map BEd.says = es.map BEd.says ∧ Holds w0 w' (Row 120 3 v' fs.length (fs.flatMap BEd.enc) • edsK fs • elK v es • F) :=
  copied_any H (fun W HW => HW.elK_rd) (fun k hk => ⟨fun W HW => HW.elK_d hk, fun W HW => HW.elK_i hk⟩) hB hL
end
end Go.Proofs.YtgmpclifphbjkaaGreatDoor
end
