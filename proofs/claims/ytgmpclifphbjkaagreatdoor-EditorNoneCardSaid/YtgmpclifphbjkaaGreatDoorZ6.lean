import Derived.Test.YtgmpclifphbjkaaGreatDoorZ5
/- Texts of mine, joined: Buf3. -/
section
/- The buffer's Replace where it changes the line; Insert. -/
set_option linter.unusedSimpArgs false
set_option linter.unusedVariables false
namespace Go.Proofs.YtgmpclifphbjkaaGreatDoor
open Go.RowKit
section
variable {w0 w : World} {F : HP} {p : Nat} {L : List Int} {pt mk : Int} {v : Value} {l : List Int} {i j : Int}
theorem buf_replace_ok {i j : Nat} (H : Holds w0 w (BufRep p L pt mk • F)) (hr : FRdI w0 F .i32 v l) (hb : i ≤ j ∧ j ≤ L.length) (hl : (L.length : Int) - ((j : Int) - i) + l.length ≤ 1024) :
    Ret Tryz.prog 113 #[.pointer (some ⟨p, 0, none⟩), .int .i64 i, .int .i64 j, v] w fun v' w' => ∃ d s, v' = .tuple #[.agg (edCells i d s), .int .i64 0] ∧
      Holds w0 w' (RowI 21 .i32 d ((L.drop i).take (j - i)) • RowI 21 .i32 s l • BufRep p (L.take i ++ l ++ L.drop j) (movedP pt i j l.length) (movedM mk i j l.length) • F) := by
  obtain ⟨a, c, rfl, hac, hac2, _⟩ := (hr w H.right).open
  obtain ⟨hL4, hpt, hmk⟩ : L.length ≤ 1024 ∧ (0 ≤ pt ∧ pt ≤ L.length) ∧ (-1 ≤ mk ∧ mk ≤ L.length) := by obtain ⟨a, c, xs, f, t, h1, h2, h3, h4, h5, h6, h7, hc1, hc2, hl, H1⟩ := H.buf; exact ⟨h4, h6, h7⟩
  have hg1 := gapped_len (L := L) (i := i) (r := l.length) (by omega)
  have hg2 := gapped_take (L := L) (i := i) (r := l.length) (by omega)
  have hg3 := gapped_drop (L := L) (i := i) (r := l.length) (by omega)
  have hL' : L.take i ++ l ++ L.drop j = (spliceL (gapped L i l.length) i l).take (i + l.length) ++ (spliceL (gapped L i l.length) i l).drop (i + l.length + 16 + (j - i)) := by
    rw [splice_take (by omega), splice_drop (by omega) (by omega), hg2]
    congr 1
    rw [← List.drop_drop, hg3, List.drop_drop]
    congr 1; omega
  have hlen' : (L.take i ++ l ++ L.drop j).length = L.length - (j - i) + l.length := by simp; omega
  refine ret_enter Tryz.func113 rfl Tryz.ntmps113 (Nat.le_of_ble_eq_true rfl) ?_
  dsimp only [slots0, Nat.reduceAdd]
  refine wc_seq ?_
  refine wc_region ?_
  refine wl_eff (e_alloc H Tryz.zeroValue120) (ltn rfl) ?_
  rintro _ w1 ⟨b1, rfl, H1⟩
  refine wl_val (r_assign rfl) (ltn rfl) ?_
  refine wl_nil ?_
  refine wq_seq ?_
  refine wc_seq ?_
  refine wc_region ?_
  refine wl_val (r_move rfl) (ltn rfl) ?_
  refine wl_eff (e_call (r_call rfl Tryz.func69 rfl rfl) (buf_len_ret H1.right)) (ltn rfl) ?_
  rintro _ w2 ⟨rfl, hD⟩
  have HL := H1.drewn hD
  refine wl_val (r_assign rfl) (ltn rfl) ?_
  refine wl_nil ?_
  refine wq_seq ?_
  refine wc_seq ?_
  refine wc_block ?_
  refine wc_seq ?_
  refine wc_region ?_
  refine wl_val (r_move rfl) (ltn rfl) ?_
  refine wl_eff (e_call (r_call rfl Tryz.func130 rfl rfl) (buf_none_rep HL.right)) (ltn rfl) ?_
  rintro _ _ ⟨rfl, rfl⟩
  refine wl_val (r_assign rfl) (ltn rfl) ?_
  refine wl_nil ?_
  refine wq_seq ?_
  refine wc_cond rfl (fun h1 => ?_) (fun h1 => ?_)
  · (try simp only [cmpS] at h1)
    try (exfalso; first | contradiction | omega)
    all_goals
      
      refine wc_seq ?_
      refine wc_region ?_
      refine wl_val (r_build (pl := #[(0, 1), (1, 1), (2, 1)]) (_) Tryz.underlying120 Tryz.zeroValue120 (fun w => by kernel_rfl) rfl (rfl)) (ltn rfl) ?_
      refine wl_eff0 (e_store HL Tryz.sizeOf120 rfl rfl rfl (by decide)) ?_
      rintro _ w4 H4
      refine wl_val (r_assign rfl) (ltn rfl) ?_
      refine wl_nil ?_
      refine wq_seq ?_
      refine wc_ret ?_
      refine wq_block_ret ?_
      refine wq_then_ret ?_
      refine wq_endCT (.inl rfl) Tryz.results113 rfl rfl Tryz.underlying120 rfl (by rw [show (Tryz.prog.info? 120).map (·.size) = some 3 from by kernel_rfl]; rfl) H4.get.2 ?_
      refine ⟨_, _, rfl, ?_⟩
      first
        | rw [show movedP pt i j l.length = pt + ((l.length : Int) - ((j : Int) - i)) from by unfold movedP; rw [if_pos (by omega)]]
        | rw [show movedP pt i j l.length = (i : Int) + l.length from by unfold movedP; rw [if_neg (by omega), if_pos (by omega)]]
        | rw [show movedP pt i j l.length = pt from by unfold movedP; rw [if_neg (by omega), if_neg (by omega)]]
      first
        | rw [show movedM mk i j l.length = mk + ((l.length : Int) - ((j : Int) - i)) from by unfold movedM; rw [if_pos (by omega)]]
        | rw [show movedM mk i j l.length = (i : Int) from by unfold movedM; rw [if_neg (by omega), if_pos (by omega)]]
        | rw [show movedM mk i j l.length = mk from by unfold movedM; rw [if_neg (by omega), if_neg (by omega)]]
      refine (Holds.mk_buf (f := i + l.length) (t := i + l.length + 16 + (j - i)) (v := .slice ax (gapped L i l.length).length cx) (xs := spliceL (gapped L i l.length) i l) (by omega) (by rw [spliceL_len (by omega)]; omega) hL' (by omega) (by rw [spliceL_len (by omega)]; omega) (by omega) (by omega) ?_).d3.swap
      rw [show ((i + l.length : Nat) : Int) = (i : Int) + l.length from by omega, show ((i + l.length + 16 + (j - i) : Nat) : Int) = ((i + l.length + 16 : Nat) : Int) + ((j : Int) - i) from by omega]
      exact H4.right.right
  · (try simp only [cmpS] at h1)
    try (exfalso; first | contradiction | omega)
    all_goals
      
      refine wc_seq ?_
      refine wc_region ?_
      refine wl_val (r_move rfl) (ltn rfl) ?_
      refine wl_val (r_lss rfl rfl) (ltn rfl) ?_
      refine wl_split rfl (ltn rfl) (fun h2 => ?_) (fun h2 => ?_)
      · (try simp only [cmpS] at h2)
        try (exfalso; first | contradiction | omega)
        all_goals
          refine wl_no rfl rfl rfl (ltn rfl) ?_
          refine wl_no rfl rfl rfl (ltn rfl) ?_
          refine wl_no rfl rfl rfl (ltn rfl) ?_
          refine wl_val (r_pick_t rfl rfl) (ltn rfl) ?_
          refine wl_val (r_move rfl) (ltn rfl) ?_
          refine wl_no rfl rfl rfl (ltn rfl) ?_
          refine wl_no rfl rfl rfl (ltn rfl) ?_
          refine wl_no rfl rfl rfl (ltn rfl) ?_
          refine wl_val (r_pick_t rfl rfl) (ltn rfl) ?_
          refine wl_val (r_move rfl) (ltn rfl) ?_
          refine wl_no rfl rfl rfl (ltn rfl) ?_
          refine wl_no rfl rfl rfl (ltn rfl) ?_
          refine wl_no rfl rfl rfl (ltn rfl) ?_
          refine wl_val (r_pick_t rfl rfl) (ltn rfl) ?_
          refine wl_val (r_assign rfl) (ltn rfl) ?_
          refine wl_nil ?_
          refine wq_seq ?_
          refine wc_cond_t rfl ?_
          refine wc_seq ?_
          refine wc_region ?_
          refine wl_val (r_build (pl := #[(0, 1), (1, 1), (2, 1)]) (_) Tryz.underlying120 Tryz.zeroValue120 (fun w => by kernel_rfl) rfl (rfl)) (ltn rfl) ?_
          refine wl_eff0 (e_store HL Tryz.sizeOf120 rfl rfl rfl (by decide)) ?_
          rintro _ w5 H5
          refine wl_val (r_assign rfl) (ltn rfl) ?_
          refine wl_nil ?_
          refine wq_seq ?_
          refine wc_ret ?_
          refine wq_block_ret ?_
          refine wq_then_ret ?_
          refine wq_endCT (.inl rfl) Tryz.results113 rfl rfl Tryz.underlying120 rfl (by rw [show (Tryz.prog.info? 120).map (·.size) = some 3 from by kernel_rfl]; rfl) H5.get.2 ?_
          refine ⟨_, _, rfl, ?_⟩
          first
            | rw [show movedP pt i j l.length = pt + ((l.length : Int) - ((j : Int) - i)) from by unfold movedP; rw [if_pos (by omega)]]
            | rw [show movedP pt i j l.length = (i : Int) + l.length from by unfold movedP; rw [if_neg (by omega), if_pos (by omega)]]
            | rw [show movedP pt i j l.length = pt from by unfold movedP; rw [if_neg (by omega), if_neg (by omega)]]
          first
            | rw [show movedM mk i j l.length = mk + ((l.length : Int) - ((j : Int) - i)) from by unfold movedM; rw [if_pos (by omega)]]
            | rw [show movedM mk i j l.length = (i : Int) from by unfold movedM; rw [if_neg (by omega), if_pos (by omega)]]
            | rw [show movedM mk i j l.length = mk from by unfold movedM; rw [if_neg (by omega), if_neg (by omega)]]
          refine (Holds.mk_buf (f := i + l.length) (t := i + l.length + 16 + (j - i)) (v := .slice ax (gapped L i l.length).length cx) (xs := spliceL (gapped L i l.length) i l) (by omega) (by rw [spliceL_len (by omega)]; omega) hL' (by omega) (by rw [spliceL_len (by omega)]; omega) (by omega) (by omega) ?_).d3.swap
          rw [show ((i + l.length : Nat) : Int) = (i : Int) + l.length from by omega, show ((i + l.length + 16 + (j - i) : Nat) : Int) = ((i + l.length + 16 : Nat) : Int) + ((j : Int) - i) from by omega]
          exact H5.right.right
      · (try simp only [cmpS] at h2)
        try (exfalso; first | contradiction | omega)
        all_goals
          refine wl_yes rfl rfl ?_
          refine wl_val (r_move rfl) (ltn rfl) ?_
          refine wl_yes rfl rfl ?_
          refine wl_val (r_move rfl) (ltn rfl) ?_
          refine wl_yes rfl rfl ?_
          refine wl_val (r_gtr rfl rfl) (ltn rfl) ?_
          refine wl_val (r_pick_f rfl rfl) (ltn rfl) ?_
          refine wl_split rfl (ltn rfl) (fun h3 => ?_) (fun h3 => ?_)
          · (try simp only [cmpS] at h3)
            try (exfalso; first | contradiction | omega)
            all_goals
              refine wl_no rfl rfl rfl (ltn rfl) ?_
              refine wl_no rfl rfl rfl (ltn rfl) ?_
              refine wl_no rfl rfl rfl (ltn rfl) ?_
              refine wl_val (r_pick_t rfl rfl) (ltn rfl) ?_
              refine wl_val (r_move rfl) (ltn rfl) ?_
              refine wl_no rfl rfl rfl (ltn rfl) ?_
              refine wl_no rfl rfl rfl (ltn rfl) ?_
              refine wl_no rfl rfl rfl (ltn rfl) ?_
              refine wl_val (r_pick_t rfl rfl) (ltn rfl) ?_
              refine wl_val (r_assign rfl) (ltn rfl) ?_
              refine wl_nil ?_
              refine wq_seq ?_
              refine wc_cond_t rfl ?_
              refine wc_seq ?_
              refine wc_region ?_
              refine wl_val (r_build (pl := #[(0, 1), (1, 1), (2, 1)]) (_) Tryz.underlying120 Tryz.zeroValue120 (fun w => by kernel_rfl) rfl (rfl)) (ltn rfl) ?_
              refine wl_eff0 (e_store HL Tryz.sizeOf120 rfl rfl rfl (by decide)) ?_
              rintro _ w6 H6
              refine wl_val (r_assign rfl) (ltn rfl) ?_
              refine wl_nil ?_
              refine wq_seq ?_
              refine wc_ret ?_
              refine wq_block_ret ?_
              refine wq_then_ret ?_
              refine wq_endCT (.inl rfl) Tryz.results113 rfl rfl Tryz.underlying120 rfl (by rw [show (Tryz.prog.info? 120).map (·.size) = some 3 from by kernel_rfl]; rfl) H6.get.2 ?_
              refine ⟨_, _, rfl, ?_⟩
              first
                | rw [show movedP pt i j l.length = pt + ((l.length : Int) - ((j : Int) - i)) from by unfold movedP; rw [if_pos (by omega)]]
                | rw [show movedP pt i j l.length = (i : Int) + l.length from by unfold movedP; rw [if_neg (by omega), if_pos (by omega)]]
                | rw [show movedP pt i j l.length = pt from by unfold movedP; rw [if_neg (by omega), if_neg (by omega)]]
              first
                | rw [show movedM mk i j l.length = mk + ((l.length : Int) - ((j : Int) - i)) from by unfold movedM; rw [if_pos (by omega)]]
                | rw [show movedM mk i j l.length = (i : Int) from by unfold movedM; rw [if_neg (by omega), if_pos (by omega)]]
                | rw [show movedM mk i j l.length = mk from by unfold movedM; rw [if_neg (by omega), if_neg (by omega)]]
              refine (Holds.mk_buf (f := i + l.length) (t := i + l.length + 16 + (j - i)) (v := .slice ax (gapped L i l.length).length cx) (xs := spliceL (gapped L i l.length) i l) (by omega) (by rw [spliceL_len (by omega)]; omega) hL' (by omega) (by rw [spliceL_len (by omega)]; omega) (by omega) (by omega) ?_).d3.swap
              rw [show ((i + l.length : Nat) : Int) = (i : Int) + l.length from by omega, show ((i + l.length + 16 + (j - i) : Nat) : Int) = ((i + l.length + 16 : Nat) : Int) + ((j : Int) - i) from by omega]
              exact H6.right.right
          · (try simp only [cmpS] at h3)
            try (exfalso; first | contradiction | omega)
            all_goals
              refine wl_yes rfl rfl ?_
              refine wl_val (r_move rfl) (ltn rfl) ?_
              refine wl_yes rfl rfl ?_
              refine wl_val (r_move rfl) (ltn rfl) ?_
              refine wl_yes rfl rfl ?_
              refine wl_val (r_lss rfl rfl) (ltn rfl) ?_
              refine wl_val (r_pick_f rfl rfl) (ltn rfl) ?_
              refine wl_split rfl (ltn rfl) (fun h4 => ?_) (fun h4 => ?_)
              · (try simp only [cmpS] at h4)
                try (exfalso; first | contradiction | omega)
                all_goals
                  refine wl_no rfl rfl rfl (ltn rfl) ?_
                  refine wl_no rfl rfl rfl (ltn rfl) ?_
                  refine wl_no rfl rfl rfl (ltn rfl) ?_
                  refine wl_val (r_pick_t rfl rfl) (ltn rfl) ?_
                  refine wl_val (r_assign rfl) (ltn rfl) ?_
                  refine wl_nil ?_
                  refine wq_seq ?_
                  refine wc_cond_t rfl ?_
                  refine wc_seq ?_
                  refine wc_region ?_
                  refine wl_val (r_build (pl := #[(0, 1), (1, 1), (2, 1)]) (_) Tryz.underlying120 Tryz.zeroValue120 (fun w => by kernel_rfl) rfl (rfl)) (ltn rfl) ?_
                  refine wl_eff0 (e_store HL Tryz.sizeOf120 rfl rfl rfl (by decide)) ?_
                  rintro _ w7 H7
                  refine wl_val (r_assign rfl) (ltn rfl) ?_
                  refine wl_nil ?_
                  refine wq_seq ?_
                  refine wc_ret ?_
                  refine wq_block_ret ?_
                  refine wq_then_ret ?_
                  refine wq_endCT (.inl rfl) Tryz.results113 rfl rfl Tryz.underlying120 rfl (by rw [show (Tryz.prog.info? 120).map (·.size) = some 3 from by kernel_rfl]; rfl) H7.get.2 ?_
                  refine ⟨_, _, rfl, ?_⟩
                  first
                    | rw [show movedP pt i j l.length = pt + ((l.length : Int) - ((j : Int) - i)) from by unfold movedP; rw [if_pos (by omega)]]
                    | rw [show movedP pt i j l.length = (i : Int) + l.length from by unfold movedP; rw [if_neg (by omega), if_pos (by omega)]]
                    | rw [show movedP pt i j l.length = pt from by unfold movedP; rw [if_neg (by omega), if_neg (by omega)]]
                  first
                    | rw [show movedM mk i j l.length = mk + ((l.length : Int) - ((j : Int) - i)) from by unfold movedM; rw [if_pos (by omega)]]
                    | rw [show movedM mk i j l.length = (i : Int) from by unfold movedM; rw [if_neg (by omega), if_pos (by omega)]]
                    | rw [show movedM mk i j l.length = mk from by unfold movedM; rw [if_neg (by omega), if_neg (by omega)]]
                  refine (Holds.mk_buf (f := i + l.length) (t := i + l.length + 16 + (j - i)) (v := .slice ax (gapped L i l.length).length cx) (xs := spliceL (gapped L i l.length) i l) (by omega) (by rw [spliceL_len (by omega)]; omega) hL' (by omega) (by rw [spliceL_len (by omega)]; omega) (by omega) (by omega) ?_).d3.swap
                  rw [show ((i + l.length : Nat) : Int) = (i : Int) + l.length from by omega, show ((i + l.length + 16 + (j - i) : Nat) : Int) = ((i + l.length + 16 : Nat) : Int) + ((j : Int) - i) from by omega]
                  exact H7.right.right
              · (try simp only [cmpS] at h4)
                try (exfalso; first | contradiction | omega)
                all_goals
                  refine wl_yes rfl rfl ?_
                  refine wl_val (r_move rfl) (ltn rfl) ?_
                  refine wl_yes rfl rfl ?_
                  refine wl_val (r_move rfl) (ltn rfl) ?_
                  refine wl_yes rfl rfl ?_
                  refine wl_val (r_gtr rfl rfl) (ltn rfl) ?_
                  refine wl_val (r_pick_f rfl rfl) (ltn rfl) ?_
                  refine wl_val (r_assign rfl) (ltn rfl) ?_
                  refine wl_nil ?_
                  refine wq_seq ?_
                  refine wc_cond rfl (fun h => by exfalso; (try simp only [cmpS] at h); first | contradiction | omega | (simp at h <;> omega)) (fun h5 => ?_)
                  (try simp only [cmpS] at h5)
                  refine wc_seq ?_
                  refine wc_region ?_
                  refine wl_val (r_move rfl) (ltn rfl) ?_
                  refine wl_val (r_len Tryz.underlying22 rfl) (ltn rfl) ?_
                  refine wl_val (r_move rfl) (ltn rfl) ?_
                  refine wl_val (r_move rfl) (ltn rfl) ?_
                  refine wl_val (r_move rfl) (ltn rfl) ?_
                  refine wl_val (r_sub rfl rfl (by omega)) (ltn rfl) ?_
                  refine wl_val (r_sub rfl rfl (by omega)) (ltn rfl) ?_
                  refine wl_val (r_sub rfl rfl (by omega)) (ltn rfl) ?_
                  refine wl_val (r_gtr rfl rfl) (ltn rfl) ?_
                  refine wl_val (r_assign rfl) (ltn rfl) ?_
                  refine wl_nil ?_
                  refine wq_seq ?_
                  refine wc_cond rfl (fun h => by exfalso; (try simp only [cmpS] at h); first | contradiction | omega | (simp at h <;> omega)) (fun h6 => ?_)
                  (try simp only [cmpS] at h6)
                  refine wc_skip ?_
                  refine wq_block_normal ?_
                  refine wq_seq ?_
                  refine wc_seq ?_
                  refine wc_region ?_
                  refine wl_val (r_move rfl) (ltn rfl) ?_
                  refine wl_val (r_move rfl) (ltn rfl) ?_
                  refine wl_eff (e_call (r_call rfl Tryz.func117 rfl rfl) (buf_text_ret HL.swap)) (ltn rfl) ?_
                  rintro u w8 H8
                  obtain ⟨au, cu, hu, _⟩ := (H8.row_rd).form
                  subst hu
                  refine wl_val (r_move rfl) (ltn rfl) ?_
                  refine wl_val (r_move rfl) (ltn rfl) ?_
                  refine wl_val (r_slice Tryz.underlying22 Tryz.sizeOf21 rfl rfl rfl (by omega)) (ltn rfl) ?_
                  refine wl_eff (e_call (r_call rfl Tryz.func136 rfl rfl) (clone_ret H8 (fun W HW => RdI.cut HW.row_rd (i := i) (j := j) (by omega) (by omega)) (by simp; omega))) (ltn rfl) ?_
                  rintro d w9 H9
                  have HC := H9.swap.right
                  obtain ⟨ad, cd, hd, _⟩ := (HC.row_rd).form
                  subst hd
                  refine wl_val (r_move rfl) (ltn rfl) ?_
                  refine wl_eff (e_call (r_call rfl Tryz.func136 rfl rfl) (clone_ret HC hr.under.under.under (by omega))) (ltn rfl) ?_
                  rintro s w10 H10
                  obtain ⟨ai, ci, hs, _⟩ := (H10.row_rd).form
                  subst hs
                  refine wl_val (r_build (pl := #[(0, 1), (1, 1), (2, 1)]) (edCells i (.slice ad ((L.drop i).take (j - i)).length cd) (.slice ai l.length ci)) Tryz.underlying120 Tryz.zeroValue120 (fun w => by kernel_rfl) rfl (by kernel_rfl)) (ltn rfl) ?_
                  refine wl_eff (e_alloc H10 Tryz.zeroValue120) (ltn rfl) ?_
                  rintro _ w11 ⟨b11, rfl, H11⟩
                  refine wl_eff0 (e_store_whole (cs := edCells i (.slice ad ((L.drop i).take (j - i)).length cd) (.slice ai l.length ci)) H11 Tryz.sizeOf120 rfl rfl rfl rfl (ed_ones rfl rfl)) ?_
                  rintro _ w12 H12
                  refine wl_nil ?_
                  refine wq_seq ?_
                  refine wc_seq ?_
                  refine wc_region ?_
                  refine wl_val (r_move rfl) (ltn rfl) ?_
                  refine wl_val (r_move rfl) (ltn rfl) ?_
                  refine wl_val (r_move rfl) (ltn rfl) ?_
                  refine wl_val (r_len Tryz.underlying22 rfl) (ltn rfl) ?_
                  refine wl_eff (e_call (r_call rfl Tryz.func165 rfl rfl) (buf_open_ret H12.r4 (by omega) (by omega))) (ltn rfl) ?_
                  rintro _ w13 ⟨x, H13⟩
                  obtain ⟨ax, cx, hx, _⟩ := (H13.swap.row_rd).form
                  subst hx
                  refine wl_nil ?_
                  refine wq_seq ?_
                  refine wc_seq ?_
                  refine wc_region ?_
                  refine wl_val (r_move rfl) (ltn rfl) ?_
                  refine wl_val (r_nil rfl) (ltn rfl) ?_
                  refine wl_val (r_fieldA 3 Tryz.underlying178 rfl rfl Tryz.sizeOf3 (by decide) rfl (by first | exact Nat.zero_add _ | rfl)) (ltn rfl) ?_
                  refine wl_val (r_load (plain_of Tryz.underlying3 rfl) rfl (cell_of_blk H13.get.2 rfl)) (ltn rfl) ?_
                  refine wl_val (r_move rfl) (ltn rfl) ?_
                  refine wl_val (r_move rfl) (ltn rfl) ?_
                  refine wl_val (r_sub rfl rfl (by omega)) (ltn rfl) ?_
                  refine wl_val (r_add rfl rfl (by omega)) (ltn rfl) ?_
                  refine wl_val (r_nil rfl) (ltn rfl) ?_
                  refine wl_val (r_fieldA 3 Tryz.underlying178 rfl rfl Tryz.sizeOf3 (by decide) rfl (by first | exact Nat.zero_add _ | rfl)) (ltn rfl) ?_
                  refine wl_eff0 (e_store H13 Tryz.sizeOf3 rfl rfl rfl (by rw [buf_size]; decide)) ?_
                  rintro _ w14 H14
                  rw [buf_set_to] at H14
                  have hb10 := H14.get.2
                  refine wl_nil ?_
                  refine wq_seq ?_
                  refine wc_seq ?_
                  refine wd_begin (n := 11) [0, 1, 2, 3, 4, 5, 6, 7, 8, 9, 10] (fun W => W.heap[p]? = some (.cells (bufCells (.slice ax (gapped L i l.length).length cx) i ((i + l.length + 16 : Nat) + ((j : Int) - i)) pt mk) 178 (0, 0))) (by kernel_rfl) (by kernel_rfl) rfl ?_
                  have hS0 : (fun W => W.heap[p]? = some (.cells (bufCells (.slice ax (gapped L i l.length).length cx) i ((i + l.length + 16 : Nat) + ((j : Int) - i)) pt mk) 178 (0, 0))) (w14.drew) := hb10
                  have H11d := H14.drew
                  refine wd_takeT 0 rfl (by kernel_rfl) (by kernel_rfl) hS0 (fun _ => r_move rfl) (ltn rfl) ?_
                  refine wd_takeT 1 rfl (by kernel_rfl) (by kernel_rfl) hS0 (fun _ => r_nil rfl) (ltn rfl) ?_
                  refine wd_takeT 2 rfl (by kernel_rfl) (by kernel_rfl) hS0 (fun _ => r_fieldA 1 Tryz.underlying178 rfl rfl Tryz.sizeOf22 (by decide) rfl (by first | exact Nat.zero_add _ | rfl)) (ltn rfl) ?_
                  refine wd_take 3 rfl (by kernel_rfl) (by kernel_rfl) hS0 (by decide) (fun W hW => r_load (plain_of Tryz.underlying22 rfl) rfl (cell_of_blk hW rfl)) (ltn rfl) ?_
                  refine wd_takeT 4 rfl (by kernel_rfl) (by kernel_rfl) hS0 (fun _ => r_move rfl) (ltn rfl) ?_
                  refine wd_takeT 5 rfl (by kernel_rfl) (by kernel_rfl) hS0 (fun _ => r_nil rfl) (ltn rfl) ?_
                  refine wd_takeT 6 rfl (by kernel_rfl) (by kernel_rfl) hS0 (fun _ => r_fieldA 2 Tryz.underlying178 rfl rfl Tryz.sizeOf3 (by decide) rfl (by first | exact Nat.zero_add _ | rfl)) (ltn rfl) ?_
                  refine wd_take 7 rfl (by kernel_rfl) (by kernel_rfl) hS0 (by decide) (fun W hW => r_load (plain_of Tryz.underlying3 rfl) rfl (cell_of_blk hW rfl)) (ltn rfl) ?_
                  refine wd_takeT 8 rfl (by kernel_rfl) (by kernel_rfl) hS0 (fun _ => r_slice Tryz.underlying22 Tryz.sizeOf21 rfl rfl rfl (by omega)) (ltn rfl) ?_
                  refine wd_takeT 9 rfl (by kernel_rfl) (by kernel_rfl) hS0 (fun _ => r_move rfl) (ltn rfl) ?_
                  refine wd_eff 10 rfl (by kernel_rfl) (e_copy_ints (i := i) (m := l) H11d.swap (hr _ H11d.right.right.right.right.right.right) Tryz.underlying22 (by kernel_rfl) rfl rfl (by omega)) (ltn rfl) ?_
                  rintro _ w15 ⟨rfl, H15⟩
                  have HS := H15.swap
                  refine keepE (by kernel_rfl) ?_
                  refine wd_done (by kernel_rfl) ?_
                  refine wq_seq ?_
                  refine wc_seq ?_
                  refine wc_region ?_
                  refine wl_val (r_move rfl) (ltn rfl) ?_
                  refine wl_val (r_nil rfl) (ltn rfl) ?_
                  refine wl_val (r_fieldA 2 Tryz.underlying178 rfl rfl Tryz.sizeOf3 (by decide) rfl (by first | exact Nat.zero_add _ | rfl)) (ltn rfl) ?_
                  refine wl_val (r_load (plain_of Tryz.underlying3 rfl) rfl (cell_of_blk HS.get.2 rfl)) (ltn rfl) ?_
                  refine wl_val (r_move rfl) (ltn rfl) ?_
                  refine wl_val (r_len Tryz.underlying22 rfl) (ltn rfl) ?_
                  refine wl_val (r_add rfl rfl (by omega)) (ltn rfl) ?_
                  refine wl_val (r_nil rfl) (ltn rfl) ?_
                  refine wl_val (r_fieldA 2 Tryz.underlying178 rfl rfl Tryz.sizeOf3 (by decide) rfl (by first | exact Nat.zero_add _ | rfl)) (ltn rfl) ?_
                  refine wl_eff0 (e_store HS Tryz.sizeOf3 rfl rfl rfl (by rw [buf_size]; decide)) ?_
                  rintro _ w16 H16
                  rw [buf_set_from] at H16
                  refine wl_nil ?_
                  refine wq_seq ?_
                  refine wc_seq ?_
                  refine wc_block ?_
                  refine wc_seq ?_
                  refine wc_region ?_
                  refine wl_val (r_move rfl) (ltn rfl) ?_
                  refine wl_val (r_nil rfl) (ltn rfl) ?_
                  refine wl_val (r_fieldA 4 Tryz.underlying178 rfl rfl Tryz.sizeOf3 (by decide) rfl (by first | exact Nat.zero_add _ | rfl)) (ltn rfl) ?_
                  refine wl_val (r_load (plain_of Tryz.underlying3 rfl) rfl (cell_of_blk H16.get.2 rfl)) (ltn rfl) ?_
                  refine wl_val (r_move rfl) (ltn rfl) ?_
                  refine wl_val (r_gtr rfl rfl) (ltn rfl) ?_
                  refine wl_val (r_assign rfl) (ltn rfl) ?_
                  refine wl_nil ?_
                  refine wq_seq ?_
                  refine wc_cond rfl (fun h7 => ?_) (fun h7 => ?_)
                  · (try simp only [cmpS] at h7)
                    try (exfalso; first | contradiction | omega)
                    all_goals
                      
                      refine wc_region ?_
                      refine wl_val (r_move rfl) (ltn rfl) ?_
                      refine wl_val (r_nil rfl) (ltn rfl) ?_
                      refine wl_val (r_fieldA 4 Tryz.underlying178 rfl rfl Tryz.sizeOf3 (by decide) rfl (by first | exact Nat.zero_add _ | rfl)) (ltn rfl) ?_
                      refine wl_val (r_load (plain_of Tryz.underlying3 rfl) rfl (cell_of_blk H16.get.2 rfl)) (ltn rfl) ?_
                      refine wl_val (r_move rfl) (ltn rfl) ?_
                      refine wl_val (r_len Tryz.underlying22 rfl) (ltn rfl) ?_
                      refine wl_val (r_move rfl) (ltn rfl) ?_
                      refine wl_val (r_move rfl) (ltn rfl) ?_
                      refine wl_val (r_sub rfl rfl (by omega)) (ltn rfl) ?_
                      refine wl_val (r_sub rfl rfl (by omega)) (ltn rfl) ?_
                      refine wl_val (r_add rfl rfl (by omega)) (ltn rfl) ?_
                      refine wl_val (r_nil rfl) (ltn rfl) ?_
                      refine wl_val (r_fieldA 4 Tryz.underlying178 rfl rfl Tryz.sizeOf3 (by decide) rfl (by first | exact Nat.zero_add _ | rfl)) (ltn rfl) ?_
                      refine wl_eff0 (e_store H16 Tryz.sizeOf3 rfl rfl rfl (by rw [buf_size]; decide)) ?_
                      rintro _ w17 H17
                      rw [buf_set_point] at H17
                      refine wl_nil ?_
                      refine wq_block_normal ?_
                      refine wq_seq ?_
                      refine wc_seq ?_
                      refine wc_block ?_
                      refine wc_seq ?_
                      refine wc_region ?_
                      refine wl_val (r_move rfl) (ltn rfl) ?_
                      refine wl_val (r_nil rfl) (ltn rfl) ?_
                      refine wl_val (r_fieldA 5 Tryz.underlying178 rfl rfl Tryz.sizeOf3 (by decide) rfl (by first | exact Nat.zero_add _ | rfl)) (ltn rfl) ?_
                      refine wl_val (r_load (plain_of Tryz.underlying3 rfl) rfl (cell_of_blk H17.get.2 rfl)) (ltn rfl) ?_
                      refine wl_val (r_move rfl) (ltn rfl) ?_
                      refine wl_val (r_gtr rfl rfl) (ltn rfl) ?_
                      refine wl_val (r_assign rfl) (ltn rfl) ?_
                      refine wl_nil ?_
                      refine wq_seq ?_
                      refine wc_cond rfl (fun h8 => ?_) (fun h8 => ?_)
                      · (try simp only [cmpS] at h8)
                        try (exfalso; first | contradiction | omega)
                        all_goals
                          
                          refine wc_region ?_
                          refine wl_val (r_move rfl) (ltn rfl) ?_
                          refine wl_val (r_nil rfl) (ltn rfl) ?_
                          refine wl_val (r_fieldA 5 Tryz.underlying178 rfl rfl Tryz.sizeOf3 (by decide) rfl (by first | exact Nat.zero_add _ | rfl)) (ltn rfl) ?_
                          refine wl_val (r_load (plain_of Tryz.underlying3 rfl) rfl (cell_of_blk H17.get.2 rfl)) (ltn rfl) ?_
                          refine wl_val (r_move rfl) (ltn rfl) ?_
                          refine wl_val (r_len Tryz.underlying22 rfl) (ltn rfl) ?_
                          refine wl_val (r_move rfl) (ltn rfl) ?_
                          refine wl_val (r_move rfl) (ltn rfl) ?_
                          refine wl_val (r_sub rfl rfl (by omega)) (ltn rfl) ?_
                          refine wl_val (r_sub rfl rfl (by omega)) (ltn rfl) ?_
                          refine wl_val (r_add rfl rfl (by omega)) (ltn rfl) ?_
                          refine wl_val (r_nil rfl) (ltn rfl) ?_
                          refine wl_val (r_fieldA 5 Tryz.underlying178 rfl rfl Tryz.sizeOf3 (by decide) rfl (by first | exact Nat.zero_add _ | rfl)) (ltn rfl) ?_
                          refine wl_eff0 (e_store H17 Tryz.sizeOf3 rfl rfl rfl (by rw [buf_size]; decide)) ?_
                          rintro _ w18 H18
                          rw [buf_set_mark] at H18
                          refine wl_nil ?_
                          refine wq_block_normal ?_
                          refine wq_seq ?_
                          refine wc_seq ?_
                          have H21 := H18.rot
                          refine wc_region ?_
                          refine wl_val (r_load_whole Tryz.underlying120 rfl Tryz.sizeOf120 rfl rfl H21.get.2) (ltn rfl) ?_
                          refine wl_eff0 (e_store_whole (cs := edCells i (.slice ad ((L.drop i).take (j - i)).length cd) (.slice ai l.length ci)) H21.r6 Tryz.sizeOf120 rfl rfl rfl rfl (ed_ones rfl rfl)) ?_
                          rintro _ w19 H19
                          refine wl_val (r_assign rfl) (ltn rfl) ?_
                          refine wl_nil ?_
                          refine wq_seq ?_
                          refine wc_ret ?_
                          refine wq_endCT (.inl rfl) Tryz.results113 rfl rfl Tryz.underlying120 rfl (by rw [show (Tryz.prog.info? 120).map (·.size) = some 3 from by kernel_rfl]; rfl) H19.get.2 ?_
                          refine ⟨_, _, rfl, ?_⟩
                          first
                            | rw [show movedP pt i j l.length = pt + ((l.length : Int) - ((j : Int) - i)) from by unfold movedP; rw [if_pos (by omega)]]
                            | rw [show movedP pt i j l.length = (i : Int) + l.length from by unfold movedP; rw [if_neg (by omega), if_pos (by omega)]]
                            | rw [show movedP pt i j l.length = pt from by unfold movedP; rw [if_neg (by omega), if_neg (by omega)]]
                          first
                            | rw [show movedM mk i j l.length = mk + ((l.length : Int) - ((j : Int) - i)) from by unfold movedM; rw [if_pos (by omega)]]
                            | rw [show movedM mk i j l.length = (i : Int) from by unfold movedM; rw [if_neg (by omega), if_pos (by omega)]]
                            | rw [show movedM mk i j l.length = mk from by unfold movedM; rw [if_neg (by omega), if_neg (by omega)]]
                          refine (Holds.mk_buf (f := i + l.length) (t := i + l.length + 16 + (j - i)) (v := .slice ax (gapped L i l.length).length cx) (xs := spliceL (gapped L i l.length) i l) (by omega) (by rw [spliceL_len (by omega)]; omega) hL' (by omega) (by rw [spliceL_len (by omega)]; omega) (by omega) (by omega) ?_).d3.swap
                          rw [show ((i + l.length : Nat) : Int) = (i : Int) + l.length from by omega, show ((i + l.length + 16 + (j - i) : Nat) : Int) = ((i + l.length + 16 : Nat) : Int) + ((j : Int) - i) from by omega]
                          exact H19.right.right
                      · (try simp only [cmpS] at h8)
                        try (exfalso; first | contradiction | omega)
                        all_goals
                          
                          refine wc_seq ?_
                          refine wc_region ?_
                          refine wl_val (r_move rfl) (ltn rfl) ?_
                          refine wl_val (r_nil rfl) (ltn rfl) ?_
                          refine wl_val (r_fieldA 5 Tryz.underlying178 rfl rfl Tryz.sizeOf3 (by decide) rfl (by first | exact Nat.zero_add _ | rfl)) (ltn rfl) ?_
                          refine wl_val (r_load (plain_of Tryz.underlying3 rfl) rfl (cell_of_blk H17.get.2 rfl)) (ltn rfl) ?_
                          refine wl_val (r_move rfl) (ltn rfl) ?_
                          refine wl_val (r_gtr rfl rfl) (ltn rfl) ?_
                          refine wl_val (r_assign rfl) (ltn rfl) ?_
                          refine wl_nil ?_
                          refine wq_seq ?_
                          refine wc_cond rfl (fun h9 => ?_) (fun h9 => ?_)
                          · (try simp only [cmpS] at h9)
                            try (exfalso; first | contradiction | omega)
                            all_goals
                              
                              refine wc_region ?_
                              refine wl_val (r_move rfl) (ltn rfl) ?_
                              refine wl_val (r_move rfl) (ltn rfl) ?_
                              refine wl_val (r_nil rfl) (ltn rfl) ?_
                              refine wl_val (r_fieldA 5 Tryz.underlying178 rfl rfl Tryz.sizeOf3 (by decide) rfl (by first | exact Nat.zero_add _ | rfl)) (ltn rfl) ?_
                              refine wl_eff0 (e_store H17 Tryz.sizeOf3 rfl rfl rfl (by rw [buf_size]; decide)) ?_
                              rintro _ w20 H20
                              rw [buf_set_mark] at H20
                              refine wl_nil ?_
                              refine wq_block_normal ?_
                              refine wq_seq ?_
                              refine wc_seq ?_
                              have H21 := H20.rot
                              refine wc_region ?_
                              refine wl_val (r_load_whole Tryz.underlying120 rfl Tryz.sizeOf120 rfl rfl H21.get.2) (ltn rfl) ?_
                              refine wl_eff0 (e_store_whole (cs := edCells i (.slice ad ((L.drop i).take (j - i)).length cd) (.slice ai l.length ci)) H21.r6 Tryz.sizeOf120 rfl rfl rfl rfl (ed_ones rfl rfl)) ?_
                              rintro _ w21 H21
                              refine wl_val (r_assign rfl) (ltn rfl) ?_
                              refine wl_nil ?_
                              refine wq_seq ?_
                              refine wc_ret ?_
                              refine wq_endCT (.inl rfl) Tryz.results113 rfl rfl Tryz.underlying120 rfl (by rw [show (Tryz.prog.info? 120).map (·.size) = some 3 from by kernel_rfl]; rfl) H21.get.2 ?_
                              refine ⟨_, _, rfl, ?_⟩
                              first
                                | rw [show movedP pt i j l.length = pt + ((l.length : Int) - ((j : Int) - i)) from by unfold movedP; rw [if_pos (by omega)]]
                                | rw [show movedP pt i j l.length = (i : Int) + l.length from by unfold movedP; rw [if_neg (by omega), if_pos (by omega)]]
                                | rw [show movedP pt i j l.length = pt from by unfold movedP; rw [if_neg (by omega), if_neg (by omega)]]
                              first
                                | rw [show movedM mk i j l.length = mk + ((l.length : Int) - ((j : Int) - i)) from by unfold movedM; rw [if_pos (by omega)]]
                                | rw [show movedM mk i j l.length = (i : Int) from by unfold movedM; rw [if_neg (by omega), if_pos (by omega)]]
                                | rw [show movedM mk i j l.length = mk from by unfold movedM; rw [if_neg (by omega), if_neg (by omega)]]
                              refine (Holds.mk_buf (f := i + l.length) (t := i + l.length + 16 + (j - i)) (v := .slice ax (gapped L i l.length).length cx) (xs := spliceL (gapped L i l.length) i l) (by omega) (by rw [spliceL_len (by omega)]; omega) hL' (by omega) (by rw [spliceL_len (by omega)]; omega) (by omega) (by omega) ?_).d3.swap
                              rw [show ((i + l.length : Nat) : Int) = (i : Int) + l.length from by omega, show ((i + l.length + 16 + (j - i) : Nat) : Int) = ((i + l.length + 16 : Nat) : Int) + ((j : Int) - i) from by omega]
                              exact H21.right.right
                          · (try simp only [cmpS] at h9)
                            try (exfalso; first | contradiction | omega)
                            all_goals
                              
                              refine wc_skip ?_
                              refine wq_block_normal ?_
                              refine wq_seq ?_
                              refine wc_seq ?_
                              have H21 := H17.rot
                              refine wc_region ?_
                              refine wl_val (r_load_whole Tryz.underlying120 rfl Tryz.sizeOf120 rfl rfl H21.get.2) (ltn rfl) ?_
                              refine wl_eff0 (e_store_whole (cs := edCells i (.slice ad ((L.drop i).take (j - i)).length cd) (.slice ai l.length ci)) H21.r6 Tryz.sizeOf120 rfl rfl rfl rfl (ed_ones rfl rfl)) ?_
                              rintro _ w22 H22
                              refine wl_val (r_assign rfl) (ltn rfl) ?_
                              refine wl_nil ?_
                              refine wq_seq ?_
                              refine wc_ret ?_
                              refine wq_endCT (.inl rfl) Tryz.results113 rfl rfl Tryz.underlying120 rfl (by rw [show (Tryz.prog.info? 120).map (·.size) = some 3 from by kernel_rfl]; rfl) H22.get.2 ?_
                              refine ⟨_, _, rfl, ?_⟩
                              first
                                | rw [show movedP pt i j l.length = pt + ((l.length : Int) - ((j : Int) - i)) from by unfold movedP; rw [if_pos (by omega)]]
                                | rw [show movedP pt i j l.length = (i : Int) + l.length from by unfold movedP; rw [if_neg (by omega), if_pos (by omega)]]
                                | rw [show movedP pt i j l.length = pt from by unfold movedP; rw [if_neg (by omega), if_neg (by omega)]]
                              first
                                | rw [show movedM mk i j l.length = mk + ((l.length : Int) - ((j : Int) - i)) from by unfold movedM; rw [if_pos (by omega)]]
                                | rw [show movedM mk i j l.length = (i : Int) from by unfold movedM; rw [if_neg (by omega), if_pos (by omega)]]
                                | rw [show movedM mk i j l.length = mk from by unfold movedM; rw [if_neg (by omega), if_neg (by omega)]]
                              refine (Holds.mk_buf (f := i + l.length) (t := i + l.length + 16 + (j - i)) (v := .slice ax (gapped L i l.length).length cx) (xs := spliceL (gapped L i l.length) i l) (by omega) (by rw [spliceL_len (by omega)]; omega) hL' (by omega) (by rw [spliceL_len (by omega)]; omega) (by omega) (by omega) ?_).d3.swap
                              rw [show ((i + l.length : Nat) : Int) = (i : Int) + l.length from by omega, show ((i + l.length + 16 + (j - i) : Nat) : Int) = ((i + l.length + 16 : Nat) : Int) + ((j : Int) - i) from by omega]
                              exact H22.right.right
                  · (try simp only [cmpS] at h7)
                    try (exfalso; first | contradiction | omega)
                    all_goals
                      
                      refine wc_seq ?_
                      refine wc_region ?_
                      refine wl_val (r_move rfl) (ltn rfl) ?_
                      refine wl_val (r_nil rfl) (ltn rfl) ?_
                      refine wl_val (r_fieldA 4 Tryz.underlying178 rfl rfl Tryz.sizeOf3 (by decide) rfl (by first | exact Nat.zero_add _ | rfl)) (ltn rfl) ?_
                      refine wl_val (r_load (plain_of Tryz.underlying3 rfl) rfl (cell_of_blk H16.get.2 rfl)) (ltn rfl) ?_
                      refine wl_val (r_move rfl) (ltn rfl) ?_
                      refine wl_val (r_geq rfl rfl) (ltn rfl) ?_
                      refine wl_val (r_assign rfl) (ltn rfl) ?_
                      refine wl_nil ?_
                      refine wq_seq ?_
                      refine wc_cond rfl (fun h10 => ?_) (fun h10 => ?_)
                      · (try simp only [cmpS] at h10)
                        try (exfalso; first | contradiction | omega)
                        all_goals
                          
                          refine wc_region ?_
                          refine wl_val (r_move rfl) (ltn rfl) ?_
                          refine wl_val (r_move rfl) (ltn rfl) ?_
                          refine wl_val (r_move rfl) (ltn rfl) ?_
                          refine wl_val (r_len Tryz.underlying22 rfl) (ltn rfl) ?_
                          refine wl_val (r_add rfl rfl (by omega)) (ltn rfl) ?_
                          refine wl_val (r_nil rfl) (ltn rfl) ?_
                          refine wl_val (r_fieldA 4 Tryz.underlying178 rfl rfl Tryz.sizeOf3 (by decide) rfl (by first | exact Nat.zero_add _ | rfl)) (ltn rfl) ?_
                          refine wl_eff0 (e_store H16 Tryz.sizeOf3 rfl rfl rfl (by rw [buf_size]; decide)) ?_
                          rintro _ w23 H23
                          rw [buf_set_point] at H23
                          refine wl_nil ?_
                          refine wq_block_normal ?_
                          refine wq_seq ?_
                          refine wc_seq ?_
                          refine wc_block ?_
                          refine wc_seq ?_
                          refine wc_region ?_
                          refine wl_val (r_move rfl) (ltn rfl) ?_
                          refine wl_val (r_nil rfl) (ltn rfl) ?_
                          refine wl_val (r_fieldA 5 Tryz.underlying178 rfl rfl Tryz.sizeOf3 (by decide) rfl (by first | exact Nat.zero_add _ | rfl)) (ltn rfl) ?_
                          refine wl_val (r_load (plain_of Tryz.underlying3 rfl) rfl (cell_of_blk H23.get.2 rfl)) (ltn rfl) ?_
                          refine wl_val (r_move rfl) (ltn rfl) ?_
                          refine wl_val (r_gtr rfl rfl) (ltn rfl) ?_
                          refine wl_val (r_assign rfl) (ltn rfl) ?_
                          refine wl_nil ?_
                          refine wq_seq ?_
                          refine wc_cond rfl (fun h11 => ?_) (fun h11 => ?_)
                          · (try simp only [cmpS] at h11)
                            try (exfalso; first | contradiction | omega)
                            all_goals
                              
                              refine wc_region ?_
                              refine wl_val (r_move rfl) (ltn rfl) ?_
                              refine wl_val (r_nil rfl) (ltn rfl) ?_
                              refine wl_val (r_fieldA 5 Tryz.underlying178 rfl rfl Tryz.sizeOf3 (by decide) rfl (by first | exact Nat.zero_add _ | rfl)) (ltn rfl) ?_
                              refine wl_val (r_load (plain_of Tryz.underlying3 rfl) rfl (cell_of_blk H23.get.2 rfl)) (ltn rfl) ?_
                              refine wl_val (r_move rfl) (ltn rfl) ?_
                              refine wl_val (r_len Tryz.underlying22 rfl) (ltn rfl) ?_
                              refine wl_val (r_move rfl) (ltn rfl) ?_
                              refine wl_val (r_move rfl) (ltn rfl) ?_
                              refine wl_val (r_sub rfl rfl (by omega)) (ltn rfl) ?_
                              refine wl_val (r_sub rfl rfl (by omega)) (ltn rfl) ?_
                              refine wl_val (r_add rfl rfl (by omega)) (ltn rfl) ?_
                              refine wl_val (r_nil rfl) (ltn rfl) ?_
                              refine wl_val (r_fieldA 5 Tryz.underlying178 rfl rfl Tryz.sizeOf3 (by decide) rfl (by first | exact Nat.zero_add _ | rfl)) (ltn rfl) ?_
                              refine wl_eff0 (e_store H23 Tryz.sizeOf3 rfl rfl rfl (by rw [buf_size]; decide)) ?_
                              rintro _ w24 H24
                              rw [buf_set_mark] at H24
                              refine wl_nil ?_
                              refine wq_block_normal ?_
                              refine wq_seq ?_
                              refine wc_seq ?_
                              have H21 := H24.rot
                              refine wc_region ?_
                              refine wl_val (r_load_whole Tryz.underlying120 rfl Tryz.sizeOf120 rfl rfl H21.get.2) (ltn rfl) ?_
                              refine wl_eff0 (e_store_whole (cs := edCells i (.slice ad ((L.drop i).take (j - i)).length cd) (.slice ai l.length ci)) H21.r6 Tryz.sizeOf120 rfl rfl rfl rfl (ed_ones rfl rfl)) ?_
                              rintro _ w25 H25
                              refine wl_val (r_assign rfl) (ltn rfl) ?_
                              refine wl_nil ?_
                              refine wq_seq ?_
                              refine wc_ret ?_
                              refine wq_endCT (.inl rfl) Tryz.results113 rfl rfl Tryz.underlying120 rfl (by rw [show (Tryz.prog.info? 120).map (·.size) = some 3 from by kernel_rfl]; rfl) H25.get.2 ?_
                              refine ⟨_, _, rfl, ?_⟩
                              first
                                | rw [show movedP pt i j l.length = pt + ((l.length : Int) - ((j : Int) - i)) from by unfold movedP; rw [if_pos (by omega)]]
                                | rw [show movedP pt i j l.length = (i : Int) + l.length from by unfold movedP; rw [if_neg (by omega), if_pos (by omega)]]
                                | rw [show movedP pt i j l.length = pt from by unfold movedP; rw [if_neg (by omega), if_neg (by omega)]]
                              first
                                | rw [show movedM mk i j l.length = mk + ((l.length : Int) - ((j : Int) - i)) from by unfold movedM; rw [if_pos (by omega)]]
                                | rw [show movedM mk i j l.length = (i : Int) from by unfold movedM; rw [if_neg (by omega), if_pos (by omega)]]
                                | rw [show movedM mk i j l.length = mk from by unfold movedM; rw [if_neg (by omega), if_neg (by omega)]]
                              refine (Holds.mk_buf (f := i + l.length) (t := i + l.length + 16 + (j - i)) (v := .slice ax (gapped L i l.length).length cx) (xs := spliceL (gapped L i l.length) i l) (by omega) (by rw [spliceL_len (by omega)]; omega) hL' (by omega) (by rw [spliceL_len (by omega)]; omega) (by omega) (by omega) ?_).d3.swap
                              rw [show ((i + l.length : Nat) : Int) = (i : Int) + l.length from by omega, show ((i + l.length + 16 + (j - i) : Nat) : Int) = ((i + l.length + 16 : Nat) : Int) + ((j : Int) - i) from by omega]
                              exact H25.right.right
                          · (try simp only [cmpS] at h11)
                            try (exfalso; first | contradiction | omega)
                            all_goals
                              
                              refine wc_seq ?_
                              refine wc_region ?_
                              refine wl_val (r_move rfl) (ltn rfl) ?_
                              refine wl_val (r_nil rfl) (ltn rfl) ?_
                              refine wl_val (r_fieldA 5 Tryz.underlying178 rfl rfl Tryz.sizeOf3 (by decide) rfl (by first | exact Nat.zero_add _ | rfl)) (ltn rfl) ?_
                              refine wl_val (r_load (plain_of Tryz.underlying3 rfl) rfl (cell_of_blk H23.get.2 rfl)) (ltn rfl) ?_
                              refine wl_val (r_move rfl) (ltn rfl) ?_
                              refine wl_val (r_gtr rfl rfl) (ltn rfl) ?_
                              refine wl_val (r_assign rfl) (ltn rfl) ?_
                              refine wl_nil ?_
                              refine wq_seq ?_
                              refine wc_cond rfl (fun h12 => ?_) (fun h12 => ?_)
                              · (try simp only [cmpS] at h12)
                                try (exfalso; first | contradiction | omega)
                                all_goals
                                  
                                  refine wc_region ?_
                                  refine wl_val (r_move rfl) (ltn rfl) ?_
                                  refine wl_val (r_move rfl) (ltn rfl) ?_
                                  refine wl_val (r_nil rfl) (ltn rfl) ?_
                                  refine wl_val (r_fieldA 5 Tryz.underlying178 rfl rfl Tryz.sizeOf3 (by decide) rfl (by first | exact Nat.zero_add _ | rfl)) (ltn rfl) ?_
                                  refine wl_eff0 (e_store H23 Tryz.sizeOf3 rfl rfl rfl (by rw [buf_size]; decide)) ?_
                                  rintro _ w26 H26
                                  rw [buf_set_mark] at H26
                                  refine wl_nil ?_
                                  refine wq_block_normal ?_
                                  refine wq_seq ?_
                                  refine wc_seq ?_
                                  have H21 := H26.rot
                                  refine wc_region ?_
                                  refine wl_val (r_load_whole Tryz.underlying120 rfl Tryz.sizeOf120 rfl rfl H21.get.2) (ltn rfl) ?_
                                  refine wl_eff0 (e_store_whole (cs := edCells i (.slice ad ((L.drop i).take (j - i)).length cd) (.slice ai l.length ci)) H21.r6 Tryz.sizeOf120 rfl rfl rfl rfl (ed_ones rfl rfl)) ?_
                                  rintro _ w27 H27
                                  refine wl_val (r_assign rfl) (ltn rfl) ?_
                                  refine wl_nil ?_
                                  refine wq_seq ?_
                                  refine wc_ret ?_
                                  refine wq_endCT (.inl rfl) Tryz.results113 rfl rfl Tryz.underlying120 rfl (by rw [show (Tryz.prog.info? 120).map (·.size) = some 3 from by kernel_rfl]; rfl) H27.get.2 ?_
                                  refine ⟨_, _, rfl, ?_⟩
                                  first
                                    | rw [show movedP pt i j l.length = pt + ((l.length : Int) - ((j : Int) - i)) from by unfold movedP; rw [if_pos (by omega)]]
                                    | rw [show movedP pt i j l.length = (i : Int) + l.length from by unfold movedP; rw [if_neg (by omega), if_pos (by omega)]]
                                    | rw [show movedP pt i j l.length = pt from by unfold movedP; rw [if_neg (by omega), if_neg (by omega)]]
                                  first
                                    | rw [show movedM mk i j l.length = mk + ((l.length : Int) - ((j : Int) - i)) from by unfold movedM; rw [if_pos (by omega)]]
                                    | rw [show movedM mk i j l.length = (i : Int) from by unfold movedM; rw [if_neg (by omega), if_pos (by omega)]]
                                    | rw [show movedM mk i j l.length = mk from by unfold movedM; rw [if_neg (by omega), if_neg (by omega)]]
                                  refine (Holds.mk_buf (f := i + l.length) (t := i + l.length + 16 + (j - i)) (v := .slice ax (gapped L i l.length).length cx) (xs := spliceL (gapped L i l.length) i l) (by omega) (by rw [spliceL_len (by omega)]; omega) hL' (by omega) (by rw [spliceL_len (by omega)]; omega) (by omega) (by omega) ?_).d3.swap
                                  rw [show ((i + l.length : Nat) : Int) = (i : Int) + l.length from by omega, show ((i + l.length + 16 + (j - i) : Nat) : Int) = ((i + l.length + 16 : Nat) : Int) + ((j : Int) - i) from by omega]
                                  exact H27.right.right
                              · (try simp only [cmpS] at h12)
                                try (exfalso; first | contradiction | omega)
                                all_goals
                                  
                                  refine wc_skip ?_
                                  refine wq_block_normal ?_
                                  refine wq_seq ?_
                                  refine wc_seq ?_
                                  have H21 := H23.rot
                                  refine wc_region ?_
                                  refine wl_val (r_load_whole Tryz.underlying120 rfl Tryz.sizeOf120 rfl rfl H21.get.2) (ltn rfl) ?_
                                  refine wl_eff0 (e_store_whole (cs := edCells i (.slice ad ((L.drop i).take (j - i)).length cd) (.slice ai l.length ci)) H21.r6 Tryz.sizeOf120 rfl rfl rfl rfl (ed_ones rfl rfl)) ?_
                                  rintro _ w28 H28
                                  refine wl_val (r_assign rfl) (ltn rfl) ?_
                                  refine wl_nil ?_
                                  refine wq_seq ?_
                                  refine wc_ret ?_
                                  refine wq_endCT (.inl rfl) Tryz.results113 rfl rfl Tryz.underlying120 rfl (by rw [show (Tryz.prog.info? 120).map (·.size) = some 3 from by kernel_rfl]; rfl) H28.get.2 ?_
                                  refine ⟨_, _, rfl, ?_⟩
                                  first
                                    | rw [show movedP pt i j l.length = pt + ((l.length : Int) - ((j : Int) - i)) from by unfold movedP; rw [if_pos (by omega)]]
                                    | rw [show movedP pt i j l.length = (i : Int) + l.length from by unfold movedP; rw [if_neg (by omega), if_pos (by omega)]]
                                    | rw [show movedP pt i j l.length = pt from by unfold movedP; rw [if_neg (by omega), if_neg (by omega)]]
                                  first
                                    | rw [show movedM mk i j l.length = mk + ((l.length : Int) - ((j : Int) - i)) from by unfold movedM; rw [if_pos (by omega)]]
                                    | rw [show movedM mk i j l.length = (i : Int) from by unfold movedM; rw [if_neg (by omega), if_pos (by omega)]]
                                    | rw [show movedM mk i j l.length = mk from by unfold movedM; rw [if_neg (by omega), if_neg (by omega)]]
                                  refine (Holds.mk_buf (f := i + l.length) (t := i + l.length + 16 + (j - i)) (v := .slice ax (gapped L i l.length).length cx) (xs := spliceL (gapped L i l.length) i l) (by omega) (by rw [spliceL_len (by omega)]; omega) hL' (by omega) (by rw [spliceL_len (by omega)]; omega) (by omega) (by omega) ?_).d3.swap
                                  rw [show ((i + l.length : Nat) : Int) = (i : Int) + l.length from by omega, show ((i + l.length + 16 + (j - i) : Nat) : Int) = ((i + l.length + 16 : Nat) : Int) + ((j : Int) - i) from by omega]
                                  exact H28.right.right
                      · (try simp only [cmpS] at h10)
                        try (exfalso; first | contradiction | omega)
                        all_goals
                          
                          refine wc_skip ?_
                          refine wq_block_normal ?_
                          refine wq_seq ?_
                          refine wc_seq ?_
                          refine wc_block ?_
                          refine wc_seq ?_
                          refine wc_region ?_
                          refine wl_val (r_move rfl) (ltn rfl) ?_
                          refine wl_val (r_nil rfl) (ltn rfl) ?_
                          refine wl_val (r_fieldA 5 Tryz.underlying178 rfl rfl Tryz.sizeOf3 (by decide) rfl (by first | exact Nat.zero_add _ | rfl)) (ltn rfl) ?_
                          refine wl_val (r_load (plain_of Tryz.underlying3 rfl) rfl (cell_of_blk H16.get.2 rfl)) (ltn rfl) ?_
                          refine wl_val (r_move rfl) (ltn rfl) ?_
                          refine wl_val (r_gtr rfl rfl) (ltn rfl) ?_
                          refine wl_val (r_assign rfl) (ltn rfl) ?_
                          refine wl_nil ?_
                          refine wq_seq ?_
                          refine wc_cond rfl (fun h13 => ?_) (fun h13 => ?_)
                          · (try simp only [cmpS] at h13)
                            try (exfalso; first | contradiction | omega)
                            all_goals
                              
                              refine wc_region ?_
                              refine wl_val (r_move rfl) (ltn rfl) ?_
                              refine wl_val (r_nil rfl) (ltn rfl) ?_
                              refine wl_val (r_fieldA 5 Tryz.underlying178 rfl rfl Tryz.sizeOf3 (by decide) rfl (by first | exact Nat.zero_add _ | rfl)) (ltn rfl) ?_
                              refine wl_val (r_load (plain_of Tryz.underlying3 rfl) rfl (cell_of_blk H16.get.2 rfl)) (ltn rfl) ?_
                              refine wl_val (r_move rfl) (ltn rfl) ?_
                              refine wl_val (r_len Tryz.underlying22 rfl) (ltn rfl) ?_
                              refine wl_val (r_move rfl) (ltn rfl) ?_
                              refine wl_val (r_move rfl) (ltn rfl) ?_
                              refine wl_val (r_sub rfl rfl (by omega)) (ltn rfl) ?_
                              refine wl_val (r_sub rfl rfl (by omega)) (ltn rfl) ?_
                              refine wl_val (r_add rfl rfl (by omega)) (ltn rfl) ?_
                              refine wl_val (r_nil rfl) (ltn rfl) ?_
                              refine wl_val (r_fieldA 5 Tryz.underlying178 rfl rfl Tryz.sizeOf3 (by decide) rfl (by first | exact Nat.zero_add _ | rfl)) (ltn rfl) ?_
                              refine wl_eff0 (e_store H16 Tryz.sizeOf3 rfl rfl rfl (by rw [buf_size]; decide)) ?_
                              rintro _ w29 H29
                              rw [buf_set_mark] at H29
                              refine wl_nil ?_
                              refine wq_block_normal ?_
                              refine wq_seq ?_
                              refine wc_seq ?_
                              have H21 := H29.rot
                              refine wc_region ?_
                              refine wl_val (r_load_whole Tryz.underlying120 rfl Tryz.sizeOf120 rfl rfl H21.get.2) (ltn rfl) ?_
                              refine wl_eff0 (e_store_whole (cs := edCells i (.slice ad ((L.drop i).take (j - i)).length cd) (.slice ai l.length ci)) H21.r6 Tryz.sizeOf120 rfl rfl rfl rfl (ed_ones rfl rfl)) ?_
                              rintro _ w30 H30
                              refine wl_val (r_assign rfl) (ltn rfl) ?_
                              refine wl_nil ?_
                              refine wq_seq ?_
                              refine wc_ret ?_
                              refine wq_endCT (.inl rfl) Tryz.results113 rfl rfl Tryz.underlying120 rfl (by rw [show (Tryz.prog.info? 120).map (·.size) = some 3 from by kernel_rfl]; rfl) H30.get.2 ?_
                              refine ⟨_, _, rfl, ?_⟩
                              first
                                | rw [show movedP pt i j l.length = pt + ((l.length : Int) - ((j : Int) - i)) from by unfold movedP; rw [if_pos (by omega)]]
                                | rw [show movedP pt i j l.length = (i : Int) + l.length from by unfold movedP; rw [if_neg (by omega), if_pos (by omega)]]
                                | rw [show movedP pt i j l.length = pt from by unfold movedP; rw [if_neg (by omega), if_neg (by omega)]]
                              first
                                | rw [show movedM mk i j l.length = mk + ((l.length : Int) - ((j : Int) - i)) from by unfold movedM; rw [if_pos (by omega)]]
                                | rw [show movedM mk i j l.length = (i : Int) from by unfold movedM; rw [if_neg (by omega), if_pos (by omega)]]
                                | rw [show movedM mk i j l.length = mk from by unfold movedM; rw [if_neg (by omega), if_neg (by omega)]]
                              refine (Holds.mk_buf (f := i + l.length) (t := i + l.length + 16 + (j - i)) (v := .slice ax (gapped L i l.length).length cx) (xs := spliceL (gapped L i l.length) i l) (by omega) (by rw [spliceL_len (by omega)]; omega) hL' (by omega) (by rw [spliceL_len (by omega)]; omega) (by omega) (by omega) ?_).d3.swap
                              rw [show ((i + l.length : Nat) : Int) = (i : Int) + l.length from by omega, show ((i + l.length + 16 + (j - i) : Nat) : Int) = ((i + l.length + 16 : Nat) : Int) + ((j : Int) - i) from by omega]
                              exact H30.right.right
                          · (try simp only [cmpS] at h13)
                            try (exfalso; first | contradiction | omega)
                            all_goals
                              
                              refine wc_seq ?_
                              refine wc_region ?_
                              refine wl_val (r_move rfl) (ltn rfl) ?_
                              refine wl_val (r_nil rfl) (ltn rfl) ?_
                              refine wl_val (r_fieldA 5 Tryz.underlying178 rfl rfl Tryz.sizeOf3 (by decide) rfl (by first | exact Nat.zero_add _ | rfl)) (ltn rfl) ?_
                              refine wl_val (r_load (plain_of Tryz.underlying3 rfl) rfl (cell_of_blk H16.get.2 rfl)) (ltn rfl) ?_
                              refine wl_val (r_move rfl) (ltn rfl) ?_
                              refine wl_val (r_gtr rfl rfl) (ltn rfl) ?_
                              refine wl_val (r_assign rfl) (ltn rfl) ?_
                              refine wl_nil ?_
                              refine wq_seq ?_
                              refine wc_cond rfl (fun h14 => ?_) (fun h14 => ?_)
                              · (try simp only [cmpS] at h14)
                                try (exfalso; first | contradiction | omega)
                                all_goals
                                  
                                  refine wc_region ?_
                                  refine wl_val (r_move rfl) (ltn rfl) ?_
                                  refine wl_val (r_move rfl) (ltn rfl) ?_
                                  refine wl_val (r_nil rfl) (ltn rfl) ?_
                                  refine wl_val (r_fieldA 5 Tryz.underlying178 rfl rfl Tryz.sizeOf3 (by decide) rfl (by first | exact Nat.zero_add _ | rfl)) (ltn rfl) ?_
                                  refine wl_eff0 (e_store H16 Tryz.sizeOf3 rfl rfl rfl (by rw [buf_size]; decide)) ?_
                                  rintro _ w31 H31
                                  rw [buf_set_mark] at H31
                                  refine wl_nil ?_
                                  refine wq_block_normal ?_
                                  refine wq_seq ?_
                                  refine wc_seq ?_
                                  have H21 := H31.rot
                                  refine wc_region ?_
                                  refine wl_val (r_load_whole Tryz.underlying120 rfl Tryz.sizeOf120 rfl rfl H21.get.2) (ltn rfl) ?_
                                  refine wl_eff0 (e_store_whole (cs := edCells i (.slice ad ((L.drop i).take (j - i)).length cd) (.slice ai l.length ci)) H21.r6 Tryz.sizeOf120 rfl rfl rfl rfl (ed_ones rfl rfl)) ?_
                                  rintro _ w32 H32
                                  refine wl_val (r_assign rfl) (ltn rfl) ?_
                                  refine wl_nil ?_
                                  refine wq_seq ?_
                                  refine wc_ret ?_
                                  refine wq_endCT (.inl rfl) Tryz.results113 rfl rfl Tryz.underlying120 rfl (by rw [show (Tryz.prog.info? 120).map (·.size) = some 3 from by kernel_rfl]; rfl) H32.get.2 ?_
                                  refine ⟨_, _, rfl, ?_⟩
                                  first
                                    | rw [show movedP pt i j l.length = pt + ((l.length : Int) - ((j : Int) - i)) from by unfold movedP; rw [if_pos (by omega)]]
                                    | rw [show movedP pt i j l.length = (i : Int) + l.length from by unfold movedP; rw [if_neg (by omega), if_pos (by omega)]]
                                    | rw [show movedP pt i j l.length = pt from by unfold movedP; rw [if_neg (by omega), if_neg (by omega)]]
                                  first
                                    | rw [show movedM mk i j l.length = mk + ((l.length : Int) - ((j : Int) - i)) from by unfold movedM; rw [if_pos (by omega)]]
                                    | rw [show movedM mk i j l.length = (i : Int) from by unfold movedM; rw [if_neg (by omega), if_pos (by omega)]]
                                    | rw [show movedM mk i j l.length = mk from by unfold movedM; rw [if_neg (by omega), if_neg (by omega)]]
                                  refine (Holds.mk_buf (f := i + l.length) (t := i + l.length + 16 + (j - i)) (v := .slice ax (gapped L i l.length).length cx) (xs := spliceL (gapped L i l.length) i l) (by omega) (by rw [spliceL_len (by omega)]; omega) hL' (by omega) (by rw [spliceL_len (by omega)]; omega) (by omega) (by omega) ?_).d3.swap
                                  rw [show ((i + l.length : Nat) : Int) = (i : Int) + l.length from by omega, show ((i + l.length + 16 + (j - i) : Nat) : Int) = ((i + l.length + 16 : Nat) : Int) + ((j : Int) - i) from by omega]
                                  exact H32.right.right
                              · (try simp only [cmpS] at h14)
                                try (exfalso; first | contradiction | omega)
                                all_goals
                                  
                                  refine wc_skip ?_
                                  refine wq_block_normal ?_
                                  refine wq_seq ?_
                                  refine wc_seq ?_
                                  have H21 := H16.rot
                                  refine wc_region ?_
                                  refine wl_val (r_load_whole Tryz.underlying120 rfl Tryz.sizeOf120 rfl rfl H21.get.2) (ltn rfl) ?_
                                  refine wl_eff0 (e_store_whole (cs := edCells i (.slice ad ((L.drop i).take (j - i)).length cd) (.slice ai l.length ci)) H21.r6 Tryz.sizeOf120 rfl rfl rfl rfl (ed_ones rfl rfl)) ?_
                                  rintro _ w33 H33
                                  refine wl_val (r_assign rfl) (ltn rfl) ?_
                                  refine wl_nil ?_
                                  refine wq_seq ?_
                                  refine wc_ret ?_
                                  refine wq_endCT (.inl rfl) Tryz.results113 rfl rfl Tryz.underlying120 rfl (by rw [show (Tryz.prog.info? 120).map (·.size) = some 3 from by kernel_rfl]; rfl) H33.get.2 ?_
                                  refine ⟨_, _, rfl, ?_⟩
                                  first
                                    | rw [show movedP pt i j l.length = pt + ((l.length : Int) - ((j : Int) - i)) from by unfold movedP; rw [if_pos (by omega)]]
                                    | rw [show movedP pt i j l.length = (i : Int) + l.length from by unfold movedP; rw [if_neg (by omega), if_pos (by omega)]]
                                    | rw [show movedP pt i j l.length = pt from by unfold movedP; rw [if_neg (by omega), if_neg (by omega)]]
                                  first
                                    | rw [show movedM mk i j l.length = mk + ((l.length : Int) - ((j : Int) - i)) from by unfold movedM; rw [if_pos (by omega)]]
                                    | rw [show movedM mk i j l.length = (i : Int) from by unfold movedM; rw [if_neg (by omega), if_pos (by omega)]]
                                    | rw [show movedM mk i j l.length = mk from by unfold movedM; rw [if_neg (by omega), if_neg (by omega)]]
                                  refine (Holds.mk_buf (f := i + l.length) (t := i + l.length + 16 + (j - i)) (v := .slice ax (gapped L i l.length).length cx) (xs := spliceL (gapped L i l.length) i l) (by omega) (by rw [spliceL_len (by omega)]; omega) hL' (by omega) (by rw [spliceL_len (by omega)]; omega) (by omega) (by omega) ?_).d3.swap
                                  rw [show ((i + l.length : Nat) : Int) = (i : Int) + l.length from by omega, show ((i + l.length + 16 + (j - i) : Nat) : Int) = ((i + l.length + 16 : Nat) : Int) + ((j : Int) - i) from by omega]
                                  exact H33.right.right
end
end Go.Proofs.YtgmpclifphbjkaaGreatDoor
end
