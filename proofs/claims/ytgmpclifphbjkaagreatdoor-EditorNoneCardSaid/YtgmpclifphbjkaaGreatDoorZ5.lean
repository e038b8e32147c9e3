import Derived.Test.YtgmpclifphbjkaaGreatDoorZ4
/- Texts of mine, joined: Buf2. -/
section
/- The buffer's methods, further: the gap is opened; Replace. -/
set_option linter.unusedSimpArgs false
set_option linter.unusedVariables false
namespace Go.Proofs.YtgmpclifphbjkaaGreatDoor
open Go.RowKit

/-- The runes with a gap of so many at a place. -/
def gapped (L : List Int) (i r : Nat) : List Int := spliceL (spliceL (List.replicate (L.length + r + 16) 0) 0 (L.take i)) (i + r + 16) (L.drop i)
theorem gapped_len {L : List Int} {i r : Nat} (h : i ≤ L.length) : (gapped L i r).length = L.length + r + 16 := by
  unfold gapped
  rw [spliceL_len, spliceL_len] <;> simp [spliceL_len] <;> first | omega | (rw [spliceL_len] <;> simp <;> omega)
theorem splice_take {l ys : List Int} {i : Nat} (h : i + ys.length ≤ l.length) : (spliceL l i ys).take (i + ys.length) = l.take i ++ ys := by
  unfold spliceL
  rw [List.take_append_of_le_length (by simp; omega), List.take_of_length_le (by simp; omega)]
theorem splice_drop {l ys : List Int} {i j : Nat} (h : i + ys.length ≤ j) (h2 : j ≤ l.length) : (spliceL l i ys).drop j = l.drop j := by
  unfold spliceL
  rw [List.drop_append, List.drop_eq_nil_of_le (by simp; omega), List.nil_append, List.drop_drop]
  congr 1
  simp
  omega
theorem splice_take_le {l ys : List Int} {i j : Nat} (h : j ≤ i) (h2 : i ≤ l.length) : (spliceL l i ys).take j = l.take j := by
  unfold spliceL
  rw [List.append_assoc, List.take_append_of_le_length (by simp; omega), List.take_take, Nat.min_eq_left h]
theorem splice_drop_at {l ys : List Int} {i : Nat} (h : i + ys.length = l.length) : (spliceL l i ys).drop i = ys := by
  unfold spliceL
  rw [List.append_assoc, List.drop_append, List.drop_eq_nil_of_le (by simp; omega), List.nil_append]
  simp [show i - min i l.length = 0 from by omega, show l.length ≤ i + ys.length from by omega]
theorem gapped_take {L : List Int} {i r : Nat} (h : i ≤ L.length) : (gapped L i r).take i = L.take i := by
  have h1 : (spliceL (List.replicate (L.length + r + 16) (0 : Int)) 0 (L.take i)).length = L.length + r + 16 := by rw [spliceL_len] <;> simp; omega
  unfold gapped
  rw [splice_take_le (by omega) (by rw [h1]; omega)]
  have := splice_take (l := List.replicate (L.length + r + 16) (0 : Int)) (ys := L.take i) (i := 0) (by simp; omega)
  rw [show 0 + (L.take i).length = i from by simp; omega] at this
  simpa using this
theorem gapped_drop {L : List Int} {i r : Nat} (h : i ≤ L.length) : (gapped L i r).drop (i + r + 16) = L.drop i := by
  have h1 : (spliceL (List.replicate (L.length + r + 16) (0 : Int)) 0 (L.take i)).length = L.length + r + 16 := by rw [spliceL_len] <;> simp; omega
  exact splice_drop_at (by rw [h1]; simp; omega)
section
variable {w0 w : World} {F : HP} {p : Nat} {L : List Int} {pt mk : Int}
theorem buf_open_ret {i r : Nat} (H : Holds w0 w (BufRep p L pt mk • F)) (hi : i ≤ L.length) (hr : r ≤ 1024) :
    Ret Tryz.prog 165 #[.pointer (some ⟨p, 0, none⟩), .int .i64 i, .int .i64 r] w fun _ w' => ∃ v, Holds w0 w' (blk p (.cells (bufCells v i (i + r + 16 : Nat) pt mk) 178 (0, 0)) • RowI 21 .i32 v (gapped L i r) • F) := by
  have hL4 : L.length ≤ 1024 := by obtain ⟨a, c, xs, f, t, h1, h2, h3, h4, h5, h6, h7, hc1, hc2, hl, H1⟩ := H.buf; exact h4
  have e1 : ((L.length : Int) + r + 16).toNat = L.length + r + 16 := by omega
  refine ret_enter Tryz.func165 rfl Tryz.ntmps165 (Nat.le_of_ble_eq_true rfl) ?_
  dsimp only [slots0, Nat.reduceAdd]
  refine wc_seq ?_
  refine wc_region ?_
  refine wl_val (r_move rfl) (ltn rfl) ?_
  refine wl_eff (e_call (r_call rfl Tryz.func117 rfl rfl) (buf_text_ret H)) (ltn rfl) ?_
  rintro u w1 H1
  obtain ⟨au, cu, hu, hcu, hcu2, _⟩ := (H1.row_rd).form
  subst hu
  obtain ⟨a, c, xs, f, t, h1, h2, h3, h4, h5, h6, h7, hc1, hc2, hl, HB⟩ := H1.swap.buf
  refine wl_val (r_assign rfl) (ltn rfl) ?_
  refine wl_nil ?_
  refine wq_seq ?_
  refine wc_seq ?_
  refine wc_region ?_
  refine wl_val (r_move rfl) (ltn rfl) ?_
  refine wl_val (r_move rfl) (ltn rfl) ?_
  refine wl_val (r_len Tryz.underlying22 rfl) (ltn rfl) ?_
  refine wl_val (r_move rfl) (ltn rfl) ?_
  refine wl_val (r_add rfl rfl (by omega)) (ltn rfl) ?_
  refine wl_val (r_add rfl rfl (by omega)) (ltn rfl) ?_
  refine wl_eff (e_make_ints HB Tryz.underlying22 info_i32 rfl rfl (by omega) (by omega) (by omega)) (ltn rfl) ?_
  rintro v w2 H2
  rw [e1] at H2
  have hm : (List.replicate (L.length + r + 16) (0 : Int)).length = L.length + r + 16 := by simp
  obtain ⟨av, cv, hv, hcv, hcv2, _⟩ := (H2.row_rd).form
  rw [hm] at hv hcv
  subst hv
  refine wl_val (r_nil rfl) (ltn rfl) ?_
  refine wl_val (r_fieldA 1 Tryz.underlying178 rfl rfl Tryz.sizeOf22 (by decide) rfl (by first | exact Nat.zero_add _ | rfl)) (ltn rfl) ?_
  refine wl_eff0 (e_store H2.swap Tryz.sizeOf22 rfl rfl rfl (by rw [buf_size]; decide)) ?_
  rintro _ w3 H3
  rw [buf_set_l] at H3
  refine wl_nil ?_
  refine wq_seq ?_
  refine wc_seq ?_
  refine wc_region ?_
  refine wl_val (r_move rfl) (ltn rfl) ?_
  refine wl_val (r_move rfl) (ltn rfl) ?_
  refine wl_val (r_nil rfl) (ltn rfl) ?_
  refine wl_val (r_fieldA 2 Tryz.underlying178 rfl rfl Tryz.sizeOf3 (by decide) rfl (by first | exact Nat.zero_add _ | rfl)) (ltn rfl) ?_
  refine wl_eff0 (e_store H3 Tryz.sizeOf3 rfl rfl rfl (by rw [buf_size]; decide)) ?_
  rintro _ w4 H4
  rw [buf_set_from] at H4
  refine wl_nil ?_
  refine wq_seq ?_
  refine wc_seq ?_
  refine wc_region ?_
  refine wl_val (r_move rfl) (ltn rfl) ?_
  refine wl_val (r_move rfl) (ltn rfl) ?_
  refine wl_val (r_nil rfl) (ltn rfl) ?_
  refine wl_val (r_fieldA 1 Tryz.underlying178 rfl rfl Tryz.sizeOf22 (by decide) rfl (by first | exact Nat.zero_add _ | rfl)) (ltn rfl) ?_
  refine wl_val (r_load (plain_of Tryz.underlying22 rfl) rfl (cell_of_blk H4.get.2 rfl)) (ltn rfl) ?_
  refine wl_val (r_len Tryz.underlying22 rfl) (ltn rfl) ?_
  refine wl_val (r_move rfl) (ltn rfl) ?_
  refine wl_val (r_len Tryz.underlying22 rfl) (ltn rfl) ?_
  refine wl_val (r_move rfl) (ltn rfl) ?_
  refine wl_val (r_sub rfl rfl (by omega)) (ltn rfl) ?_
  refine wl_val (r_sub rfl rfl (by omega)) (ltn rfl) ?_
  refine wl_val (r_nil rfl) (ltn rfl) ?_
  refine wl_val (r_fieldA 3 Tryz.underlying178 rfl rfl Tryz.sizeOf3 (by decide) rfl (by first | exact Nat.zero_add _ | rfl)) (ltn rfl) ?_
  refine wl_eff0 (e_store H4 Tryz.sizeOf3 rfl rfl rfl (by rw [buf_size]; decide)) ?_
  rintro _ w5 H5
  rw [buf_set_to, show (((L.length + r + 16 : Nat) : Int) - ((L.length : Int) - (i : Int))) = ((i + r + 16 : Nat) : Int) from by omega] at H5
  have hb3 := H5.get.2
  refine wl_nil ?_
  refine wq_seq ?_
  refine wc_seq ?_
  refine wd_begin (n := 8) [0, 1, 2, 3, 4, 5, 6, 7] (fun W => W.heap[p]? = some (.cells (bufCells (.slice av (L.length + r + 16) cv) i (i + r + 16 : Nat) pt mk) 178 (0, 0))) (by kernel_rfl) (by kernel_rfl) rfl ?_
  have hS0 : (fun W => W.heap[p]? = some (.cells (bufCells (.slice av (L.length + r + 16) cv) i (i + r + 16 : Nat) pt mk) 178 (0, 0))) (w5.drew) := hb3
  have H4d := H5.drew
  refine wd_takeT 0 rfl (by kernel_rfl) (by kernel_rfl) hS0 (fun _ => r_move rfl) (ltn rfl) ?_
  refine wd_takeT 1 rfl (by kernel_rfl) (by kernel_rfl) hS0 (fun _ => r_nil rfl) (ltn rfl) ?_
  refine wd_takeT 2 rfl (by kernel_rfl) (by kernel_rfl) hS0 (fun _ => r_fieldA 1 Tryz.underlying178 rfl rfl Tryz.sizeOf22 (by decide) rfl (by first | exact Nat.zero_add _ | rfl)) (ltn rfl) ?_
  refine wd_take 3 rfl (by kernel_rfl) (by kernel_rfl) hS0 (by decide) (fun W hW => r_load (plain_of Tryz.underlying22 rfl) rfl (cell_of_blk hW rfl)) (ltn rfl) ?_
  refine wd_takeT 4 rfl (by kernel_rfl) (by kernel_rfl) hS0 (fun _ => r_move rfl) (ltn rfl) ?_
  refine wd_takeT 5 rfl (by kernel_rfl) (by kernel_rfl) hS0 (fun _ => r_move rfl) (ltn rfl) ?_
  refine wd_takeT 6 rfl (by kernel_rfl) (by kernel_rfl) hS0 (fun _ => r_slice Tryz.underlying22 Tryz.sizeOf21 rfl rfl rfl (by omega)) (ltn rfl) ?_
  refine wd_eff 7 rfl (by kernel_rfl) (e_copy_ints (i := 0) (m := L.take i) H4d.swap (RdI.upto H4d.r4.row_rd (by omega)) Tryz.underlying22 (by kernel_rfl) (by rw [hm, cutV_whole]; rfl) rfl (by simp; omega)) (ltn rfl) ?_
  rintro _ w6 ⟨rfl, H6⟩
  have hm2 : (spliceL (List.replicate (L.length + r + 16) (0 : Int)) 0 (L.take i)).length = L.length + r + 16 := by rw [spliceL_len] <;> simp; omega
  refine keepE (by kernel_rfl) ?_
  refine wd_done (by kernel_rfl) ?_
  refine wq_seq ?_
  refine wd_begin (n := 13) [0, 1, 2, 3, 4, 5, 6, 7, 8, 9, 10, 11, 12] (fun W => W.heap[p]? = some (.cells (bufCells (.slice av (L.length + r + 16) cv) i (i + r + 16 : Nat) pt mk) 178 (0, 0))) (by kernel_rfl) (by kernel_rfl) rfl ?_
  have hS0 : (fun W => W.heap[p]? = some (.cells (bufCells (.slice av (L.length + r + 16) cv) i (i + r + 16 : Nat) pt mk) 178 (0, 0))) (w6.drew) := H6.swap.get.2
  have H5d := H6.drew
  refine wd_takeT 0 rfl (by kernel_rfl) (by kernel_rfl) hS0 (fun _ => r_move rfl) (ltn rfl) ?_
  refine wd_takeT 1 rfl (by kernel_rfl) (by kernel_rfl) hS0 (fun _ => r_nil rfl) (ltn rfl) ?_
  refine wd_takeT 2 rfl (by kernel_rfl) (by kernel_rfl) hS0 (fun _ => r_fieldA 1 Tryz.underlying178 rfl rfl Tryz.sizeOf22 (by decide) rfl (by first | exact Nat.zero_add _ | rfl)) (ltn rfl) ?_
  refine wd_take 3 rfl (by kernel_rfl) (by kernel_rfl) hS0 (by decide) (fun W hW => r_load (plain_of Tryz.underlying22 rfl) rfl (cell_of_blk hW rfl)) (ltn rfl) ?_
  refine wd_takeT 4 rfl (by kernel_rfl) (by kernel_rfl) hS0 (fun _ => r_move rfl) (ltn rfl) ?_
  refine wd_takeT 5 rfl (by kernel_rfl) (by kernel_rfl) hS0 (fun _ => r_nil rfl) (ltn rfl) ?_
  refine wd_takeT 6 rfl (by kernel_rfl) (by kernel_rfl) hS0 (fun _ => r_fieldA 3 Tryz.underlying178 rfl rfl Tryz.sizeOf3 (by decide) rfl (by first | exact Nat.zero_add _ | rfl)) (ltn rfl) ?_
  refine wd_take 7 rfl (by kernel_rfl) (by kernel_rfl) hS0 (by decide) (fun W hW => r_load (plain_of Tryz.underlying3 rfl) rfl (cell_of_blk hW rfl)) (ltn rfl) ?_
  refine wd_takeT 8 rfl (by kernel_rfl) (by kernel_rfl) hS0 (fun _ => r_slice Tryz.underlying22 Tryz.sizeOf21 rfl rfl rfl (by omega)) (ltn rfl) ?_
  refine wd_takeT 9 rfl (by kernel_rfl) (by kernel_rfl) hS0 (fun _ => r_move rfl) (ltn rfl) ?_
  refine wd_takeT 10 rfl (by kernel_rfl) (by kernel_rfl) hS0 (fun _ => r_move rfl) (ltn rfl) ?_
  refine wd_takeT 11 rfl (by kernel_rfl) (by kernel_rfl) hS0 (fun _ => r_slice Tryz.underlying22 Tryz.sizeOf21 rfl rfl rfl (by omega)) (ltn rfl) ?_
  refine wd_eff 12 rfl (by kernel_rfl) (e_copy_ints (i := i + r + 16) (m := L.drop i) H5d (RdI.from H5d.r4.row_rd (by omega)) Tryz.underlying22 (by kernel_rfl) (by rw [hm2]; rfl) rfl (by rw [hm2]; simp; omega)) (ltn rfl) ?_
  rintro _ w7 ⟨rfl, H7⟩
  refine keepE (by kernel_rfl) ?_
  refine wd_done (by kernel_rfl) ?_
  refine wq_end0 (.inr rfl) Tryz.results165 ?_
  exact ⟨_, H7.swap.rot.right.rot.right⟩
theorem buf_none_rep (H : Holds w0 w (BufRep p L pt mk • F)) : Ret Tryz.prog 130 #[.pointer (some ⟨p, 0, none⟩)] w fun v w' => v = .bool false ∧ w = w' := by
  obtain ⟨a, c, xs, f, t, h1, h2, h3, h4, h5, h6, h7, hc1, hc2, hl, H1⟩ := H.buf
  exact buf_none_ret _ H1.get.2 rfl

/-- Where point and mark are behind a change. -/
def movedP (pt i j n : Int) : Int := if j < pt then pt + (n - (j - i)) else if i ≤ pt then i + n else pt
def movedM (mk i j n : Int) : Int := if j < mk then mk + (n - (j - i)) else if i < mk then i else mk
/-- An edit's cells. -/
def edCells (at_ : Int) (d i : Value) : Array Value := #[.int .i64 at_, d, i]
theorem ed_ones {at_ : Int} {d i : Value} (hd : d.oneCell' = true) (hi : i.oneCell' = true) : ∀ v ∈ (edCells at_ d i).toList, v.oneCell' = true := by
  intro v hv
  simp [edCells] at hv
  rcases hv with rfl | rfl | rfl <;> first | rfl | assumption

variable {v : Value} {l : List Int} {i j : Int}
theorem buf_replace_bad (H : Holds w0 w (BufRep p L pt mk • F)) (hr : FRdI w0 F .i32 v l) (hb : i < 0 ∨ L.length < i ∨ j < i ∨ L.length < j) :
    Ret Tryz.prog 113 #[.pointer (some ⟨p, 0, none⟩), .int .i64 i, .int .i64 j, v] w fun v' w' => v' = .tuple #[.agg (edCells 0 (.slice none 0 0) (.slice none 0 0)), .int .i64 70] ∧ Holds w0 w' (BufRep p L pt mk • F) := by
  obtain ⟨a, c, rfl, _, _, _⟩ := (hr w H.right).open
  refine ret_enter Tryz.func113 rfl Tryz.ntmps113 (Nat.le_of_ble_eq_true rfl) ?_
  dsimp only [slots0, Nat.reduceAdd]
  refine wc_seq ?_
  refine wc_region ?_
  refine wl_eff (e_alloc H Tryz.zeroValue120) (ltn rfl) ?_
  rintro _ w1 ⟨b1, rfl, H1⟩
  refine wl_val (r_assign rfl) (ltn rfl) ?_
  refine wl_nil ?_
  refine wq_seq ?_
  refine wc_seq ?_
  refine wc_region ?_
  refine wl_val (r_move rfl) (ltn rfl) ?_
  refine wl_eff (e_call (r_call rfl Tryz.func69 rfl rfl) (buf_len_ret H1.right)) (ltn rfl) ?_
  rintro _ w2 ⟨rfl, hD⟩
  have HL := H1.drewn hD
  refine wl_val (r_assign rfl) (ltn rfl) ?_
  refine wl_nil ?_
  refine wq_seq ?_
  refine wc_seq ?_
  refine wc_block ?_
  refine wc_seq ?_
  refine wc_region ?_
  refine wl_val (r_move rfl) (ltn rfl) ?_
  refine wl_eff (e_call (r_call rfl Tryz.func130 rfl rfl) (buf_none_rep HL.right)) (ltn rfl) ?_
  rintro _ _ ⟨rfl, rfl⟩
  refine wl_val (r_assign rfl) (ltn rfl) ?_
  refine wl_nil ?_
  refine wq_seq ?_
  refine wc_cond rfl (fun h1 => ?_) (fun h1 => ?_)
  · (try simp only [cmpS] at h1)
    try (exfalso; first | contradiction | omega)
    all_goals
      
      refine wc_seq ?_
      refine wc_region ?_
      refine wl_val (r_build (pl := #[(0, 1), (1, 1), (2, 1)]) (_) Tryz.underlying120 Tryz.zeroValue120 (fun w => by kernel_rfl) rfl (rfl)) (ltn rfl) ?_
      refine wl_eff0 (e_store HL Tryz.sizeOf120 rfl rfl rfl (by decide)) ?_
      rintro _ w4 H4
      refine wl_val (r_assign rfl) (ltn rfl) ?_
      refine wl_nil ?_
      refine wq_seq ?_
      refine wc_ret ?_
      refine wq_block_ret ?_
      refine wq_then_ret ?_
      refine wq_endCT (.inl rfl) Tryz.results113 rfl rfl Tryz.underlying120 rfl (by rw [show (Tryz.prog.info? 120).map (·.size) = some 3 from by kernel_rfl]; rfl) H4.get.2 ?_
      exact ⟨rfl, H4.right⟩
  · (try simp only [cmpS] at h1)
    try (exfalso; first | contradiction | omega)
    all_goals
      
      refine wc_seq ?_
      refine wc_region ?_
      refine wl_val (r_move rfl) (ltn rfl) ?_
      refine wl_val (r_lss rfl rfl) (ltn rfl) ?_
      refine wl_split rfl (ltn rfl) (fun h2 => ?_) (fun h2 => ?_)
      · (try simp only [cmpS] at h2)
        try (exfalso; first | contradiction | omega)
        all_goals
          refine wl_no rfl rfl rfl (ltn rfl) ?_
          refine wl_no rfl rfl rfl (ltn rfl) ?_
          refine wl_no rfl rfl rfl (ltn rfl) ?_
          refine wl_val (r_pick_t rfl rfl) (ltn rfl) ?_
          refine wl_val (r_move rfl) (ltn rfl) ?_
          refine wl_no rfl rfl rfl (ltn rfl) ?_
          refine wl_no rfl rfl rfl (ltn rfl) ?_
          refine wl_no rfl rfl rfl (ltn rfl) ?_
          refine wl_val (r_pick_t rfl rfl) (ltn rfl) ?_
          refine wl_val (r_move rfl) (ltn rfl) ?_
          refine wl_no rfl rfl rfl (ltn rfl) ?_
          refine wl_no rfl rfl rfl (ltn rfl) ?_
          refine wl_no rfl rfl rfl (ltn rfl) ?_
          refine wl_val (r_pick_t rfl rfl) (ltn rfl) ?_
          refine wl_val (r_assign rfl) (ltn rfl) ?_
          refine wl_nil ?_
          refine wq_seq ?_
          refine wc_cond_t rfl ?_
          refine wc_seq ?_
          refine wc_region ?_
          refine wl_val (r_build (pl := #[(0, 1), (1, 1), (2, 1)]) (edCells 0 (.slice none 0 0) (.slice none 0 0)) Tryz.underlying120 Tryz.zeroValue120 (fun w => by kernel_rfl) rfl (by kernel_rfl)) (ltn rfl) ?_
          refine wl_eff0 (e_store_whole (cs := edCells 0 (.slice none 0 0) (.slice none 0 0)) HL Tryz.sizeOf120 rfl rfl rfl rfl (ed_ones rfl rfl)) ?_
          rintro _ w5 H5
          refine wl_val (r_assign rfl) (ltn rfl) ?_
          refine wl_nil ?_
          refine wq_seq ?_
          refine wc_ret ?_
          refine wq_block_ret ?_
          refine wq_then_ret ?_
          refine wq_endCT (.inl rfl) Tryz.results113 rfl rfl Tryz.underlying120 rfl (by rw [show (Tryz.prog.info? 120).map (·.size) = some 3 from by kernel_rfl]; rfl) H5.get.2 ?_
          exact ⟨rfl, H5.right⟩
      · (try simp only [cmpS] at h2)
        try (exfalso; first | contradiction | omega)
        all_goals
          refine wl_yes rfl rfl ?_
          refine wl_val (r_move rfl) (ltn rfl) ?_
          refine wl_yes rfl rfl ?_
          refine wl_val (r_move rfl) (ltn rfl) ?_
          refine wl_yes rfl rfl ?_
          refine wl_val (r_gtr rfl rfl) (ltn rfl) ?_
          refine wl_val (r_pick_f rfl rfl) (ltn rfl) ?_
          refine wl_split rfl (ltn rfl) (fun h3 => ?_) (fun h3 => ?_)
          · (try simp only [cmpS] at h3)
            try (exfalso; first | contradiction | omega)
            all_goals
              refine wl_no rfl rfl rfl (ltn rfl) ?_
              refine wl_no rfl rfl rfl (ltn rfl) ?_
              refine wl_no rfl rfl rfl (ltn rfl) ?_
              refine wl_val (r_pick_t rfl rfl) (ltn rfl) ?_
              refine wl_val (r_move rfl) (ltn rfl) ?_
              refine wl_no rfl rfl rfl (ltn rfl) ?_
              refine wl_no rfl rfl rfl (ltn rfl) ?_
              refine wl_no rfl rfl rfl (ltn rfl) ?_
              refine wl_val (r_pick_t rfl rfl) (ltn rfl) ?_
              refine wl_val (r_assign rfl) (ltn rfl) ?_
              refine wl_nil ?_
              refine wq_seq ?_
              refine wc_cond_t rfl ?_
              refine wc_seq ?_
              refine wc_region ?_
              refine wl_val (r_build (pl := #[(0, 1), (1, 1), (2, 1)]) (edCells 0 (.slice none 0 0) (.slice none 0 0)) Tryz.underlying120 Tryz.zeroValue120 (fun w => by kernel_rfl) rfl (by kernel_rfl)) (ltn rfl) ?_
              refine wl_eff0 (e_store_whole (cs := edCells 0 (.slice none 0 0) (.slice none 0 0)) HL Tryz.sizeOf120 rfl rfl rfl rfl (ed_ones rfl rfl)) ?_
              rintro _ w6 H6
              refine wl_val (r_assign rfl) (ltn rfl) ?_
              refine wl_nil ?_
              refine wq_seq ?_
              refine wc_ret ?_
              refine wq_block_ret ?_
              refine wq_then_ret ?_
              refine wq_endCT (.inl rfl) Tryz.results113 rfl rfl Tryz.underlying120 rfl (by rw [show (Tryz.prog.info? 120).map (·.size) = some 3 from by kernel_rfl]; rfl) H6.get.2 ?_
              exact ⟨rfl, H6.right⟩
          · (try simp only [cmpS] at h3)
            try (exfalso; first | contradiction | omega)
            all_goals
              refine wl_yes rfl rfl ?_
              refine wl_val (r_move rfl) (ltn rfl) ?_
              refine wl_yes rfl rfl ?_
              refine wl_val (r_move rfl) (ltn rfl) ?_
              refine wl_yes rfl rfl ?_
              refine wl_val (r_lss rfl rfl) (ltn rfl) ?_
              refine wl_val (r_pick_f rfl rfl) (ltn rfl) ?_
              refine wl_split rfl (ltn rfl) (fun h4 => ?_) (fun h4 => ?_)
              · (try simp only [cmpS] at h4)
                try (exfalso; first | contradiction | omega)
                all_goals
                  refine wl_no rfl rfl rfl (ltn rfl) ?_
                  refine wl_no rfl rfl rfl (ltn rfl) ?_
                  refine wl_no rfl rfl rfl (ltn rfl) ?_
                  refine wl_val (r_pick_t rfl rfl) (ltn rfl) ?_
                  refine wl_val (r_assign rfl) (ltn rfl) ?_
                  refine wl_nil ?_
                  refine wq_seq ?_
                  refine wc_cond_t rfl ?_
                  refine wc_seq ?_
                  refine wc_region ?_
                  refine wl_val (r_build (pl := #[(0, 1), (1, 1), (2, 1)]) (edCells 0 (.slice none 0 0) (.slice none 0 0)) Tryz.underlying120 Tryz.zeroValue120 (fun w => by kernel_rfl) rfl (by kernel_rfl)) (ltn rfl) ?_
                  refine wl_eff0 (e_store_whole (cs := edCells 0 (.slice none 0 0) (.slice none 0 0)) HL Tryz.sizeOf120 rfl rfl rfl rfl (ed_ones rfl rfl)) ?_
                  rintro _ w7 H7
                  refine wl_val (r_assign rfl) (ltn rfl) ?_
                  refine wl_nil ?_
                  refine wq_seq ?_
                  refine wc_ret ?_
                  refine wq_block_ret ?_
                  refine wq_then_ret ?_
                  refine wq_endCT (.inl rfl) Tryz.results113 rfl rfl Tryz.underlying120 rfl (by rw [show (Tryz.prog.info? 120).map (·.size) = some 3 from by kernel_rfl]; rfl) H7.get.2 ?_
                  exact ⟨rfl, H7.right⟩
              · (try simp only [cmpS] at h4)
                try (exfalso; first | contradiction | omega)
                all_goals
                  refine wl_yes rfl rfl ?_
                  refine wl_val (r_move rfl) (ltn rfl) ?_
                  refine wl_yes rfl rfl ?_
                  refine wl_val (r_move rfl) (ltn rfl) ?_
                  refine wl_yes rfl rfl ?_
                  refine wl_val (r_gtr rfl rfl) (ltn rfl) ?_
                  refine wl_val (r_pick_f rfl rfl) (ltn rfl) ?_
                  refine wl_val (r_assign rfl) (ltn rfl) ?_
                  refine wl_nil ?_
                  refine wq_seq ?_
                  refine wc_cond rfl (fun h5 => ?_) (fun h => by exfalso; (try simp only [cmpS] at h); first | contradiction | omega | (simp at h <;> omega))
                  (try simp only [cmpS] at h5)
                  refine wc_seq ?_
                  refine wc_region ?_
                  refine wl_val (r_build (pl := #[(0, 1), (1, 1), (2, 1)]) (edCells 0 (.slice none 0 0) (.slice none 0 0)) Tryz.underlying120 Tryz.zeroValue120 (fun w => by kernel_rfl) rfl (by kernel_rfl)) (ltn rfl) ?_
                  refine wl_eff0 (e_store_whole (cs := edCells 0 (.slice none 0 0) (.slice none 0 0)) HL Tryz.sizeOf120 rfl rfl rfl rfl (ed_ones rfl rfl)) ?_
                  rintro _ w8 H8
                  refine wl_val (r_assign rfl) (ltn rfl) ?_
                  refine wl_nil ?_
                  refine wq_seq ?_
                  refine wc_ret ?_
                  refine wq_block_ret ?_
                  refine wq_then_ret ?_
                  refine wq_endCT (.inl rfl) Tryz.results113 rfl rfl Tryz.underlying120 rfl (by rw [show (Tryz.prog.info? 120).map (·.size) = some 3 from by kernel_rfl]; rfl) H8.get.2 ?_
                  exact ⟨rfl, H8.right⟩
theorem buf_replace_long (H : Holds w0 w (BufRep p L pt mk • F)) (hr : FRdI w0 F .i32 v l) (hb : 0 ≤ i ∧ i ≤ j ∧ j ≤ L.length) (hl : 1024 < L.length - (j - i) + l.length) :
    Ret Tryz.prog 113 #[.pointer (some ⟨p, 0, none⟩), .int .i64 i, .int .i64 j, v] w fun v' w' => v' = .tuple #[.agg (edCells 0 (.slice none 0 0) (.slice none 0 0)), .int .i64 3] ∧ Holds w0 w' (BufRep p L pt mk • F) := by
  obtain ⟨a, c, rfl, _, _, _⟩ := (hr w H.right).open
  have hL4 : L.length ≤ 1024 := by obtain ⟨a, c, xs, f, t, h1, h2, h3, h4, h5, h6, h7, hc1, hc2, hl, H1⟩ := H.buf; exact h4
  refine ret_enter Tryz.func113 rfl Tryz.ntmps113 (Nat.le_of_ble_eq_true rfl) ?_
  dsimp only [slots0, Nat.reduceAdd]
  refine wc_seq ?_
  refine wc_region ?_
  refine wl_eff (e_alloc H Tryz.zeroValue120) (ltn rfl) ?_
  rintro _ w1 ⟨b1, rfl, H1⟩
  refine wl_val (r_assign rfl) (ltn rfl) ?_
  refine wl_nil ?_
  refine wq_seq ?_
  refine wc_seq ?_
  refine wc_region ?_
  refine wl_val (r_move rfl) (ltn rfl) ?_
  refine wl_eff (e_call (r_call rfl Tryz.func69 rfl rfl) (buf_len_ret H1.right)) (ltn rfl) ?_
  rintro _ w2 ⟨rfl, hD⟩
  have HL := H1.drewn hD
  refine wl_val (r_assign rfl) (ltn rfl) ?_
  refine wl_nil ?_
  refine wq_seq ?_
  refine wc_seq ?_
  refine wc_block ?_
  refine wc_seq ?_
  refine wc_region ?_
  refine wl_val (r_move rfl) (ltn rfl) ?_
  refine wl_eff (e_call (r_call rfl Tryz.func130 rfl rfl) (buf_none_rep HL.right)) (ltn rfl) ?_
  rintro _ _ ⟨rfl, rfl⟩
  refine wl_val (r_assign rfl) (ltn rfl) ?_
  refine wl_nil ?_
  refine wq_seq ?_
  refine wc_cond rfl (fun h1 => ?_) (fun h1 => ?_)
  · (try simp only [cmpS] at h1)
    try (exfalso; first | contradiction | omega)
    all_goals
      
      refine wc_seq ?_
      refine wc_region ?_
      refine wl_val (r_build (pl := #[(0, 1), (1, 1), (2, 1)]) (_) Tryz.underlying120 Tryz.zeroValue120 (fun w => by kernel_rfl) rfl (rfl)) (ltn rfl) ?_
      refine wl_eff0 (e_store HL Tryz.sizeOf120 rfl rfl rfl (by decide)) ?_
      rintro _ w4 H4
      refine wl_val (r_assign rfl) (ltn rfl) ?_
      refine wl_nil ?_
      refine wq_seq ?_
      refine wc_ret ?_
      refine wq_block_ret ?_
      refine wq_then_ret ?_
      refine wq_endCT (.inl rfl) Tryz.results113 rfl rfl Tryz.underlying120 rfl (by rw [show (Tryz.prog.info? 120).map (·.size) = some 3 from by kernel_rfl]; rfl) H4.get.2 ?_
      exact ⟨rfl, H4.right⟩
  · (try simp only [cmpS] at h1)
    try (exfalso; first | contradiction | omega)
    all_goals
      
      refine wc_seq ?_
      refine wc_region ?_
      refine wl_val (r_move rfl) (ltn rfl) ?_
      refine wl_val (r_lss rfl rfl) (ltn rfl) ?_
      refine wl_split rfl (ltn rfl) (fun h2 => ?_) (fun h2 => ?_)
      · (try simp only [cmpS] at h2)
        try (exfalso; first | contradiction | omega)
        all_goals
          refine wl_no rfl rfl rfl (ltn rfl) ?_
          refine wl_no rfl rfl rfl (ltn rfl) ?_
          refine wl_no rfl rfl rfl (ltn rfl) ?_
          refine wl_val (r_pick_t rfl rfl) (ltn rfl) ?_
          refine wl_val (r_move rfl) (ltn rfl) ?_
          refine wl_no rfl rfl rfl (ltn rfl) ?_
          refine wl_no rfl rfl rfl (ltn rfl) ?_
          refine wl_no rfl rfl rfl (ltn rfl) ?_
          refine wl_val (r_pick_t rfl rfl) (ltn rfl) ?_
          refine wl_val (r_move rfl) (ltn rfl) ?_
          refine wl_no rfl rfl rfl (ltn rfl) ?_
          refine wl_no rfl rfl rfl (ltn rfl) ?_
          refine wl_no rfl rfl rfl (ltn rfl) ?_
          refine wl_val (r_pick_t rfl rfl) (ltn rfl) ?_
          refine wl_val (r_assign rfl) (ltn rfl) ?_
          refine wl_nil ?_
          refine wq_seq ?_
          refine wc_cond_t rfl ?_
          refine wc_seq ?_
          refine wc_region ?_
          refine wl_val (r_build (pl := #[(0, 1), (1, 1), (2, 1)]) (_) Tryz.underlying120 Tryz.zeroValue120 (fun w => by kernel_rfl) rfl (rfl)) (ltn rfl) ?_
          refine wl_eff0 (e_store HL Tryz.sizeOf120 rfl rfl rfl (by decide)) ?_
          rintro _ w5 H5
          refine wl_val (r_assign rfl) (ltn rfl) ?_
          refine wl_nil ?_
          refine wq_seq ?_
          refine wc_ret ?_
          refine wq_block_ret ?_
          refine wq_then_ret ?_
          refine wq_endCT (.inl rfl) Tryz.results113 rfl rfl Tryz.underlying120 rfl (by rw [show (Tryz.prog.info? 120).map (·.size) = some 3 from by kernel_rfl]; rfl) H5.get.2 ?_
          exact ⟨rfl, H5.right⟩
      · (try simp only [cmpS] at h2)
        try (exfalso; first | contradiction | omega)
        all_goals
          refine wl_yes rfl rfl ?_
          refine wl_val (r_move rfl) (ltn rfl) ?_
          refine wl_yes rfl rfl ?_
          refine wl_val (r_move rfl) (ltn rfl) ?_
          refine wl_yes rfl rfl ?_
          refine wl_val (r_gtr rfl rfl) (ltn rfl) ?_
          refine wl_val (r_pick_f rfl rfl) (ltn rfl) ?_
          refine wl_split rfl (ltn rfl) (fun h3 => ?_) (fun h3 => ?_)
          · (try simp only [cmpS] at h3)
            try (exfalso; first | contradiction | omega)
            all_goals
              refine wl_no rfl rfl rfl (ltn rfl) ?_
              refine wl_no rfl rfl rfl (ltn rfl) ?_
              refine wl_no rfl rfl rfl (ltn rfl) ?_
              refine wl_val (r_pick_t rfl rfl) (ltn rfl) ?_
              refine wl_val (r_move rfl) (ltn rfl) ?_
              refine wl_no rfl rfl rfl (ltn rfl) ?_
              refine wl_no rfl rfl rfl (ltn rfl) ?_
              refine wl_no rfl rfl rfl (ltn rfl) ?_
              refine wl_val (r_pick_t rfl rfl) (ltn rfl) ?_
              refine wl_val (r_assign rfl) (ltn rfl) ?_
              refine wl_nil ?_
              refine wq_seq ?_
              refine wc_cond_t rfl ?_
              refine wc_seq ?_
              refine wc_region ?_
              refine wl_val (r_build (pl := #[(0, 1), (1, 1), (2, 1)]) (_) Tryz.underlying120 Tryz.zeroValue120 (fun w => by kernel_rfl) rfl (rfl)) (ltn rfl) ?_
              refine wl_eff0 (e_store HL Tryz.sizeOf120 rfl rfl rfl (by decide)) ?_
              rintro _ w6 H6
              refine wl_val (r_assign rfl) (ltn rfl) ?_
              refine wl_nil ?_
              refine wq_seq ?_
              refine wc_ret ?_
              refine wq_block_ret ?_
              refine wq_then_ret ?_
              refine wq_endCT (.inl rfl) Tryz.results113 rfl rfl Tryz.underlying120 rfl (by rw [show (Tryz.prog.info? 120).map (·.size) = some 3 from by kernel_rfl]; rfl) H6.get.2 ?_
              exact ⟨rfl, H6.right⟩
          · (try simp only [cmpS] at h3)
            try (exfalso; first | contradiction | omega)
            all_goals
              refine wl_yes rfl rfl ?_
              refine wl_val (r_move rfl) (ltn rfl) ?_
              refine wl_yes rfl rfl ?_
              refine wl_val (r_move rfl) (ltn rfl) ?_
              refine wl_yes rfl rfl ?_
              refine wl_val (r_lss rfl rfl) (ltn rfl) ?_
              refine wl_val (r_pick_f rfl rfl) (ltn rfl) ?_
              refine wl_split rfl (ltn rfl) (fun h4 => ?_) (fun h4 => ?_)
              · (try simp only [cmpS] at h4)
                try (exfalso; first | contradiction | omega)
                all_goals
                  refine wl_no rfl rfl rfl (ltn rfl) ?_
                  refine wl_no rfl rfl rfl (ltn rfl) ?_
                  refine wl_no rfl rfl rfl (ltn rfl) ?_
                  refine wl_val (r_pick_t rfl rfl) (ltn rfl) ?_
                  refine wl_val (r_assign rfl) (ltn rfl) ?_
                  refine wl_nil ?_
                  refine wq_seq ?_
                  refine wc_cond_t rfl ?_
                  refine wc_seq ?_
                  refine wc_region ?_
                  refine wl_val (r_build (pl := #[(0, 1), (1, 1), (2, 1)]) (_) Tryz.underlying120 Tryz.zeroValue120 (fun w => by kernel_rfl) rfl (rfl)) (ltn rfl) ?_
                  refine wl_eff0 (e_store HL Tryz.sizeOf120 rfl rfl rfl (by decide)) ?_
                  rintro _ w7 H7
                  refine wl_val (r_assign rfl) (ltn rfl) ?_
                  refine wl_nil ?_
                  refine wq_seq ?_
                  refine wc_ret ?_
                  refine wq_block_ret ?_
                  refine wq_then_ret ?_
                  refine wq_endCT (.inl rfl) Tryz.results113 rfl rfl Tryz.underlying120 rfl (by rw [show (Tryz.prog.info? 120).map (·.size) = some 3 from by kernel_rfl]; rfl) H7.get.2 ?_
                  exact ⟨rfl, H7.right⟩
              · (try simp only [cmpS] at h4)
                try (exfalso; first | contradiction | omega)
                all_goals
                  refine wl_yes rfl rfl ?_
                  refine wl_val (r_move rfl) (ltn rfl) ?_
                  refine wl_yes rfl rfl ?_
                  refine wl_val (r_move rfl) (ltn rfl) ?_
                  refine wl_yes rfl rfl ?_
                  refine wl_val (r_gtr rfl rfl) (ltn rfl) ?_
                  refine wl_val (r_pick_f rfl rfl) (ltn rfl) ?_
                  refine wl_val (r_assign rfl) (ltn rfl) ?_
                  refine wl_nil ?_
                  refine wq_seq ?_
                  refine wc_cond rfl (fun h => by exfalso; (try simp only [cmpS] at h); first | contradiction | omega | (simp at h <;> omega)) (fun h5 => ?_)
                  (try simp only [cmpS] at h5)
                  refine wc_seq ?_
                  refine wc_region ?_
                  refine wl_val (r_move rfl) (ltn rfl) ?_
                  refine wl_val (r_len Tryz.underlying22 rfl) (ltn rfl) ?_
                  refine wl_val (r_move rfl) (ltn rfl) ?_
                  refine wl_val (r_move rfl) (ltn rfl) ?_
                  refine wl_val (r_move rfl) (ltn rfl) ?_
                  refine wl_val (r_sub rfl rfl (by omega)) (ltn rfl) ?_
                  refine wl_val (r_sub rfl rfl (by omega)) (ltn rfl) ?_
                  refine wl_val (r_sub rfl rfl (by omega)) (ltn rfl) ?_
                  refine wl_val (r_gtr rfl rfl) (ltn rfl) ?_
                  refine wl_val (r_assign rfl) (ltn rfl) ?_
                  refine wl_nil ?_
                  refine wq_seq ?_
                  refine wc_cond rfl (fun h6 => ?_) (fun h => by exfalso; (try simp only [cmpS] at h); first | contradiction | omega | (simp at h <;> omega))
                  (try simp only [cmpS] at h6)
                  refine wc_seq ?_
                  refine wc_region ?_
                  refine wl_val (r_build (pl := #[(0, 1), (1, 1), (2, 1)]) (edCells 0 (.slice none 0 0) (.slice none 0 0)) Tryz.underlying120 Tryz.zeroValue120 (fun w => by kernel_rfl) rfl (by kernel_rfl)) (ltn rfl) ?_
                  refine wl_eff0 (e_store_whole (cs := edCells 0 (.slice none 0 0) (.slice none 0 0)) HL Tryz.sizeOf120 rfl rfl rfl rfl (ed_ones rfl rfl)) ?_
                  rintro _ w8 H8
                  refine wl_val (r_assign rfl) (ltn rfl) ?_
                  refine wl_nil ?_
                  refine wq_seq ?_
                  refine wc_ret ?_
                  refine wq_block_ret ?_
                  refine wq_then_ret ?_
                  refine wq_endCT (.inl rfl) Tryz.results113 rfl rfl Tryz.underlying120 rfl (by rw [show (Tryz.prog.info? 120).map (·.size) = some 3 from by kernel_rfl]; rfl) H8.get.2 ?_
                  exact ⟨rfl, H8.right⟩
end
end Go.Proofs.YtgmpclifphbjkaaGreatDoor
end
