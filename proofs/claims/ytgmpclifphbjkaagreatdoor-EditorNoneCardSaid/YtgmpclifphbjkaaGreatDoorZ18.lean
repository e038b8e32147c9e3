import Derived.Test.YtgmpclifphbjkaaGreatDoorZ17
/- Texts of mine, joined: EdS3. -/
section
/- Editors: the lines that stand elsewhere; State. -/
set_option linter.unusedSimpArgs false
set_option linter.unusedVariables false
namespace Go.Proofs.YtgmpclifphbjkaaGreatDoor
open Go.RowKit
/-- A state's cells. -/
def stateL (s : EdS) (u ks sv : Value) : List Value := [u, .int .i64 s.c.pt, .int .i64 s.c.mark, .int .i64 s.c.mode, .bool s.c.over, .bool s.given, .bool s.minus, .int .i64 s.arg, .int .i64 s.lastS, .int .i64 s.frS, .int .i64 s.toS, ks, .int .i64 s.c.place, sv, .int .i64 s.undoes, .int .i64 s.c.res, .int .i64 s.bells]
section
variable {w0 w : World} {F : HP} {e p ph pw pt pr pm pb : Nat} {s : EdS} {k x place : Int} {hl : List HLn} {base most cls : Int} {tx : Int → Option ByteArray} {v pv : Value} {U : Int → List (List EdA)} {L : List Int} {pnt mk : Int}
theorem ed_line_raw {x1 x2 x3 x4 x5 x6 x7 x8 x9 x10 x12 x13 x14 x15 x16 x17 x18 x19 x20 x21 x22 x23 x24 x25 x26 x27 x28 x29 x30 x31 x32 x33 : Value} (H : Holds w0 w (blk e (.cells (.pointer (some ⟨pb, 0, none⟩) :: x1 :: x2 :: x3 :: x4 :: x5 :: x6 :: x7 :: x8 :: x9 :: x10 :: .pointer (some ⟨ph, 0, none⟩) :: x12 :: x13 :: x14 :: x15 :: x16 :: x17 :: x18 :: x19 :: x20 :: x21 :: x22 :: x23 :: x24 :: x25 :: x26 :: x27 :: x28 :: x29 :: x30 :: x31 :: x32 :: x33 :: []).toArray 66 (0, 0)) • BufRep pb L pnt mk • F)) : Ret Tryz.prog 18 #[.pointer (some ⟨e, 0, none⟩)] w fun v' w' =>
    ∃ u, v' = .agg (lineCells u pnt mk) ∧ Holds w0 w' (RowI 21 .i32 u L • blk e (.cells (.pointer (some ⟨pb, 0, none⟩) :: x1 :: x2 :: x3 :: x4 :: x5 :: x6 :: x7 :: x8 :: x9 :: x10 :: .pointer (some ⟨ph, 0, none⟩) :: x12 :: x13 :: x14 :: x15 :: x16 :: x17 :: x18 :: x19 :: x20 :: x21 :: x22 :: x23 :: x24 :: x25 :: x26 :: x27 :: x28 :: x29 :: x30 :: x31 :: x32 :: x33 :: []).toArray 66 (0, 0)) • BufRep pb L pnt mk • F) := by
  refine ret_enter Tryz.func18 rfl Tryz.ntmps18 (Nat.le_of_ble_eq_true rfl) ?_
  dsimp only [slots0, Nat.reduceAdd]
  refine wc_seq ?_
  refine wc_region ?_
  refine wl_eff (e_allocL (l := [_, _, _]) H Tryz.zeroValue42 rfl) (ltn rfl) ?_
  rintro _ w1 ⟨b1, rfl, H1⟩
  refine wl_nil ?_
  refine wq_seq ?_
  refine wc_seq ?_
  refine wc_seq ?_
  refine wc_region ?_
  refine wl_val (r_move rfl) (ltn rfl) ?_
  refine wl_eff (e_call (r_call rfl Tryz.func43 rfl rfl) (ed_none_raw H1.f2)) (ltn rfl) ?_
  rintro _ _ ⟨rfl, rfl⟩
  refine wl_nil ?_
  refine wq_seq ?_
  refine wc_cond_f rfl ?_
  refine wc_skip ?_
  refine wq_seq ?_
  refine wc_seq ?_
  refine wc_region ?_
  refine wl_val (r_move rfl) (ltn rfl) ?_
  refine wl_val (r_nil rfl) (ltn rfl) ?_
  refine wl_val (r_fieldA 0 Tryz.underlying66 rfl rfl Tryz.sizeOf62 (by decide) rfl (by first | exact Nat.zero_add _ | rfl)) (ltn rfl) ?_
  refine wl_val (r_fieldA 0 Tryz.underlying62 rfl rfl Tryz.sizeOf57 (by decide) rfl (by first | exact Nat.zero_add _ | rfl)) (ltn rfl) ?_
  refine wl_val (r_load (plain_of Tryz.underlying57 rfl) rfl (cell_of_blk (H1.f2).get.2 rfl)) (ltn rfl) ?_
  refine wl_eff (e_call (r_call rfl Tryz.func62 rfl rfl) (buf_line_ret H1.f3)) (ltn rfl) ?_
  rintro _ w3 ⟨u3, rfl, H3⟩
  refine wl_eff0 (e_storePL 0 (l' := [_, _, _]) (us := [_, _, _]) H3.f3 Tryz.sizeOf42 rfl rfl rfl (ones_cons (by first | rfl | exact Rd.one ((H3).row_rd)) (ones_cons (by first | rfl | assumption) (ones_cons (by first | rfl | assumption) ones_nil))) rfl rfl) ?_
  rintro _ w4 H4
  refine wl_nil ?_
  refine wq_seq ?_
  refine wc_ret ?_
  refine wq_end (.inl rfl) (resC Tryz.results18 rfl Tryz.underlying42 rfl (by rw [show (Tryz.prog.info? 42).map (·.size) = some 3 from by kernel_rfl]; rfl) (H4).get.2) ?_
  exact ⟨_, rfl, H4.right.f2.f3.f3⟩
theorem ed_saved_ret {x0 x1 x3 x4 x5 x6 x7 x8 x9 x10 x12 x13 x14 x15 x16 x17 x18 x19 x20 x21 x22 x23 x24 x25 x26 x27 x28 x29 x30 x31 x32 x33 : Value} (H : Holds w0 w (blk e (.cells (x0 :: x1 :: .pointer (some ⟨pw, 0, none⟩) :: x3 :: x4 :: x5 :: x6 :: x7 :: x8 :: x9 :: x10 :: .pointer (some ⟨ph, 0, none⟩) :: x12 :: x13 :: x14 :: x15 :: x16 :: x17 :: x18 :: x19 :: x20 :: x21 :: x22 :: x23 :: x24 :: x25 :: x26 :: x27 :: x28 :: x29 :: x30 :: x31 :: x32 :: x33 :: []).toArray 66 (0, 0)) • blk pw (.cells #[.int .i64 place, .map (some pt)] 112 (0, 0)) • MapRep kI64 pt (strF tx) • HistRep ph hl base most • F)) :
    Ret Tryz.prog 54 #[.pointer (some ⟨e, 0, none⟩)] w fun v' w' => Holds w0 w' (Row 130 2 v' (savedOf hl tx place).length ((savedOf hl tx place).flatMap svEnc) •
      blk e (.cells (x0 :: x1 :: .pointer (some ⟨pw, 0, none⟩) :: x3 :: x4 :: x5 :: x6 :: x7 :: x8 :: x9 :: x10 :: .pointer (some ⟨ph, 0, none⟩) :: x12 :: x13 :: x14 :: x15 :: x16 :: x17 :: x18 :: x19 :: x20 :: x21 :: x22 :: x23 :: x24 :: x25 :: x26 :: x27 :: x28 :: x29 :: x30 :: x31 :: x32 :: x33 :: []).toArray 66 (0, 0)) • blk pw (.cells #[.int .i64 place, .map (some pt)] 112 (0, 0)) • MapRep kI64 pt (strF tx) • HistRep ph hl base most • F) := by
  have hb : hl.length ≤ 4096 := by obtain ⟨v, h, _⟩ := H.r4.hist; exact h.1
  refine ret_enter Tryz.func54 rfl Tryz.ntmps54 (Nat.le_of_ble_eq_true rfl) ?_
  dsimp only [slots0, Nat.reduceAdd]
  refine wc_seq ?_
  refine wc_region ?_
  refine wl_val (r_assign rfl) (ltn rfl) ?_
  refine wl_nil ?_
  refine wq_seq ?_
  refine wc_seq ?_
  refine wc_region ?_
  refine wl_val (r_assign rfl) (ltn rfl) ?_
  refine wl_nil ?_
  refine wq_seq ?_
  refine wc_seq ?_
  refine wc_region ?_
  refine wl_val (r_move rfl) (ltn rfl) ?_
  refine wl_val (r_nil rfl) (ltn rfl) ?_
  refine wl_val (r_fieldA 11 Tryz.underlying66 rfl rfl Tryz.sizeOf24 (by decide) rfl (by first | exact Nat.zero_add _ | rfl)) (ltn rfl) ?_
  refine wl_val (r_load (plain_of Tryz.underlying24 rfl) rfl (cell_of_blk (H).get.2 rfl)) (ltn rfl) ?_
  refine wl_eff (e_call (r_call rfl Tryz.func75 rfl rfl) (hist_len_ret H.f4)) (ltn rfl) ?_
  rintro _ w1 ⟨rfl, H1⟩
  refine wl_val (r_assign rfl) (ltn rfl) ?_
  refine wl_nil ?_
  refine wq_seq ?_
  refine wc_seq ?_
  refine wc_seq ?_
  refine wc_region ?_
  refine wl_val (r_move rfl) (ltn rfl) ?_
  refine wl_val (r_move rfl) (ltn rfl) ?_
  refine wl_nil ?_
  refine wq_seq ?_
  refine wc_block ?_
  refine wc_loop [(0, _), (4, _), (11, _)] (fun (⟨i, u⟩ : Nat × Value) => [(3, u), (12, .int .i64 (i : Int))]) (fun (⟨i, u⟩ : Nat × Value) W => i ≤ hl.length ∧ Holds w0 W (Row 130 2 u (savedTo hl tx place i).length ((savedTo hl tx place i).flatMap svEnc) • blk e (.cells (x0 :: x1 :: .pointer (some ⟨pw, 0, none⟩) :: x3 :: x4 :: x5 :: x6 :: x7 :: x8 :: x9 :: x10 :: .pointer (some ⟨ph, 0, none⟩) :: x12 :: x13 :: x14 :: x15 :: x16 :: x17 :: x18 :: x19 :: x20 :: x21 :: x22 :: x23 :: x24 :: x25 :: x26 :: x27 :: x28 :: x29 :: x30 :: x31 :: x32 :: x33 :: []).toArray 66 (0, 0)) • blk pw (.cells #[.int .i64 place, .map (some pt)] 112 (0, 0)) • MapRep kI64 pt (strF tx) • HistRep ph hl base most • F)) (fun (⟨i, u⟩ : Nat × Value) => hl.length - i) ((0, .slice none 0 0)) (Sub.cons rfl (Sub.cons rfl (Sub.cons rfl (Sub.nil _)))) (Sub.cons rfl (Sub.cons rfl (Sub.nil _))) ⟨by omega, H1.f4.f4.f4.row_nil none⟩ ?_
  rintro ⟨i, u⟩ w2 ⟨hi, HL⟩
  dsimp only [List.cons_append, List.nil_append]
  refine wc_seq ?_
  refine wc_region ?_
  refine wl_val (r_lss rfl rfl) (ltn rfl) ?_
  refine wl_nil ?_
  refine wq_seq ?_
  refine wc_seq ?_
  refine wc_cond rfl (fun h1 => ?_) (fun h1 => ?_)
  · (try simp only [cmpS] at h1)
    
    refine wc_skip ?_
    refine wq_seq ?_
    refine wc_seq ?_
    refine wc_block ?_
    refine wc_seq ?_
    refine wc_region ?_
    refine wl_val (r_move rfl) (ltn rfl) ?_
    refine wl_val (r_assign rfl) (ltn rfl) ?_
    refine wl_nil ?_
    refine wq_seq ?_
    refine wc_seq ?_
    have hLen := savedTo_len hl tx place i
    refine wc_region ?_
    refine wl_val (r_move rfl) (ltn rfl) ?_
    refine wl_val (r_move rfl) (ltn rfl) ?_
    refine wl_val (r_nil rfl) (ltn rfl) ?_
    refine wl_val (r_fieldA 0 Tryz.underlying66 rfl rfl Tryz.sizeOf62 (by decide) rfl (by first | exact Nat.zero_add _ | rfl)) (ltn rfl) ?_
    refine wl_val (r_fieldA 2 Tryz.underlying62 rfl rfl Tryz.sizeOf59 (by decide) rfl (by first | exact Nat.zero_add _ | rfl)) (ltn rfl) ?_
    refine wl_val (r_load (plain_of Tryz.underlying59 rfl) rfl (cell_of_blk (HL.f2).get.2 rfl)) (ltn rfl) ?_
    refine wl_val (r_nil rfl) (ltn rfl) ?_
    refine wl_val (r_fieldA 0 Tryz.underlying112 rfl rfl Tryz.sizeOf3 (by decide) rfl (by first | exact Nat.zero_add _ | rfl)) (ltn rfl) ?_
    refine wl_val (r_load (plain_of Tryz.underlying3 rfl) rfl (cell_of_blk (HL.f3).get.2 rfl)) (ltn rfl) ?_
    refine wl_val (r_neq rfl rfl) (ltn rfl) ?_
    refine wl_split rfl (ltn rfl) (fun h2 => ?_) (fun h2 => ?_)
    · (try simp only [cmpS] at h2)
      have hpl := h2
      refine wl_yes rfl rfl ?_
      refine wl_val (r_move rfl) (ltn rfl) ?_
      refine wl_yes rfl rfl ?_
      refine wl_val (r_move rfl) (ltn rfl) ?_
      refine wl_yes rfl rfl ?_
      refine wl_eff (e_call (r_call rfl Tryz.func78 rfl rfl) (ed_stands_ret HL.f5.f5.f5.f5)) (ltn rfl) ?_
      rintro _ w3 ⟨rfl, H3⟩
      refine wl_yes rfl rfl ?_
      refine wl_val (r_move rfl) (ltn rfl) ?_
      refine wl_yes rfl rfl ?_
      refine wl_val (r_move rfl) (ltn rfl) ?_
      refine wl_yes rfl rfl ?_
      refine wl_eff (e_call (r_call rfl Tryz.func124 rfl rfl) (ed_first_ret H3.f4.f2)) (ltn rfl) ?_
      rintro _ w4 ⟨rfl, H4⟩
      refine wl_yes rfl rfl ?_
      refine wl_val (r_str_neq rfl rfl) (ltn rfl) ?_
      refine wl_val (r_pick_t rfl rfl) (ltn rfl) ?_
      refine wl_nil ?_
      refine wq_seq ?_
      refine wc_cond rfl (fun h3 => ?_) (fun h3 => ?_)
      · (try simp only [cmpS] at h3)
        have hsv := savedTo_yes (hl := hl) (tx := tx) (place := place) (i := i) (by unfold savedAt; rw [decide_eq_true hpl]; simpa using h3)
        refine wc_region ?_
        refine wl_val (r_move rfl) (ltn rfl) ?_
        refine wl_val (r_move rfl) (ltn rfl) ?_
        refine wl_val (r_move rfl) (ltn rfl) ?_
        refine wl_val (r_move rfl) (ltn rfl) ?_
        refine wl_eff (e_call (r_call rfl Tryz.func78 rfl rfl) (ed_stands_ret H4.f2.f4.f4.f4)) (ltn rfl) ?_
        rintro _ w5 ⟨rfl, H5⟩
        refine wl_val (r_buildL (zl := [.int .i64 0, .string .empty]) (pl := [(0, 1), (1, 1)]) [_, _] Tryz.underlying130 Tryz.zeroValue130 rfl (fun w => by kernel_rfl) rfl (.one (by first | rfl | assumption) (.one (by first | rfl | assumption) .nil)) rfl) (ltn rfl) ?_
        refine wl_eff (e_lit_one H5 Tryz.underlying44 Tryz.sizeOf130 Tryz.zeroValue130 rfl rfl rfl (by decide) (by decide)) (ltn rfl) ?_
        rintro l6 w6 H6
        refine wl_eff (e_append H6.f6 Tryz.underlying44 (show (Tryz.prog.info? 130).map (fun i => (i.zero, i.size, i.bytes)) = some (some (.agg #[.int .i64 0, .string .empty]), 2, 24) by kernel_rfl) rfl rfl rfl ((H6).row_rd) (ones_cons (by first | rfl | assumption) (ones_cons (by first | rfl | assumption) ones_nil)) (by omega) (by omega)) (ltn rfl) ?_
        rintro l7 w7 H7
        have Hd8 := H7.f2.right
        refine wl_val (r_assign rfl) (ltn rfl) ?_
        refine wl_nil ?_
        refine wq_block_normal ?_
        refine wq_seq ?_
        refine wc_region ?_
        refine wl_val (r_add rfl rfl (by omega)) (ltn rfl) ?_
        refine wl_val (r_move rfl) (ltn rfl) ?_
        refine wl_nil ?_
        have hLen := savedTo_len hl tx place i
        refine wq_round ((i + 1, l7)) ?_ ?_ ?_ ?_
        · exact (Sub.cons rfl (Sub.cons rfl (Sub.nil _)))
        · exact (Sub.cons rfl (Sub.cons rfl (Sub.cons rfl (Sub.nil _))))
        · (try dsimp only)
          first | done | exact ⟨by omega, by first | (rw [hsv, List.length_append, List.flatMap_append]; exact Hd8.f5.f5.f5.f5.f5) | (rw [hsv]; exact Hd8.f5.f5.f5.f5.f5)⟩
        · (try dsimp only); omega
      · (try simp only [cmpS] at h3)
        have hsv := savedTo_no (hl := hl) (tx := tx) (place := place) (i := i) (by unfold savedAt; rw [decide_eq_true hpl]; simpa using h3)
        refine wc_skip ?_
        refine wq_block_normal ?_
        refine wq_seq ?_
        refine wc_region ?_
        refine wl_val (r_add rfl rfl (by omega)) (ltn rfl) ?_
        refine wl_val (r_move rfl) (ltn rfl) ?_
        refine wl_nil ?_
        have hLen := savedTo_len hl tx place i
        refine wq_round ((i + 1, u)) ?_ ?_ ?_ ?_
        · exact (Sub.cons rfl (Sub.cons rfl (Sub.nil _)))
        · exact (Sub.cons rfl (Sub.cons rfl (Sub.cons rfl (Sub.nil _))))
        · (try dsimp only)
          first | done | exact ⟨by omega, by first | (rw [hsv, List.length_append, List.flatMap_append]; exact H4.f2.f4.f4.f4.f5) | (rw [hsv]; exact H4.f2.f4.f4.f4.f5)⟩
        · (try dsimp only); omega
    · (try simp only [cmpS] at h2)
      have hsv := savedTo_no (hl := hl) (tx := tx) (place := place) (i := i) (by unfold savedAt; rw [decide_eq_false (by simpa using h2)]; rfl)
      refine wl_no rfl rfl rfl (ltn rfl) ?_
      refine wl_no rfl rfl rfl (ltn rfl) ?_
      refine wl_no rfl rfl rfl (ltn rfl) ?_
      refine wl_no rfl rfl rfl (ltn rfl) ?_
      refine wl_no rfl rfl rfl (ltn rfl) ?_
      refine wl_no rfl rfl rfl (ltn rfl) ?_
      refine wl_no rfl rfl rfl (ltn rfl) ?_
      refine wl_val (r_pick_f rfl rfl) (ltn rfl) ?_
      refine wl_nil ?_
      refine wq_seq ?_
      refine wc_cond_f rfl ?_
      refine wc_skip ?_
      refine wq_block_normal ?_
      refine wq_seq ?_
      refine wc_region ?_
      refine wl_val (r_add rfl rfl (by omega)) (ltn rfl) ?_
      refine wl_val (r_move rfl) (ltn rfl) ?_
      refine wl_nil ?_
      have hLen := savedTo_len hl tx place i
      refine wq_round ((i + 1, u)) ?_ ?_ ?_ ?_
      · exact (Sub.cons rfl (Sub.cons rfl (Sub.nil _)))
      · exact (Sub.cons rfl (Sub.cons rfl (Sub.cons rfl (Sub.nil _))))
      · (try dsimp only)
        first | done | exact ⟨by omega, by first | (rw [hsv, List.length_append, List.flatMap_append]; exact HL.f5.f5.f5.f5.f5) | (rw [hsv]; exact HL.f5.f5.f5.f5.f5)⟩
      · (try dsimp only); omega
  · (try simp only [cmpS] at h1)
    
    refine wc_exit ?_
    refine wq_then_exit ?_
    obtain rfl : i = hl.length := by omega
    refine wq_then_exit ?_
    refine wq_block_hit ?_
    refine wq_seq ?_
    refine wc_seq ?_
    refine wc_seq ?_
    have hLen := savedTo_len hl tx place hl.length
    refine wc_region ?_
    refine wl_val (r_move rfl) (ltn rfl) ?_
    refine wl_val (r_nil rfl) (ltn rfl) ?_
    refine wl_val (r_fieldA 0 Tryz.underlying66 rfl rfl Tryz.sizeOf62 (by decide) rfl (by first | exact Nat.zero_add _ | rfl)) (ltn rfl) ?_
    refine wl_val (r_fieldA 2 Tryz.underlying62 rfl rfl Tryz.sizeOf59 (by decide) rfl (by first | exact Nat.zero_add _ | rfl)) (ltn rfl) ?_
    refine wl_val (r_load (plain_of Tryz.underlying59 rfl) rfl (cell_of_blk (HL.f2).get.2 rfl)) (ltn rfl) ?_
    refine wl_val (r_nil rfl) (ltn rfl) ?_
    refine wl_val (r_fieldA 0 Tryz.underlying112 rfl rfl Tryz.sizeOf3 (by decide) rfl (by first | exact Nat.zero_add _ | rfl)) (ltn rfl) ?_
    refine wl_val (r_load (plain_of Tryz.underlying3 rfl) rfl (cell_of_blk (HL.f3).get.2 rfl)) (ltn rfl) ?_
    refine wl_val (r_move rfl) (ltn rfl) ?_
    refine wl_val (r_neq rfl rfl) (ltn rfl) ?_
    refine wl_nil ?_
    refine wq_seq ?_
    refine wc_cond rfl (fun h4 => ?_) (fun h4 => ?_)
    · (try simp only [cmpS] at h4)
      have hsv : savedOf hl tx place = savedTo hl tx place hl.length ++ [((hl.length : Int), standsOf hl tx hl.length)] := by unfold savedOf; rw [if_pos h4]
      refine wc_region ?_
      refine wl_val (r_move rfl) (ltn rfl) ?_
      refine wl_val (r_move rfl) (ltn rfl) ?_
      refine wl_val (r_move rfl) (ltn rfl) ?_
      refine wl_val (r_move rfl) (ltn rfl) ?_
      refine wl_eff (e_call (r_call rfl Tryz.func78 rfl rfl) (ed_stands_ret HL.f5.f5.f5.f5)) (ltn rfl) ?_
      rintro _ w9 ⟨rfl, H9⟩
      refine wl_val (r_buildL (zl := [.int .i64 0, .string .empty]) (pl := [(0, 1), (1, 1)]) [_, _] Tryz.underlying130 Tryz.zeroValue130 rfl (fun w => by kernel_rfl) rfl (.one (by first | rfl | assumption) (.one (by first | rfl | assumption) .nil)) rfl) (ltn rfl) ?_
      refine wl_eff (e_lit_one H9 Tryz.underlying44 Tryz.sizeOf130 Tryz.zeroValue130 rfl rfl rfl (by decide) (by decide)) (ltn rfl) ?_
      rintro l10 w10 H10
      refine wl_eff (e_append H10.f6 Tryz.underlying44 (show (Tryz.prog.info? 130).map (fun i => (i.zero, i.size, i.bytes)) = some (some (.agg #[.int .i64 0, .string .empty]), 2, 24) by kernel_rfl) rfl rfl rfl ((H10).row_rd) (ones_cons (by first | rfl | assumption) (ones_cons (by first | rfl | assumption) ones_nil)) (by omega) (by omega)) (ltn rfl) ?_
      rintro l11 w11 H11
      have Hd12 := H11.f2.right
      refine wl_val (r_assign rfl) (ltn rfl) ?_
      refine wl_nil ?_
      refine wq_seq ?_
      refine wc_seq ?_
      refine wc_region ?_
      refine wl_val (r_move rfl) (ltn rfl) ?_
      refine wl_val (r_assign rfl) (ltn rfl) ?_
      refine wl_nil ?_
      refine wq_seq ?_
      refine wc_ret ?_
      refine wq_end1 (.inl rfl) Tryz.results54 rfl ?_
      first
        | (rw [hsv, List.length_append, List.flatMap_append]; exact Hd12.f5.f5.f5.f5.f5)
        | (rw [hsv]; exact Hd12.f5.f5.f5.f5.f5)
    · (try simp only [cmpS] at h4)
      have hsv : savedOf hl tx place = savedTo hl tx place hl.length := by unfold savedOf; rw [if_neg (by simpa using h4), List.append_nil]
      refine wc_skip ?_
      refine wq_seq ?_
      refine wc_seq ?_
      refine wc_region ?_
      refine wl_val (r_move rfl) (ltn rfl) ?_
      refine wl_val (r_assign rfl) (ltn rfl) ?_
      refine wl_nil ?_
      refine wq_seq ?_
      refine wc_ret ?_
      refine wq_end1 (.inl rfl) Tryz.results54 rfl ?_
      first
        | (rw [hsv, List.length_append, List.flatMap_append]; exact HL.f5.f5.f5.f5.f5)
        | (rw [hsv]; exact HL.f5.f5.f5.f5.f5)
theorem was_facts {u0 u1 u2 u3 u4 u5 u6 u7 u8 u9 ua : Value} (hin : s.inn = true) (H : Holds w0 w (WasAt s.inn s.was [u0, u1, u2, u3, u4, u5, u6, u7, u8, u9, ua] • F)) : u6 = .int .i64 s.was.last ∧ u7 = .int .i64 s.was.fr ∧ u8 = .int .i64 s.was.to := by
  rw [hin] at H
  obtain ⟨qb, qr, qw, qt, qm, hu, -⟩ := H.was
  simp only [coreL, List.cons.injEq, and_true] at hu
  exact ⟨hu.2.2.2.2.2.2.1, hu.2.2.2.2.2.2.2.1, hu.2.2.2.2.2.2.2.2.1⟩
set_option maxHeartbeats 1000000 in
theorem ed_state_ret (H : Holds w0 w (EdRep e s • F)) : Ret Tryz.prog 14 #[.pointer (some ⟨e, 0, none⟩)] w fun v w' => ∃ u ks us sv, v = .agg (stateL s u ks sv).toArray ∧
    Holds w0 w' (RowI 21 .i32 u s.c.L • Row 22 1 ks s.c.E.length us • Owns 21 .i32 us (killsOf s.c.E s.c.at_) • Row 130 2 sv s.saved.length (s.saved.flatMap svEnc) • EdRep e s • F) := by
  refine ret_enter Tryz.func14 rfl Tryz.ntmps14 (Nat.le_of_ble_eq_true rfl) ?_
  dsimp only [slots0, Nat.reduceAdd]
  obtain ⟨pb_e, pr_e, pw_e, pt_e, pm_e, ph_e, bl_e, pv_e, es_e, u0_e, u1_e, u2_e, u3_e, u4_e, u5_e, u6_e, u7_e, u8_e, u9_e, ua_e, ok_e, says_e, plen_e, HE_e⟩ := (H).edO
  have hU : (s.c.un s.c.place).length ≤ 16384 := by
    obtain ⟨D, P, hD1, hD2, HU⟩ := (HE_e.f6).umap
    by_cases hm : s.c.place ∈ D
    · have HF := HU.swap
      rw [ULs_focus hm] at HF
      obtain ⟨_, _, _, _, k1, _⟩ := HF.flat.ulist
      have := k1.len; simpa using this
    · rw [hD2 _ hm]; decide
  refine wc_seq ?_
  refine wc_region ?_
  refine wl_eff (e_allocL (l := [_, _, _, _, _, _, _, _, _, _, _, _, _, _, _, _, _]) HE_e Tryz.zeroValue46 rfl) (ltn rfl) ?_
  rintro _ w2 ⟨b2, rfl, H2⟩
  refine wl_nil ?_
  refine wq_seq ?_
  refine wc_seq ?_
  refine wc_seq ?_
  refine wc_region ?_
  refine wl_val (r_move rfl) (ltn rfl) ?_
  refine wl_eff (e_call (r_call rfl Tryz.func43 rfl rfl) (ed_none_raw H2.f2)) (ltn rfl) ?_
  rintro _ _ ⟨rfl, rfl⟩
  refine wl_nil ?_
  refine wq_seq ?_
  refine wc_cond_f rfl ?_
  refine wc_skip ?_
  refine wq_seq ?_
  refine wc_join [(0, _)] (fun (⟨r, q, u, ks, sv, us⟩ : Nat × Nat × Value × Value × Value × List Value) => [(2, .pointer (some ⟨r, 0, none⟩)), (3, .pointer (some ⟨q, 0, none⟩))]) (fun (⟨r, q, u, ks, sv, us⟩ : Nat × Nat × Value × Value × Value × List Value) W => Holds w0 W (blk q (.cells (u :: .int .i64 s.c.pt :: .int .i64 s.c.mark :: .int .i64 s.c.mode :: .bool s.c.over :: .bool s.given :: .bool s.minus :: .int .i64 s.arg :: .int .i64 s.c.last :: .int .i64 s.c.fr :: .int .i64 s.c.to :: ks :: .int .i64 s.c.place :: sv :: .int .i64 s.undoes :: .int .i64 s.c.res :: .int .i64 s.bells :: []).toArray 46 (0, 0)) • RowI 21 .i32 u s.c.L • Row 22 1 ks s.c.E.length us • Owns 21 .i32 us (killsOf s.c.E s.c.at_) • Row 130 2 sv s.saved.length (s.saved.flatMap svEnc) • blk e (.cells (.pointer (some ⟨pb_e, 0, none⟩) :: .pointer (some ⟨pr_e, 0, none⟩) :: .pointer (some ⟨pw_e, 0, none⟩) :: .map (some pm_e) :: .int .i64 s.c.mode :: .bool s.c.over :: .int .i64 s.c.last :: .int .i64 s.c.fr :: .int .i64 s.c.to :: .int .i64 s.c.res :: .bool s.c.run :: .pointer (some ⟨ph_e, 0, none⟩) :: .pointer (some ⟨bl_e, 0, none⟩) :: .bool s.given :: .bool s.minus :: .int .i64 s.arg :: .bool s.inn :: u0_e :: u1_e :: u2_e :: u3_e :: u4_e :: u5_e :: u6_e :: u7_e :: u8_e :: u9_e :: ua_e :: .int .i64 s.cls :: .bool s.killed :: .bool s.yanked :: .bool s.argues :: .bool s.whole :: pv_e :: []).toArray 66 (0, 0)) • BufRep pb_e s.c.L s.c.pt s.c.mark • RingRep pr_e s.c.E s.c.at_ • blk pw_e (.cells #[.int .i64 s.c.place, .map (some pt_e)] 112 (0, 0)) • MapRep kI64 pt_e (strF s.c.tx) • UMap pm_e s.c.un • HistRep ph_e s.hl s.base s.most • blk bl_e (.cells #[.int .i64 s.bells] 102 (0, 0)) • Row 120 3 pv_e s.put.length (es_e.flatMap BEd.enc) • edsK es_e • WasAt s.inn s.was [u0_e, u1_e, u2_e, u3_e, u4_e, u5_e, u6_e, u7_e, u8_e, u9_e, ua_e] • blk r (.cells (.slice none 0 0 :: .int .i64 0 :: .int .i64 0 :: .int .i64 0 :: .bool false :: .bool false :: .bool false :: .int .i64 0 :: .int .i64 0 :: .int .i64 0 :: .int .i64 0 :: .slice none 0 0 :: .int .i64 0 :: .slice none 0 0 :: .int .i64 0 :: .int .i64 0 :: .int .i64 0 :: []).toArray 46 (0, 0)) • F)) (Sub.cons rfl (Sub.nil _)) ?_ ?_
  · rintro ⟨r, q, u, ks, sv, us⟩ w4 HJ
    dsimp only [List.cons_append, List.nil_append]
    refine wc_seq ?_
    refine wc_seq ?_
    refine wc_region ?_
    refine wl_val (r_move rfl) (ltn rfl) ?_
    refine wl_val (r_nil rfl) (ltn rfl) ?_
    refine wl_val (r_fieldA 16 Tryz.underlying66 rfl rfl Tryz.sizeOf4 (by decide) rfl (by first | exact Nat.zero_add _ | rfl)) (ltn rfl) ?_
    refine wl_val (r_load (plain_of Tryz.underlying4 rfl) rfl (cell_of_blk (HJ.f6).get.2 rfl)) (ltn rfl) ?_
    refine wl_nil ?_
    refine wq_seq ?_
    refine wc_cond rfl (fun h1 => ?_) (fun h1 => ?_)
    · (try simp only [cmpS] at h1)
      have hin := h1
      obtain ⟨rfl, rfl, rfl⟩ := was_facts hin HJ.f16
      have H5d4 := HJ.drew
      have hS5d4 := Holds.kp (H5d4.right.f16.f16.f16.f16.f16.f16.f16.f16.f16.f16.f16.f16.f16.f16.f16.f16)
      refine wd_beginK [4, 9, 14] hS5d4 (by kernel_rfl) (by kernel_rfl) rfl ?_
      refine wd_takeT 0 rfl (by kernel_rfl) (by kernel_rfl) hS5d4 (fun _ => r_move rfl) (ltn rfl) ?_
      refine wd_takeT 1 rfl (by kernel_rfl) (by kernel_rfl) hS5d4 (fun _ => r_nil rfl) (ltn rfl) ?_
      refine wd_takeT 2 rfl (by kernel_rfl) (by kernel_rfl) hS5d4 (fun _ => r_fieldA 17 Tryz.underlying66 rfl rfl Tryz.sizeOf62 (by decide) rfl (by first | exact Nat.zero_add _ | rfl)) (ltn rfl) ?_
      refine wd_takeT 3 rfl (by kernel_rfl) (by kernel_rfl) hS5d4 (fun _ => r_fieldA 6 Tryz.underlying62 rfl rfl Tryz.sizeOf3 (by decide) rfl (by first | exact Nat.zero_add _ | rfl)) (ltn rfl) ?_
      refine wd_take 4 rfl (by kernel_rfl) (by kernel_rfl) hS5d4 (by decide) (fun W hW => r_load (plain_of Tryz.underlying3 rfl) rfl (cell_of_blk ((Kp.h hW).f5).get.2 rfl)) (ltn rfl) ?_
      refine wd_takeT 5 rfl (by kernel_rfl) (by kernel_rfl) hS5d4 (fun _ => r_move rfl) (ltn rfl) ?_
      refine wd_takeT 6 rfl (by kernel_rfl) (by kernel_rfl) hS5d4 (fun _ => r_nil rfl) (ltn rfl) ?_
      refine wd_takeT 7 rfl (by kernel_rfl) (by kernel_rfl) hS5d4 (fun _ => r_fieldA 17 Tryz.underlying66 rfl rfl Tryz.sizeOf62 (by decide) rfl (by first | exact Nat.zero_add _ | rfl)) (ltn rfl) ?_
      refine wd_takeT 8 rfl (by kernel_rfl) (by kernel_rfl) hS5d4 (fun _ => r_fieldA 7 Tryz.underlying62 rfl rfl Tryz.sizeOf3 (by decide) rfl (by first | exact Nat.zero_add _ | rfl)) (ltn rfl) ?_
      refine wd_take 9 rfl (by kernel_rfl) (by kernel_rfl) hS5d4 (by decide) (fun W hW => r_load (plain_of Tryz.underlying3 rfl) rfl (cell_of_blk ((Kp.h hW).f5).get.2 rfl)) (ltn rfl) ?_
      refine wd_takeT 10 rfl (by kernel_rfl) (by kernel_rfl) hS5d4 (fun _ => r_move rfl) (ltn rfl) ?_
      refine wd_takeT 11 rfl (by kernel_rfl) (by kernel_rfl) hS5d4 (fun _ => r_nil rfl) (ltn rfl) ?_
      refine wd_takeT 12 rfl (by kernel_rfl) (by kernel_rfl) hS5d4 (fun _ => r_fieldA 17 Tryz.underlying66 rfl rfl Tryz.sizeOf62 (by decide) rfl (by first | exact Nat.zero_add _ | rfl)) (ltn rfl) ?_
      refine wd_takeT 13 rfl (by kernel_rfl) (by kernel_rfl) hS5d4 (fun _ => r_fieldA 8 Tryz.underlying62 rfl rfl Tryz.sizeOf3 (by decide) rfl (by first | exact Nat.zero_add _ | rfl)) (ltn rfl) ?_
      refine wd_take 14 rfl (by kernel_rfl) (by kernel_rfl) hS5d4 (by decide) (fun W hW => r_load (plain_of Tryz.underlying3 rfl) rfl (cell_of_blk ((Kp.h hW).f5).get.2 rfl)) (ltn rfl) ?_
      refine wd_takeT 15 rfl (by kernel_rfl) (by kernel_rfl) hS5d4 (fun _ => r_fieldA 8 Tryz.underlying46 rfl rfl Tryz.sizeOf3 (by decide) rfl (by first | exact Nat.zero_add _ | rfl)) (ltn rfl) ?_
      refine wd_eff0 16 rfl (by kernel_rfl) (e_storeL 8 (l' := [_, _, _, _, _, _, _, _, _, _, _, _, _, _, _, _, _]) H5d4 Tryz.sizeOf3 rfl rfl (by first | rfl | assumption) rfl rfl) ?_
      rintro _ w5 H5
      have hS5n := Holds.kp (H5.right.f16.f16.f16.f16.f16.f16.f16.f16.f16.f16.f16.f16.f16.f16.f16.f16)
      refine keepK hS5n (fun W hW => (Kp.h hW).f16.f16.f16.f16.f16.f16.f16.f16.f16.f16.f16.f16.f16.f16.f16.f16) ?_
      refine wd_takeT 17 rfl (by kernel_rfl) (by kernel_rfl) hS5n (fun _ => r_fieldA 9 Tryz.underlying46 rfl rfl Tryz.sizeOf3 (by decide) rfl (by first | exact Nat.zero_add _ | rfl)) (ltn rfl) ?_
      refine wd_eff0 18 rfl (by kernel_rfl) (e_storeL 9 (l' := [_, _, _, _, _, _, _, _, _, _, _, _, _, _, _, _, _]) H5 Tryz.sizeOf3 rfl rfl (by first | rfl | assumption) rfl rfl) ?_
      rintro _ w6 H6
      have hS6n := Holds.kp (H6.f17.f17.f17.f17.f17.f17.f17.f17.f17.f17.f17.f17.f17.f17.f17.f17.f17)
      refine keepK hS6n (fun W hW => (Kp.h hW).right.f16.f16.f16.f16.f16.f16.f16.f16.f16.f16.f16.f16.f16.f16.f16.f16) ?_
      refine wd_takeT 19 rfl (by kernel_rfl) (by kernel_rfl) hS6n (fun _ => r_fieldA 10 Tryz.underlying46 rfl rfl Tryz.sizeOf3 (by decide) rfl (by first | exact Nat.zero_add _ | rfl)) (ltn rfl) ?_
      refine wd_eff0 20 rfl (by kernel_rfl) (e_storeL 10 (l' := [_, _, _, _, _, _, _, _, _, _, _, _, _, _, _, _, _]) H6 Tryz.sizeOf3 rfl rfl (by first | rfl | assumption) rfl rfl) ?_
      rintro _ w7 H7
      have hS7n := Holds.kp (H7.f17.f17.f17.f17.f17.f17.f17.f17.f17.f17.f17.f17.f17.f17.f17.f17.f17)
      refine keepX hS7n (by kernel_rfl) ?_
      refine wd_done (by kernel_rfl) ?_
      refine wq_seq ?_
      refine wc_seq ?_
      refine wc_region ?_
      refine wl_val (r_load_whole Tryz.underlying46 rfl Tryz.sizeOf46 rfl rfl (H7).get.2) (ltn rfl) ?_
      refine wl_eff0 (e_storePL 0 (l' := [_, _, _, _, _, _, _, _, _, _, _, _, _, _, _, _, _]) (us := [_, _, _, _, _, _, _, _, _, _, _, _, _, _, _, _, _]) H7.f17 Tryz.sizeOf46 rfl rfl rfl (ones_cons (by first | rfl | exact Rd.one ((H7.f2).row_rd)) (ones_cons (by first | rfl | assumption) (ones_cons (by first | rfl | assumption) (ones_cons (by first | rfl | assumption) (ones_cons (by first | rfl | assumption) (ones_cons (by first | rfl | assumption) (ones_cons (by first | rfl | assumption) (ones_cons (by first | rfl | assumption) (ones_cons (by first | rfl | assumption) (ones_cons (by first | rfl | assumption) (ones_cons (by first | rfl | assumption) (ones_cons (by first | rfl | exact Rd.one ((H7.f3).row_rd)) (ones_cons (by first | rfl | assumption) (ones_cons (by first | rfl | exact Rd.one ((H7.f5).row_rd)) (ones_cons (by first | rfl | assumption) (ones_cons (by first | rfl | assumption) (ones_cons (by first | rfl | assumption) ones_nil))))))))))))))))) rfl rfl) ?_
      rintro _ w8 H8
      refine wl_nil ?_
      refine wq_seq ?_
      refine wc_ret ?_
      refine wq_end (.inl rfl) (resC Tryz.results14 rfl Tryz.underlying46 rfl (by rw [show (Tryz.prog.info? 46).map (·.size) = some 17 from by kernel_rfl]; rfl) (H8).get.2) ?_
      have Ho10 := H8.f17.f17.f17.f17.f17.f17.f17.f17.f17.f17.f17
      have Hc11 := Holds.mk_ed (s := s) ok_e says_e Ho10
      refine ⟨u, ks, us, sv, ?_, Hc11.f2.right.f2.right.f5.f5.f5.f5⟩
      unfold stateL EdS.lastS EdS.frS EdS.toS
      rw [hin]
      rfl
    · (try simp only [cmpS] at h1)
      have hin := h1
      refine wc_skip ?_
      refine wq_seq ?_
      refine wc_seq ?_
      refine wc_region ?_
      refine wl_val (r_load_whole Tryz.underlying46 rfl Tryz.sizeOf46 rfl rfl (HJ).get.2) (ltn rfl) ?_
      refine wl_eff0 (e_storePL 0 (l' := [_, _, _, _, _, _, _, _, _, _, _, _, _, _, _, _, _]) (us := [_, _, _, _, _, _, _, _, _, _, _, _, _, _, _, _, _]) HJ.f17 Tryz.sizeOf46 rfl rfl rfl (ones_cons (by first | rfl | exact Rd.one ((HJ.f2).row_rd)) (ones_cons (by first | rfl | assumption) (ones_cons (by first | rfl | assumption) (ones_cons (by first | rfl | assumption) (ones_cons (by first | rfl | assumption) (ones_cons (by first | rfl | assumption) (ones_cons (by first | rfl | assumption) (ones_cons (by first | rfl | assumption) (ones_cons (by first | rfl | assumption) (ones_cons (by first | rfl | assumption) (ones_cons (by first | rfl | assumption) (ones_cons (by first | rfl | exact Rd.one ((HJ.f3).row_rd)) (ones_cons (by first | rfl | assumption) (ones_cons (by first | rfl | exact Rd.one ((HJ.f5).row_rd)) (ones_cons (by first | rfl | assumption) (ones_cons (by first | rfl | assumption) (ones_cons (by first | rfl | assumption) ones_nil))))))))))))))))) rfl rfl) ?_
      rintro _ w12 H12
      refine wl_nil ?_
      refine wq_seq ?_
      refine wc_ret ?_
      refine wq_end (.inl rfl) (resC Tryz.results14 rfl Tryz.underlying46 rfl (by rw [show (Tryz.prog.info? 46).map (·.size) = some 17 from by kernel_rfl]; rfl) (H12).get.2) ?_
      have Ho14 := H12.f17.f17.f17.f17.f17.f17.f17.f17.f17.f17.f17
      have Hc15 := Holds.mk_ed (s := s) ok_e says_e Ho14
      refine ⟨u, ks, us, sv, ?_, Hc15.f2.right.f2.right.f5.f5.f5.f5⟩
      unfold stateL EdS.lastS EdS.frS EdS.toS
      rw [hin]
      rfl
  · skip
    have H3d15 := H2.drew
    have hS3d15 := Holds.kp (H3d15.f7.right.f7.right.f10.f10.f10.f10.f10.f10.f10.f10.f10.f10)
    refine wd_beginK [6, 11, 15, 19, 23, 28, 33, 38, 45, 48, 57, 61] hS3d15 (by kernel_rfl) (by kernel_rfl) rfl ?_
    refine wd_takeT 0 rfl (by kernel_rfl) (by kernel_rfl) hS3d15 (fun _ => r_move rfl) (ltn rfl) ?_
    refine wd_takeT 2 rfl (by kernel_rfl) (by kernel_rfl) hS3d15 (fun _ => r_move rfl) (ltn rfl) ?_
    refine wd_takeT 3 rfl (by kernel_rfl) (by kernel_rfl) hS3d15 (fun _ => r_nil rfl) (ltn rfl) ?_
    refine wd_takeT 4 rfl (by kernel_rfl) (by kernel_rfl) hS3d15 (fun _ => r_fieldA 0 Tryz.underlying66 rfl rfl Tryz.sizeOf62 (by decide) rfl (by first | exact Nat.zero_add _ | rfl)) (ltn rfl) ?_
    refine wd_takeT 5 rfl (by kernel_rfl) (by kernel_rfl) hS3d15 (fun _ => r_fieldA 4 Tryz.underlying62 rfl rfl Tryz.sizeOf3 (by decide) rfl (by first | exact Nat.zero_add _ | rfl)) (ltn rfl) ?_
    refine wd_take 6 rfl (by kernel_rfl) (by kernel_rfl) hS3d15 (by decide) (fun W hW => r_load (plain_of Tryz.underlying3 rfl) rfl (cell_of_blk ((Kp.h hW).f2).get.2 rfl)) (ltn rfl) ?_
    refine wd_takeT 7 rfl (by kernel_rfl) (by kernel_rfl) hS3d15 (fun _ => r_move rfl) (ltn rfl) ?_
    refine wd_takeT 8 rfl (by kernel_rfl) (by kernel_rfl) hS3d15 (fun _ => r_nil rfl) (ltn rfl) ?_
    refine wd_takeT 9 rfl (by kernel_rfl) (by kernel_rfl) hS3d15 (fun _ => r_fieldA 0 Tryz.underlying66 rfl rfl Tryz.sizeOf62 (by decide) rfl (by first | exact Nat.zero_add _ | rfl)) (ltn rfl) ?_
    refine wd_takeT 10 rfl (by kernel_rfl) (by kernel_rfl) hS3d15 (fun _ => r_fieldA 5 Tryz.underlying62 rfl rfl Tryz.sizeOf4 (by decide) rfl (by first | exact Nat.zero_add _ | rfl)) (ltn rfl) ?_
    refine wd_take 11 rfl (by kernel_rfl) (by kernel_rfl) hS3d15 (by decide) (fun W hW => r_load (plain_of Tryz.underlying4 rfl) rfl (cell_of_blk ((Kp.h hW).f2).get.2 rfl)) (ltn rfl) ?_
    refine wd_takeT 12 rfl (by kernel_rfl) (by kernel_rfl) hS3d15 (fun _ => r_move rfl) (ltn rfl) ?_
    refine wd_takeT 13 rfl (by kernel_rfl) (by kernel_rfl) hS3d15 (fun _ => r_nil rfl) (ltn rfl) ?_
    refine wd_takeT 14 rfl (by kernel_rfl) (by kernel_rfl) hS3d15 (fun _ => r_fieldA 13 Tryz.underlying66 rfl rfl Tryz.sizeOf4 (by decide) rfl (by first | exact Nat.zero_add _ | rfl)) (ltn rfl) ?_
    refine wd_take 15 rfl (by kernel_rfl) (by kernel_rfl) hS3d15 (by decide) (fun W hW => r_load (plain_of Tryz.underlying4 rfl) rfl (cell_of_blk ((Kp.h hW).f2).get.2 rfl)) (ltn rfl) ?_
    refine wd_takeT 16 rfl (by kernel_rfl) (by kernel_rfl) hS3d15 (fun _ => r_move rfl) (ltn rfl) ?_
    refine wd_takeT 17 rfl (by kernel_rfl) (by kernel_rfl) hS3d15 (fun _ => r_nil rfl) (ltn rfl) ?_
    refine wd_takeT 18 rfl (by kernel_rfl) (by kernel_rfl) hS3d15 (fun _ => r_fieldA 14 Tryz.underlying66 rfl rfl Tryz.sizeOf4 (by decide) rfl (by first | exact Nat.zero_add _ | rfl)) (ltn rfl) ?_
    refine wd_take 19 rfl (by kernel_rfl) (by kernel_rfl) hS3d15 (by decide) (fun W hW => r_load (plain_of Tryz.underlying4 rfl) rfl (cell_of_blk ((Kp.h hW).f2).get.2 rfl)) (ltn rfl) ?_
    refine wd_takeT 20 rfl (by kernel_rfl) (by kernel_rfl) hS3d15 (fun _ => r_move rfl) (ltn rfl) ?_
    refine wd_takeT 21 rfl (by kernel_rfl) (by kernel_rfl) hS3d15 (fun _ => r_nil rfl) (ltn rfl) ?_
    refine wd_takeT 22 rfl (by kernel_rfl) (by kernel_rfl) hS3d15 (fun _ => r_fieldA 15 Tryz.underlying66 rfl rfl Tryz.sizeOf3 (by decide) rfl (by first | exact Nat.zero_add _ | rfl)) (ltn rfl) ?_
    refine wd_take 23 rfl (by kernel_rfl) (by kernel_rfl) hS3d15 (by decide) (fun W hW => r_load (plain_of Tryz.underlying3 rfl) rfl (cell_of_blk ((Kp.h hW).f2).get.2 rfl)) (ltn rfl) ?_
    refine wd_takeT 24 rfl (by kernel_rfl) (by kernel_rfl) hS3d15 (fun _ => r_move rfl) (ltn rfl) ?_
    refine wd_takeT 25 rfl (by kernel_rfl) (by kernel_rfl) hS3d15 (fun _ => r_nil rfl) (ltn rfl) ?_
    refine wd_takeT 26 rfl (by kernel_rfl) (by kernel_rfl) hS3d15 (fun _ => r_fieldA 0 Tryz.underlying66 rfl rfl Tryz.sizeOf62 (by decide) rfl (by first | exact Nat.zero_add _ | rfl)) (ltn rfl) ?_
    refine wd_takeT 27 rfl (by kernel_rfl) (by kernel_rfl) hS3d15 (fun _ => r_fieldA 6 Tryz.underlying62 rfl rfl Tryz.sizeOf3 (by decide) rfl (by first | exact Nat.zero_add _ | rfl)) (ltn rfl) ?_
    refine wd_take 28 rfl (by kernel_rfl) (by kernel_rfl) hS3d15 (by decide) (fun W hW => r_load (plain_of Tryz.underlying3 rfl) rfl (cell_of_blk ((Kp.h hW).f2).get.2 rfl)) (ltn rfl) ?_
    refine wd_takeT 29 rfl (by kernel_rfl) (by kernel_rfl) hS3d15 (fun _ => r_move rfl) (ltn rfl) ?_
    refine wd_takeT 30 rfl (by kernel_rfl) (by kernel_rfl) hS3d15 (fun _ => r_nil rfl) (ltn rfl) ?_
    refine wd_takeT 31 rfl (by kernel_rfl) (by kernel_rfl) hS3d15 (fun _ => r_fieldA 0 Tryz.underlying66 rfl rfl Tryz.sizeOf62 (by decide) rfl (by first | exact Nat.zero_add _ | rfl)) (ltn rfl) ?_
    refine wd_takeT 32 rfl (by kernel_rfl) (by kernel_rfl) hS3d15 (fun _ => r_fieldA 7 Tryz.underlying62 rfl rfl Tryz.sizeOf3 (by decide) rfl (by first | exact Nat.zero_add _ | rfl)) (ltn rfl) ?_
    refine wd_take 33 rfl (by kernel_rfl) (by kernel_rfl) hS3d15 (by decide) (fun W hW => r_load (plain_of Tryz.underlying3 rfl) rfl (cell_of_blk ((Kp.h hW).f2).get.2 rfl)) (ltn rfl) ?_
    refine wd_takeT 34 rfl (by kernel_rfl) (by kernel_rfl) hS3d15 (fun _ => r_move rfl) (ltn rfl) ?_
    refine wd_takeT 35 rfl (by kernel_rfl) (by kernel_rfl) hS3d15 (fun _ => r_nil rfl) (ltn rfl) ?_
    refine wd_takeT 36 rfl (by kernel_rfl) (by kernel_rfl) hS3d15 (fun _ => r_fieldA 0 Tryz.underlying66 rfl rfl Tryz.sizeOf62 (by decide) rfl (by first | exact Nat.zero_add _ | rfl)) (ltn rfl) ?_
    refine wd_takeT 37 rfl (by kernel_rfl) (by kernel_rfl) hS3d15 (fun _ => r_fieldA 8 Tryz.underlying62 rfl rfl Tryz.sizeOf3 (by decide) rfl (by first | exact Nat.zero_add _ | rfl)) (ltn rfl) ?_
    refine wd_take 38 rfl (by kernel_rfl) (by kernel_rfl) hS3d15 (by decide) (fun W hW => r_load (plain_of Tryz.underlying3 rfl) rfl (cell_of_blk ((Kp.h hW).f2).get.2 rfl)) (ltn rfl) ?_
    refine wd_takeT 39 rfl (by kernel_rfl) (by kernel_rfl) hS3d15 (fun _ => r_move rfl) (ltn rfl) ?_
    refine wd_takeT 41 rfl (by kernel_rfl) (by kernel_rfl) hS3d15 (fun _ => r_move rfl) (ltn rfl) ?_
    refine wd_takeT 42 rfl (by kernel_rfl) (by kernel_rfl) hS3d15 (fun _ => r_nil rfl) (ltn rfl) ?_
    refine wd_takeT 43 rfl (by kernel_rfl) (by kernel_rfl) hS3d15 (fun _ => r_fieldA 0 Tryz.underlying66 rfl rfl Tryz.sizeOf62 (by decide) rfl (by first | exact Nat.zero_add _ | rfl)) (ltn rfl) ?_
    refine wd_takeT 44 rfl (by kernel_rfl) (by kernel_rfl) hS3d15 (fun _ => r_fieldA 2 Tryz.underlying62 rfl rfl Tryz.sizeOf59 (by decide) rfl (by first | exact Nat.zero_add _ | rfl)) (ltn rfl) ?_
    refine wd_take 45 rfl (by kernel_rfl) (by kernel_rfl) hS3d15 (by decide) (fun W hW => r_load (plain_of Tryz.underlying59 rfl) rfl (cell_of_blk ((Kp.h hW).f2).get.2 rfl)) (ltn rfl) ?_
    refine wd_takeT 46 rfl (by kernel_rfl) (by kernel_rfl) hS3d15 (fun _ => r_nil rfl) (ltn rfl) ?_
    refine wd_takeT 47 rfl (by kernel_rfl) (by kernel_rfl) hS3d15 (fun _ => r_fieldA 0 Tryz.underlying112 rfl rfl Tryz.sizeOf3 (by decide) rfl (by first | exact Nat.zero_add _ | rfl)) (ltn rfl) ?_
    refine wd_take 48 rfl (by kernel_rfl) (by kernel_rfl) hS3d15 (by decide) (fun W hW => r_load (plain_of Tryz.underlying3 rfl) rfl (cell_of_blk ((Kp.h hW).f5).get.2 rfl)) (ltn rfl) ?_
    refine wd_takeT 49 rfl (by kernel_rfl) (by kernel_rfl) hS3d15 (fun _ => r_move rfl) (ltn rfl) ?_
    refine wd_takeT 51 rfl (by kernel_rfl) (by kernel_rfl) hS3d15 (fun _ => r_move rfl) (ltn rfl) ?_
    refine wd_takeT 53 rfl (by kernel_rfl) (by kernel_rfl) hS3d15 (fun _ => r_move rfl) (ltn rfl) ?_
    refine wd_takeT 54 rfl (by kernel_rfl) (by kernel_rfl) hS3d15 (fun _ => r_nil rfl) (ltn rfl) ?_
    refine wd_takeT 55 rfl (by kernel_rfl) (by kernel_rfl) hS3d15 (fun _ => r_fieldA 0 Tryz.underlying66 rfl rfl Tryz.sizeOf62 (by decide) rfl (by first | exact Nat.zero_add _ | rfl)) (ltn rfl) ?_
    refine wd_takeT 56 rfl (by kernel_rfl) (by kernel_rfl) hS3d15 (fun _ => r_fieldA 9 Tryz.underlying62 rfl rfl Tryz.sizeOf3 (by decide) rfl (by first | exact Nat.zero_add _ | rfl)) (ltn rfl) ?_
    refine wd_take 57 rfl (by kernel_rfl) (by kernel_rfl) hS3d15 (by decide) (fun W hW => r_load (plain_of Tryz.underlying3 rfl) rfl (cell_of_blk ((Kp.h hW).f2).get.2 rfl)) (ltn rfl) ?_
    refine wd_takeT 58 rfl (by kernel_rfl) (by kernel_rfl) hS3d15 (fun _ => r_move rfl) (ltn rfl) ?_
    refine wd_takeT 59 rfl (by kernel_rfl) (by kernel_rfl) hS3d15 (fun _ => r_nil rfl) (ltn rfl) ?_
    refine wd_takeT 60 rfl (by kernel_rfl) (by kernel_rfl) hS3d15 (fun _ => r_fieldA 12 Tryz.underlying66 rfl rfl Tryz.sizeOf63 (by decide) rfl (by first | exact Nat.zero_add _ | rfl)) (ltn rfl) ?_
    refine wd_take 61 rfl (by kernel_rfl) (by kernel_rfl) hS3d15 (by decide) (fun W hW => r_load (plain_of Tryz.underlying63 rfl) rfl (cell_of_blk ((Kp.h hW).f2).get.2 rfl)) (ltn rfl) ?_
    refine wd_two (i := 1) (j := 64) (by kernel_rfl) ?_ ?_
    · skip
      refine wdi_eff 1 rfl (by kernel_rfl) (e_call (r_call rfl Tryz.func18 rfl rfl) (ed_line_raw H3d15.f3.f3)) (ltn rfl) ?_
      rintro _ w16 ⟨u16, rfl, H16⟩
      have hS16n := Holds.kp (H16.f8.right.f8.right.f11.f11.f11.f11.f11.f11.f11.f11.f11.f11.f11)
      refine keepK hS16n (fun W hW => (Kp.h hW).right.f10.f10.f10.f10.f10.f10.f10.f9.f9.f10) ?_
      refine wd_two (i := 40) (j := 64) (by kernel_rfl) ?_ ?_
      · skip
        refine wdi_eff 40 rfl (by kernel_rfl) (e_call (r_call rfl Tryz.func32 rfl rfl) (ed_kills_raw H16.f5.f3)) (ltn rfl) ?_
        rintro u17 w17 ⟨us17, H17⟩
        have hS17n := Holds.kp (H17.f10.right.f10.right.f13.f13.f13.f13.f13.f13.f13.f13.f13.f13.f13.f13.f13)
        refine keepK hS17n (fun W hW => (Kp.h hW).right.right.f11.f11.f11.f11.f11.f11.f8.f11.f11.f10.f11) ?_
        refine wd_two (i := 50) (j := 64) (by kernel_rfl) ?_ ?_
        · skip
          refine wdi_eff 50 rfl (by kernel_rfl) (e_call (r_call rfl Tryz.func54 rfl rfl) (ed_saved_ret H17.f11.f10.f10.f6)) (ltn rfl) ?_
          rintro u18 w18 H18
          have hS18n := Holds.kp (H18.f12.right.f15.f15.f15.f15.f15.f15.f15.f15.f15.f15.f15.f15.f15.f15.f15)
          refine keepK hS18n (fun W hW => (Kp.h hW).right.f4.right.f13.f13.f13.f13.f7.f7.f13.f13.f13.f13.f11.f13.f13) ?_
          refine wd_two (i := 52) (j := 64) (by kernel_rfl) ?_ ?_
          · skip
            refine wdi_eff 52 rfl (by kernel_rfl) (e_call (r_call rfl Tryz.func55 rfl rfl) (ed_undoes_ret H18.f14.f13.f5.f5 hU)) (ltn rfl) ?_
            rintro _ w19 ⟨rfl, H19⟩
            have hS19n := Holds.kp (H19.f16.f16.f16.f16.f16.f16.f16.f16.f16.f16.f16.f16.f16.f16.f16.f16)
            refine keepK hS19n (fun W hW => (Kp.h hW).f3.right.f15.f15.f5.f15.f15.f15.f15.f15.f15.f15.f15.f15.f14.f14.f15) ?_
            refine wd_two (i := 62) (j := 64) (by kernel_rfl) ?_ ?_
            · skip
              refine wdi_eff 62 rfl (by kernel_rfl) (e_call (r_call rfl Tryz.func56 rfl rfl) (atom_load_ret H19.f14)) (ltn rfl) ?_
              rintro _ _ ⟨rfl, rfl⟩
              have hS20n := Holds.kp (H19.f16.f16.f16.f16.f16.f16.f16.f16.f16.f16.f16.f16.f16.f16.f16.f16)
              refine keepK hS20n (fun W hW => (Kp.h hW).f16.f16.f16.f16.f16.f16.f16.f16.f16.f16.f16.f16.f16.f16.f16.f16) ?_
              refine wd_takeT 63 rfl (by kernel_rfl) (by kernel_rfl) hS20n (fun _ => r_buildL (zl := [.slice none 0 0, .int .i64 0, .int .i64 0, .int .i64 0, .bool false, .bool false, .bool false, .int .i64 0, .int .i64 0, .int .i64 0, .int .i64 0, .slice none 0 0, .int .i64 0, .slice none 0 0, .int .i64 0, .int .i64 0, .int .i64 0]) (pl := [(0, 3), (3, 1), (4, 1), (5, 1), (6, 1), (7, 1), (8, 1), (9, 1), (10, 1), (11, 1), (12, 1), (13, 1), (14, 1), (15, 1), (16, 1)]) [_, _, _, _, _, _, _, _, _, _, _, _, _, _, _, _, _] Tryz.underlying46 Tryz.zeroValue46 rfl (fun w => by kernel_rfl) rfl (.agg (us := [_, _, _]) (zs := [.slice none 0 0, .int .i64 0, .int .i64 0]) rfl rfl (.one (by first | rfl | assumption) (.one (by first | rfl | assumption) (.one (by first | rfl | assumption) (.one (by first | rfl | assumption) (.one (by first | rfl | assumption) (.one (by first | rfl | assumption) (.one (by first | rfl | assumption) (.one (by first | rfl | assumption) (.one (Rd.one ((H19.f8).row_rd)) (.one (by first | rfl | assumption) (.one (Rd.one ((H19.f5).row_rd)) (.one (by first | rfl | assumption) (.one (by first | rfl | assumption) (.one (by first | rfl | assumption) .nil))))))))))))))) rfl) (ltn rfl) ?_
              refine wd_eff 64 rfl (by kernel_rfl) (e_allocL (l := [_, _, _, _, _, _, _, _, _, _, _, _, _, _, _, _, _]) H19 Tryz.zeroValue46 rfl) (ltn rfl) ?_
              rintro _ w21 ⟨b21, rfl, H21⟩
              have hS21n := Holds.kp (H21.f17.f17.f17.f17.f17.f17.f17.f17.f17.f17.f17.f17.f17.f17.f17.f17.f17)
              refine keepK hS21n (fun W hW => (Kp.h hW).right.f16.f16.f16.f16.f16.f16.f16.f16.f16.f16.f16.f16.f16.f16.f16.f16) ?_
              refine wd_eff0 65 rfl (by kernel_rfl) (e_storePL 0 (l' := [_, _, _, _, _, _, _, _, _, _, _, _, _, _, _, _, _]) (us := [_, _, _, _, _, _, _, _, _, _, _, _, _, _, _, _, _]) H21 Tryz.sizeOf46 rfl rfl rfl (ones_cons (by first | rfl | exact Rd.one ((H21.f12).row_rd)) (ones_cons (by first | rfl | assumption) (ones_cons (by first | rfl | assumption) (ones_cons (by first | rfl | assumption) (ones_cons (by first | rfl | assumption) (ones_cons (by first | rfl | assumption) (ones_cons (by first | rfl | assumption) (ones_cons (by first | rfl | assumption) (ones_cons (by first | rfl | assumption) (ones_cons (by first | rfl | assumption) (ones_cons (by first | rfl | assumption) (ones_cons (by first | rfl | exact Rd.one ((H21.f9).row_rd)) (ones_cons (by first | rfl | assumption) (ones_cons (by first | rfl | exact Rd.one ((H21.f6).row_rd)) (ones_cons (by first | rfl | assumption) (ones_cons (by first | rfl | assumption) (ones_cons (by first | rfl | assumption) ones_nil))))))))))))))))) rfl rfl) ?_
              rintro _ w22 H22
              have hS22n := Holds.kp (H22.f17.f17.f17.f17.f17.f17.f17.f17.f17.f17.f17.f17.f17.f17.f17.f17.f17)
              refine keepX hS22n (by kernel_rfl) ?_
              refine wd_done (by kernel_rfl) ?_
              refine wq_join (_, _, _, _, _, _) (Sub.cons rfl (Sub.cons rfl (Sub.nil _))) (Sub.cons rfl (Sub.nil _)) (by (try dsimp only); exact H22.f14.f17.f17.f8.f17.f12.f10.f12.f11.f15.f17.f13.f14.f16.f16.f17.f17)
            · skip
              refine wdi_eff 64 rfl (by kernel_rfl) (e_allocL (l := [_, _, _, _, _, _, _, _, _, _, _, _, _, _, _, _, _]) H19 Tryz.zeroValue46 rfl) (ltn rfl) ?_
              rintro _ w23 ⟨b23, rfl, H23⟩
              have hS23n := Holds.kp (H23.f17.f17.f17.f17.f17.f17.f17.f17.f17.f17.f17.f17.f17.f17.f17.f17.f17)
              refine keepK hS23n (fun W hW => (Kp.h hW).right.f16.f16.f16.f16.f16.f16.f16.f16.f16.f16.f16.f16.f16.f16.f16.f16) ?_
              refine wd_eff 62 rfl (by kernel_rfl) (e_call (r_call rfl Tryz.func56 rfl rfl) (atom_load_ret H23.f15)) (ltn rfl) ?_
              rintro _ _ ⟨rfl, rfl⟩
              have hS24n := Holds.kp (H23.f17.f17.f17.f17.f17.f17.f17.f17.f17.f17.f17.f17.f17.f17.f17.f17.f17)
              refine keepK hS24n (fun W hW => (Kp.h hW).f17.f17.f17.f17.f17.f17.f17.f17.f17.f17.f17.f17.f17.f17.f17.f17.f17) ?_
              refine wd_takeT 63 rfl (by kernel_rfl) (by kernel_rfl) hS24n (fun _ => r_buildL (zl := [.slice none 0 0, .int .i64 0, .int .i64 0, .int .i64 0, .bool false, .bool false, .bool false, .int .i64 0, .int .i64 0, .int .i64 0, .int .i64 0, .slice none 0 0, .int .i64 0, .slice none 0 0, .int .i64 0, .int .i64 0, .int .i64 0]) (pl := [(0, 3), (3, 1), (4, 1), (5, 1), (6, 1), (7, 1), (8, 1), (9, 1), (10, 1), (11, 1), (12, 1), (13, 1), (14, 1), (15, 1), (16, 1)]) [_, _, _, _, _, _, _, _, _, _, _, _, _, _, _, _, _] Tryz.underlying46 Tryz.zeroValue46 rfl (fun w => by kernel_rfl) rfl (.agg (us := [_, _, _]) (zs := [.slice none 0 0, .int .i64 0, .int .i64 0]) rfl rfl (.one (by first | rfl | assumption) (.one (by first | rfl | assumption) (.one (by first | rfl | assumption) (.one (by first | rfl | assumption) (.one (by first | rfl | assumption) (.one (by first | rfl | assumption) (.one (by first | rfl | assumption) (.one (by first | rfl | assumption) (.one (Rd.one ((H23.f9).row_rd)) (.one (by first | rfl | assumption) (.one (Rd.one ((H23.f6).row_rd)) (.one (by first | rfl | assumption) (.one (by first | rfl | assumption) (.one (by first | rfl | assumption) .nil))))))))))))))) rfl) (ltn rfl) ?_
              refine wd_eff0 65 rfl (by kernel_rfl) (e_storePL 0 (l' := [_, _, _, _, _, _, _, _, _, _, _, _, _, _, _, _, _]) (us := [_, _, _, _, _, _, _, _, _, _, _, _, _, _, _, _, _]) H23 Tryz.sizeOf46 rfl rfl rfl (ones_cons (by first | rfl | exact Rd.one ((H23.f12).row_rd)) (ones_cons (by first | rfl | assumption) (ones_cons (by first | rfl | assumption) (ones_cons (by first | rfl | assumption) (ones_cons (by first | rfl | assumption) (ones_cons (by first | rfl | assumption) (ones_cons (by first | rfl | assumption) (ones_cons (by first | rfl | assumption) (ones_cons (by first | rfl | assumption) (ones_cons (by first | rfl | assumption) (ones_cons (by first | rfl | assumption) (ones_cons (by first | rfl | exact Rd.one ((H23.f9).row_rd)) (ones_cons (by first | rfl | assumption) (ones_cons (by first | rfl | exact Rd.one ((H23.f6).row_rd)) (ones_cons (by first | rfl | assumption) (ones_cons (by first | rfl | assumption) (ones_cons (by first | rfl | assumption) ones_nil))))))))))))))))) rfl rfl) ?_
              rintro _ w25 H25
              have hS25n := Holds.kp (H25.f17.f17.f17.f17.f17.f17.f17.f17.f17.f17.f17.f17.f17.f17.f17.f17.f17)
              refine keepX hS25n (by kernel_rfl) ?_
              refine wd_done (by kernel_rfl) ?_
              refine wq_join (_, _, _, _, _, _) (Sub.cons rfl (Sub.cons rfl (Sub.nil _))) (Sub.cons rfl (Sub.nil _)) (by (try dsimp only); exact H25.f14.f17.f17.f8.f17.f12.f10.f12.f11.f15.f17.f13.f14.f16.f16.f17.f17)
          · skip
            refine wdi_eff 64 rfl (by kernel_rfl) (e_allocL (l := [_, _, _, _, _, _, _, _, _, _, _, _, _, _, _, _, _]) H18 Tryz.zeroValue46 rfl) (ltn rfl) ?_
            rintro _ w26 ⟨b26, rfl, H26⟩
            have hS26n := Holds.kp (H26.f13.right.f16.f16.f16.f16.f16.f16.f16.f16.f16.f16.f16.f16.f16.f16.f16.f16)
            refine keepK hS26n (fun W hW => (Kp.h hW).right.f15.f15.f15.f15.f15.f15.f15.f15.f15.f15.f15.f15.f15.f15.f15) ?_
            refine wd_eff 52 rfl (by kernel_rfl) (e_call (r_call rfl Tryz.func55 rfl rfl) (ed_undoes_ret H26.f15.f14.f6.f6 hU)) (ltn rfl) ?_
            rintro _ w27 ⟨rfl, H27⟩
            have hS27n := Holds.kp (H27.f17.f17.f17.f17.f17.f17.f17.f17.f17.f17.f17.f17.f17.f17.f17.f17.f17)
            refine keepK hS27n (fun W hW => (Kp.h hW).f3.right.f16.f16.f5.f16.f16.f16.f16.f16.f16.f16.f16.f16.f14.f14.f16.f16) ?_
            refine wd_eff 62 rfl (by kernel_rfl) (e_call (r_call rfl Tryz.func56 rfl rfl) (atom_load_ret H27.f15)) (ltn rfl) ?_
            rintro _ _ ⟨rfl, rfl⟩
            have hS28n := Holds.kp (H27.f17.f17.f17.f17.f17.f17.f17.f17.f17.f17.f17.f17.f17.f17.f17.f17.f17)
            refine keepK hS28n (fun W hW => (Kp.h hW).f17.f17.f17.f17.f17.f17.f17.f17.f17.f17.f17.f17.f17.f17.f17.f17.f17) ?_
            refine wd_takeT 63 rfl (by kernel_rfl) (by kernel_rfl) hS28n (fun _ => r_buildL (zl := [.slice none 0 0, .int .i64 0, .int .i64 0, .int .i64 0, .bool false, .bool false, .bool false, .int .i64 0, .int .i64 0, .int .i64 0, .int .i64 0, .slice none 0 0, .int .i64 0, .slice none 0 0, .int .i64 0, .int .i64 0, .int .i64 0]) (pl := [(0, 3), (3, 1), (4, 1), (5, 1), (6, 1), (7, 1), (8, 1), (9, 1), (10, 1), (11, 1), (12, 1), (13, 1), (14, 1), (15, 1), (16, 1)]) [_, _, _, _, _, _, _, _, _, _, _, _, _, _, _, _, _] Tryz.underlying46 Tryz.zeroValue46 rfl (fun w => by kernel_rfl) rfl (.agg (us := [_, _, _]) (zs := [.slice none 0 0, .int .i64 0, .int .i64 0]) rfl rfl (.one (by first | rfl | assumption) (.one (by first | rfl | assumption) (.one (by first | rfl | assumption) (.one (by first | rfl | assumption) (.one (by first | rfl | assumption) (.one (by first | rfl | assumption) (.one (by first | rfl | assumption) (.one (by first | rfl | assumption) (.one (Rd.one ((H27.f9).row_rd)) (.one (by first | rfl | assumption) (.one (Rd.one ((H27.f6).row_rd)) (.one (by first | rfl | assumption) (.one (by first | rfl | assumption) (.one (by first | rfl | assumption) .nil))))))))))))))) rfl) (ltn rfl) ?_
            refine wd_eff0 65 rfl (by kernel_rfl) (e_storePL 0 (l' := [_, _, _, _, _, _, _, _, _, _, _, _, _, _, _, _, _]) (us := [_, _, _, _, _, _, _, _, _, _, _, _, _, _, _, _, _]) H27.f5 Tryz.sizeOf46 rfl rfl rfl (ones_cons (by first | rfl | exact Rd.one ((H27.f12).row_rd)) (ones_cons (by first | rfl | assumption) (ones_cons (by first | rfl | assumption) (ones_cons (by first | rfl | assumption) (ones_cons (by first | rfl | assumption) (ones_cons (by first | rfl | assumption) (ones_cons (by first | rfl | assumption) (ones_cons (by first | rfl | assumption) (ones_cons (by first | rfl | assumption) (ones_cons (by first | rfl | assumption) (ones_cons (by first | rfl | assumption) (ones_cons (by first | rfl | exact Rd.one ((H27.f9).row_rd)) (ones_cons (by first | rfl | assumption) (ones_cons (by first | rfl | exact Rd.one ((H27.f6).row_rd)) (ones_cons (by first | rfl | assumption) (ones_cons (by first | rfl | assumption) (ones_cons (by first | rfl | assumption) ones_nil))))))))))))))))) rfl rfl) ?_
            rintro _ w29 H29
            have hS29n := Holds.kp (H29.f17.f17.f17.f17.f17.f17.f17.f17.f17.f17.f17.f17.f17.f17.f17.f17.f17)
            refine keepX hS29n (by kernel_rfl) ?_
            refine wd_done (by kernel_rfl) ?_
            refine wq_join (_, _, _, _, _, _) (Sub.cons rfl (Sub.cons rfl (Sub.nil _))) (Sub.cons rfl (Sub.nil _)) (by (try dsimp only); exact H29.f14.f17.f17.f8.f17.f12.f10.f12.f11.f15.f17.f13.f14.f16.f16.f17.f17)
        · skip
          refine wdi_eff 64 rfl (by kernel_rfl) (e_allocL (l := [_, _, _, _, _, _, _, _, _, _, _, _, _, _, _, _, _]) H17 Tryz.zeroValue46 rfl) (ltn rfl) ?_
          rintro _ w30 ⟨b30, rfl, H30⟩
          have hS30n := Holds.kp (H30.f11.right.f11.right.f14.f14.f14.f14.f14.f14.f14.f14.f14.f14.f14.f14.f14.f14)
          refine keepK hS30n (fun W hW => (Kp.h hW).right.f13.f13.f13.f13.f13.f13.f13.f13.f13.f13.f13.f13.f13) ?_
          refine wd_eff 50 rfl (by kernel_rfl) (e_call (r_call rfl Tryz.func54 rfl rfl) (ed_saved_ret H30.f12.f11.f11.f7)) (ltn rfl) ?_
          rintro u31 w31 H31
          have hS31n := Holds.kp (H31.f13.right.f16.f16.f16.f16.f16.f16.f16.f16.f16.f16.f16.f16.f16.f16.f16.f16)
          refine keepK hS31n (fun W hW => (Kp.h hW).right.f4.right.f14.f14.f14.f14.f7.f7.f14.f14.f14.f14.f11.f14.f14.f14) ?_
          refine wd_eff 52 rfl (by kernel_rfl) (e_call (r_call rfl Tryz.func55 rfl rfl) (ed_undoes_ret H31.f15.f14.f5.f5 hU)) (ltn rfl) ?_
          rintro _ w32 ⟨rfl, H32⟩
          have hS32n := Holds.kp (H32.f17.f17.f17.f17.f17.f17.f17.f17.f17.f17.f17.f17.f17.f17.f17.f17.f17)
          refine keepK hS32n (fun W hW => (Kp.h hW).f3.right.f16.f16.f5.f16.f16.f16.f16.f16.f16.f16.f16.f16.f16.f15.f15.f16) ?_
          refine wd_eff 62 rfl (by kernel_rfl) (e_call (r_call rfl Tryz.func56 rfl rfl) (atom_load_ret H32.f15)) (ltn rfl) ?_
          rintro _ _ ⟨rfl, rfl⟩
          have hS33n := Holds.kp (H32.f17.f17.f17.f17.f17.f17.f17.f17.f17.f17.f17.f17.f17.f17.f17.f17.f17)
          refine keepK hS33n (fun W hW => (Kp.h hW).f17.f17.f17.f17.f17.f17.f17.f17.f17.f17.f17.f17.f17.f17.f17.f17.f17) ?_
          refine wd_takeT 63 rfl (by kernel_rfl) (by kernel_rfl) hS33n (fun _ => r_buildL (zl := [.slice none 0 0, .int .i64 0, .int .i64 0, .int .i64 0, .bool false, .bool false, .bool false, .int .i64 0, .int .i64 0, .int .i64 0, .int .i64 0, .slice none 0 0, .int .i64 0, .slice none 0 0, .int .i64 0, .int .i64 0, .int .i64 0]) (pl := [(0, 3), (3, 1), (4, 1), (5, 1), (6, 1), (7, 1), (8, 1), (9, 1), (10, 1), (11, 1), (12, 1), (13, 1), (14, 1), (15, 1), (16, 1)]) [_, _, _, _, _, _, _, _, _, _, _, _, _, _, _, _, _] Tryz.underlying46 Tryz.zeroValue46 rfl (fun w => by kernel_rfl) rfl (.agg (us := [_, _, _]) (zs := [.slice none 0 0, .int .i64 0, .int .i64 0]) rfl rfl (.one (by first | rfl | assumption) (.one (by first | rfl | assumption) (.one (by first | rfl | assumption) (.one (by first | rfl | assumption) (.one (by first | rfl | assumption) (.one (by first | rfl | assumption) (.one (by first | rfl | assumption) (.one (by first | rfl | assumption) (.one (Rd.one ((H32.f9).row_rd)) (.one (by first | rfl | assumption) (.one (Rd.one ((H32.f5).row_rd)) (.one (by first | rfl | assumption) (.one (by first | rfl | assumption) (.one (by first | rfl | assumption) .nil))))))))))))))) rfl) (ltn rfl) ?_
          refine wd_eff0 65 rfl (by kernel_rfl) (e_storePL 0 (l' := [_, _, _, _, _, _, _, _, _, _, _, _, _, _, _, _, _]) (us := [_, _, _, _, _, _, _, _, _, _, _, _, _, _, _, _, _]) H32.f8 Tryz.sizeOf46 rfl rfl rfl (ones_cons (by first | rfl | exact Rd.one ((H32.f12).row_rd)) (ones_cons (by first | rfl | assumption) (ones_cons (by first | rfl | assumption) (ones_cons (by first | rfl | assumption) (ones_cons (by first | rfl | assumption) (ones_cons (by first | rfl | assumption) (ones_cons (by first | rfl | assumption) (ones_cons (by first | rfl | assumption) (ones_cons (by first | rfl | assumption) (ones_cons (by first | rfl | assumption) (ones_cons (by first | rfl | assumption) (ones_cons (by first | rfl | exact Rd.one ((H32.f9).row_rd)) (ones_cons (by first | rfl | assumption) (ones_cons (by first | rfl | exact Rd.one ((H32.f5).row_rd)) (ones_cons (by first | rfl | assumption) (ones_cons (by first | rfl | assumption) (ones_cons (by first | rfl | assumption) ones_nil))))))))))))))))) rfl rfl) ?_
          rintro _ w34 H34
          have hS34n := Holds.kp (H34.f17.f17.f17.f17.f17.f17.f17.f17.f17.f17.f17.f17.f17.f17.f17.f17.f17)
          refine keepX hS34n (by kernel_rfl) ?_
          refine wd_done (by kernel_rfl) ?_
          refine wq_join (_, _, _, _, _, _) (Sub.cons rfl (Sub.cons rfl (Sub.nil _))) (Sub.cons rfl (Sub.nil _)) (by (try dsimp only); exact H34.f14.f17.f17.f8.f17.f12.f10.f12.f11.f15.f17.f13.f14.f16.f16.f17.f17)
      · skip
        refine wdi_eff 64 rfl (by kernel_rfl) (e_allocL (l := [_, _, _, _, _, _, _, _, _, _, _, _, _, _, _, _, _]) H16 Tryz.zeroValue46 rfl) (ltn rfl) ?_
        rintro _ w35 ⟨b35, rfl, H35⟩
        have hS35n := Holds.kp (H35.f9.right.f9.right.f12.f12.f12.f12.f12.f12.f12.f12.f12.f12.f12.f12)
        refine keepK hS35n (fun W hW => (Kp.h hW).right.f11.f11.f11.f11.f11.f11.f11.f11.f11.f11.f11) ?_
        refine wd_eff 40 rfl (by kernel_rfl) (e_call (r_call rfl Tryz.func32 rfl rfl) (ed_kills_raw H35.f6.f4)) (ltn rfl) ?_
        rintro u36 w36 ⟨us36, H36⟩
        have hS36n := Holds.kp (H36.f11.right.f11.right.f14.f14.f14.f14.f14.f14.f14.f14.f14.f14.f14.f14.f14.f14)
        refine keepK hS36n (fun W hW => (Kp.h hW).right.right.f12.f12.f12.f12.f12.f12.f8.f12.f12.f10.f12.f12) ?_
        refine wd_eff 50 rfl (by kernel_rfl) (e_call (r_call rfl Tryz.func54 rfl rfl) (ed_saved_ret H36.f12.f11.f11.f6)) (ltn rfl) ?_
        rintro u37 w37 H37
        have hS37n := Holds.kp (H37.f13.right.f16.f16.f16.f16.f16.f16.f16.f16.f16.f16.f16.f16.f16.f16.f16.f16)
        refine keepK hS37n (fun W hW => (Kp.h hW).right.f4.right.f14.f14.f14.f14.f7.f7.f14.f14.f14.f14.f14.f12.f14.f14) ?_
        refine wd_eff 52 rfl (by kernel_rfl) (e_call (r_call rfl Tryz.func55 rfl rfl) (ed_undoes_ret H37.f15.f14.f5.f5 hU)) (ltn rfl) ?_
        rintro _ w38 ⟨rfl, H38⟩
        have hS38n := Holds.kp (H38.f17.f17.f17.f17.f17.f17.f17.f17.f17.f17.f17.f17.f17.f17.f17.f17.f17)
        refine keepK hS38n (fun W hW => (Kp.h hW).f3.right.f16.f16.f5.f16.f16.f16.f16.f16.f16.f16.f16.f16.f16.f15.f15.f16) ?_
        refine wd_eff 62 rfl (by kernel_rfl) (e_call (r_call rfl Tryz.func56 rfl rfl) (atom_load_ret H38.f15)) (ltn rfl) ?_
        rintro _ _ ⟨rfl, rfl⟩
        have hS39n := Holds.kp (H38.f17.f17.f17.f17.f17.f17.f17.f17.f17.f17.f17.f17.f17.f17.f17.f17.f17)
        refine keepK hS39n (fun W hW => (Kp.h hW).f17.f17.f17.f17.f17.f17.f17.f17.f17.f17.f17.f17.f17.f17.f17.f17.f17) ?_
        refine wd_takeT 63 rfl (by kernel_rfl) (by kernel_rfl) hS39n (fun _ => r_buildL (zl := [.slice none 0 0, .int .i64 0, .int .i64 0, .int .i64 0, .bool false, .bool false, .bool false, .int .i64 0, .int .i64 0, .int .i64 0, .int .i64 0, .slice none 0 0, .int .i64 0, .slice none 0 0, .int .i64 0, .int .i64 0, .int .i64 0]) (pl := [(0, 3), (3, 1), (4, 1), (5, 1), (6, 1), (7, 1), (8, 1), (9, 1), (10, 1), (11, 1), (12, 1), (13, 1), (14, 1), (15, 1), (16, 1)]) [_, _, _, _, _, _, _, _, _, _, _, _, _, _, _, _, _] Tryz.underlying46 Tryz.zeroValue46 rfl (fun w => by kernel_rfl) rfl (.agg (us := [_, _, _]) (zs := [.slice none 0 0, .int .i64 0, .int .i64 0]) rfl rfl (.one (by first | rfl | assumption) (.one (by first | rfl | assumption) (.one (by first | rfl | assumption) (.one (by first | rfl | assumption) (.one (by first | rfl | assumption) (.one (by first | rfl | assumption) (.one (by first | rfl | assumption) (.one (by first | rfl | assumption) (.one (Rd.one ((H38.f8).row_rd)) (.one (by first | rfl | assumption) (.one (Rd.one ((H38.f5).row_rd)) (.one (by first | rfl | assumption) (.one (by first | rfl | assumption) (.one (by first | rfl | assumption) .nil))))))))))))))) rfl) (ltn rfl) ?_
        refine wd_eff0 65 rfl (by kernel_rfl) (e_storePL 0 (l' := [_, _, _, _, _, _, _, _, _, _, _, _, _, _, _, _, _]) (us := [_, _, _, _, _, _, _, _, _, _, _, _, _, _, _, _, _]) H38.f11 Tryz.sizeOf46 rfl rfl rfl (ones_cons (by first | rfl | exact Rd.one ((H38.f12).row_rd)) (ones_cons (by first | rfl | assumption) (ones_cons (by first | rfl | assumption) (ones_cons (by first | rfl | assumption) (ones_cons (by first | rfl | assumption) (ones_cons (by first | rfl | assumption) (ones_cons (by first | rfl | assumption) (ones_cons (by first | rfl | assumption) (ones_cons (by first | rfl | assumption) (ones_cons (by first | rfl | assumption) (ones_cons (by first | rfl | assumption) (ones_cons (by first | rfl | exact Rd.one ((H38.f8).row_rd)) (ones_cons (by first | rfl | assumption) (ones_cons (by first | rfl | exact Rd.one ((H38.f5).row_rd)) (ones_cons (by first | rfl | assumption) (ones_cons (by first | rfl | assumption) (ones_cons (by first | rfl | assumption) ones_nil))))))))))))))))) rfl rfl) ?_
        rintro _ w40 H40
        have hS40n := Holds.kp (H40.f17.f17.f17.f17.f17.f17.f17.f17.f17.f17.f17.f17.f17.f17.f17.f17.f17)
        refine keepX hS40n (by kernel_rfl) ?_
        refine wd_done (by kernel_rfl) ?_
        refine wq_join (_, _, _, _, _, _) (Sub.cons rfl (Sub.cons rfl (Sub.nil _))) (Sub.cons rfl (Sub.nil _)) (by (try dsimp only); exact H40.f14.f17.f17.f8.f17.f12.f10.f12.f11.f15.f17.f13.f14.f16.f16.f17.f17)
    · skip
      refine wdi_eff 64 rfl (by kernel_rfl) (e_allocL (l := [_, _, _, _, _, _, _, _, _, _, _, _, _, _, _, _, _]) H3d15 Tryz.zeroValue46 rfl) (ltn rfl) ?_
      rintro _ w41 ⟨b41, rfl, H41⟩
      have hS41n := Holds.kp (H41.f8.right.f8.right.f11.f11.f11.f11.f11.f11.f11.f11.f11.f11.f11)
      refine keepK hS41n (fun W hW => (Kp.h hW).right.f10.f10.f10.f10.f10.f10.f10.f10.f10.f10) ?_
      refine wd_eff 1 rfl (by kernel_rfl) (e_call (r_call rfl Tryz.func18 rfl rfl) (ed_line_raw H41.f4.f4)) (ltn rfl) ?_
      rintro _ w42 ⟨u42, rfl, H42⟩
      have hS42n := Holds.kp (H42.f9.right.f9.right.f12.f12.f12.f12.f12.f12.f12.f12.f12.f12.f12.f12)
      refine keepK hS42n (fun W hW => (Kp.h hW).right.f11.f11.f11.f11.f11.f11.f11.f9.f9.f11.f11) ?_
      refine wd_eff 40 rfl (by kernel_rfl) (e_call (r_call rfl Tryz.func32 rfl rfl) (ed_kills_raw H42.f6.f3)) (ltn rfl) ?_
      rintro u43 w43 ⟨us43, H43⟩
      have hS43n := Holds.kp (H43.f11.right.f11.right.f14.f14.f14.f14.f14.f14.f14.f14.f14.f14.f14.f14.f14.f14)
      refine keepK hS43n (fun W hW => (Kp.h hW).right.right.f12.f12.f12.f12.f12.f12.f8.f12.f12.f12.f11.f12) ?_
      refine wd_eff 50 rfl (by kernel_rfl) (e_call (r_call rfl Tryz.func54 rfl rfl) (ed_saved_ret H43.f12.f11.f11.f6)) (ltn rfl) ?_
      rintro u44 w44 H44
      have hS44n := Holds.kp (H44.f13.right.f16.f16.f16.f16.f16.f16.f16.f16.f16.f16.f16.f16.f16.f16.f16.f16)
      refine keepK hS44n (fun W hW => (Kp.h hW).right.f4.right.f14.f14.f14.f14.f7.f7.f14.f14.f14.f14.f14.f12.f14.f14) ?_
      refine wd_eff 52 rfl (by kernel_rfl) (e_call (r_call rfl Tryz.func55 rfl rfl) (ed_undoes_ret H44.f15.f14.f5.f5 hU)) (ltn rfl) ?_
      rintro _ w45 ⟨rfl, H45⟩
      have hS45n := Holds.kp (H45.f17.f17.f17.f17.f17.f17.f17.f17.f17.f17.f17.f17.f17.f17.f17.f17.f17)
      refine keepK hS45n (fun W hW => (Kp.h hW).f3.right.f16.f16.f5.f16.f16.f16.f16.f16.f16.f16.f16.f16.f16.f15.f15.f16) ?_
      refine wd_eff 62 rfl (by kernel_rfl) (e_call (r_call rfl Tryz.func56 rfl rfl) (atom_load_ret H45.f15)) (ltn rfl) ?_
      rintro _ _ ⟨rfl, rfl⟩
      have hS46n := Holds.kp (H45.f17.f17.f17.f17.f17.f17.f17.f17.f17.f17.f17.f17.f17.f17.f17.f17.f17)
      refine keepK hS46n (fun W hW => (Kp.h hW).f17.f17.f17.f17.f17.f17.f17.f17.f17.f17.f17.f17.f17.f17.f17.f17.f17) ?_
      refine wd_takeT 63 rfl (by kernel_rfl) (by kernel_rfl) hS46n (fun _ => r_buildL (zl := [.slice none 0 0, .int .i64 0, .int .i64 0, .int .i64 0, .bool false, .bool false, .bool false, .int .i64 0, .int .i64 0, .int .i64 0, .int .i64 0, .slice none 0 0, .int .i64 0, .slice none 0 0, .int .i64 0, .int .i64 0, .int .i64 0]) (pl := [(0, 3), (3, 1), (4, 1), (5, 1), (6, 1), (7, 1), (8, 1), (9, 1), (10, 1), (11, 1), (12, 1), (13, 1), (14, 1), (15, 1), (16, 1)]) [_, _, _, _, _, _, _, _, _, _, _, _, _, _, _, _, _] Tryz.underlying46 Tryz.zeroValue46 rfl (fun w => by kernel_rfl) rfl (.agg (us := [_, _, _]) (zs := [.slice none 0 0, .int .i64 0, .int .i64 0]) rfl rfl (.one (by first | rfl | assumption) (.one (by first | rfl | assumption) (.one (by first | rfl | assumption) (.one (by first | rfl | assumption) (.one (by first | rfl | assumption) (.one (by first | rfl | assumption) (.one (by first | rfl | assumption) (.one (by first | rfl | assumption) (.one (Rd.one ((H45.f8).row_rd)) (.one (by first | rfl | assumption) (.one (Rd.one ((H45.f5).row_rd)) (.one (by first | rfl | assumption) (.one (by first | rfl | assumption) (.one (by first | rfl | assumption) .nil))))))))))))))) rfl) (ltn rfl) ?_
      refine wd_eff0 65 rfl (by kernel_rfl) (e_storePL 0 (l' := [_, _, _, _, _, _, _, _, _, _, _, _, _, _, _, _, _]) (us := [_, _, _, _, _, _, _, _, _, _, _, _, _, _, _, _, _]) H45.f13 Tryz.sizeOf46 rfl rfl rfl (ones_cons (by first | rfl | exact Rd.one ((H45.f11).row_rd)) (ones_cons (by first | rfl | assumption) (ones_cons (by first | rfl | assumption) (ones_cons (by first | rfl | assumption) (ones_cons (by first | rfl | assumption) (ones_cons (by first | rfl | assumption) (ones_cons (by first | rfl | assumption) (ones_cons (by first | rfl | assumption) (ones_cons (by first | rfl | assumption) (ones_cons (by first | rfl | assumption) (ones_cons (by first | rfl | assumption) (ones_cons (by first | rfl | exact Rd.one ((H45.f8).row_rd)) (ones_cons (by first | rfl | assumption) (ones_cons (by first | rfl | exact Rd.one ((H45.f5).row_rd)) (ones_cons (by first | rfl | assumption) (ones_cons (by first | rfl | assumption) (ones_cons (by first | rfl | assumption) ones_nil))))))))))))))))) rfl rfl) ?_
      rintro _ w47 H47
      have hS47n := Holds.kp (H47.f17.f17.f17.f17.f17.f17.f17.f17.f17.f17.f17.f17.f17.f17.f17.f17.f17)
      refine keepX hS47n (by kernel_rfl) ?_
      refine wd_done (by kernel_rfl) ?_
      refine wq_join (_, _, _, _, _, _) (Sub.cons rfl (Sub.cons rfl (Sub.nil _))) (Sub.cons rfl (Sub.nil _)) (by (try dsimp only); exact H47.f14.f17.f17.f8.f17.f12.f10.f12.f11.f15.f17.f13.f14.f16.f16.f17.f17)
end
end Go.Proofs.YtgmpclifphbjkaaGreatDoor
end
