/- The buffer's methods, each as one law. -/
import Derived.Test.YtlldaaamdchkdaaDoorBLive
import Derived.Test.YtlldaaamdchkdaaDoorRef7b
import Derived.Test.YtlldaaamdchkdaaDoorApply
set_option linter.unusedSimpArgs false
set_option linter.unusedVariables false
namespace Go.Proofs.YtlldaaamdchkdaaDoor
open Go.RowKit
/-- What Replace answers, and what it leaves. -/
def replE (L : List Int) (i j : Int) (l : List Int) : Int := if i < 0 ∨ L.length < i ∨ j < i ∨ L.length < j then 70 else if 1024 < L.length - (j - i) + l.length then 3 else 0
def replL (L : List Int) (i j : Int) (l : List Int) : List Int := if replE L i j l = 0 then L.take i.toNat ++ l ++ L.drop j.toNat else L
def replP (L : List Int) (pt i j : Int) (l : List Int) : Int := if replE L i j l = 0 then movedP pt i j l.length else pt
def replM (L : List Int) (mk i j : Int) (l : List Int) : Int := if replE L i j l = 0 then movedM mk i j l.length else mk
def replA (L : List Int) (i j : Int) (l : List Int) : Int := if replE L i j l = 0 then i else 0
def replD (L : List Int) (i j : Int) (l : List Int) : List Int := if replE L i j l = 0 then (L.drop i.toNat).take (j - i).toNat else []
def replI (L : List Int) (i j : Int) (l : List Int) : List Int := if replE L i j l = 0 then l else []
section
variable {w0 w : World} {F : HP} {p : Nat} {L : List Int} {pt mk : Int} {v d s : Value} {l dl il : List Int} {i j a x : Int}
theorem buf_replace_ret (H : Holds w0 w (BufRep p L pt mk • F)) (hr : FRdI w0 F .i32 v l) :
    Ret Tryd.prog 13 #[.pointer (some ⟨p, 0, none⟩), .int .i64 i, .int .i64 j, v] w fun v' w' => ∃ d s, v' = .tuple #[.agg #[.int .i64 (replA L i j l), d, s], .int .i64 (replE L i j l)] ∧
      Holds w0 w' (RowI 21 .i32 d (replD L i j l) • RowI 21 .i32 s (replI L i j l) • BufRep p (replL L i j l) (replP L pt i j l) (replM L mk i j l) • F) := by
  unfold replA replL replP replM replD replI
  by_cases h1 : i < 0 ∨ L.length < i ∨ j < i ∨ L.length < j
  · have e : replE L i j l = 70 := by unfold replE; rw [if_pos h1]
    simp only [e, show ¬ (70 : Int) = 0 from by decide, if_false]
    exact (buf_replace_bad H hr h1).mono fun v' w' h => ⟨_, _, h.1, (h.2.rowi_nil none).rowi_nil none⟩
  · have h2 : 0 ≤ i ∧ i ≤ j ∧ j ≤ L.length := by omega
    by_cases h3 : 1024 < L.length - (j - i) + l.length
    · have e : replE L i j l = 3 := by unfold replE; rw [if_neg h1, if_pos h3]
      simp only [e, show ¬ (3 : Int) = 0 from by decide, if_false]
      exact (buf_replace_long H hr h2 h3).mono fun v' w' h => ⟨_, _, h.1, (h.2.rowi_nil none).rowi_nil none⟩
    · have e : replE L i j l = 0 := by unfold replE; rw [if_neg h1, if_neg h3]
      simp only [e, if_true]
      obtain ⟨i', rfl⟩ := Int.eq_ofNat_of_zero_le h2.1
      obtain ⟨j', rfl⟩ := Int.eq_ofNat_of_zero_le (show 0 ≤ j by omega)
      have hij : i' ≤ j' ∧ j' ≤ L.length := by omega
      have := buf_replace_ok (i := i') (j := j') H hr hij (by omega)
      simpa only [Int.toNat_natCast, show ((j' : Int) - (i' : Int)).toNat = j' - i' from by omega, edCells] using this
theorem buf_insert_any (H : Holds w0 w (BufRep p L pt mk • F)) (hr : FRdI w0 F .i32 v l) :
    Ret Tryd.prog 19 #[.pointer (some ⟨p, 0, none⟩), v] w fun v' w' => ∃ d s, v' = .tuple #[.agg #[.int .i64 (replA L pt pt l), d, s], .int .i64 (replE L pt pt l)] ∧
      Holds w0 w' (RowI 21 .i32 d (replD L pt pt l) • RowI 21 .i32 s (replI L pt pt l) • BufRep p (replL L pt pt l) (replP L pt pt pt l) (replM L mk pt pt l) • F) := by
  refine ret_enter Tryd.func19 rfl Tryd.ntmps19 (Nat.le_of_ble_eq_true rfl) ?_
  dsimp only [slots0, Nat.reduceAdd]
  refine wc_seq ?_
  refine wc_region ?_
  refine wl_eff (e_allocL (l := [_, _, _]) H Tryd.zeroValue24 rfl) (ltn rfl) ?_
  rintro _ w1 ⟨b1, rfl, H1⟩
  refine wl_val (r_assign rfl) (ltn rfl) ?_
  refine wl_nil ?_
  refine wq_seq ?_
  refine wc_seq ?_
  refine wc_region ?_
  refine wl_val (r_move rfl) (ltn rfl) ?_
  refine wl_val (r_move rfl) (ltn rfl) ?_
  refine wl_eff (e_call (r_call rfl Tryd.func23 rfl rfl) (buf_point_ret H1.f2)) (ltn rfl) ?_
  rintro _ _ ⟨rfl, rfl⟩
  refine wl_val (r_move rfl) (ltn rfl) ?_
  refine wl_eff (e_call (r_call rfl Tryd.func23 rfl rfl) (buf_point_ret H1.f2)) (ltn rfl) ?_
  rintro _ _ ⟨rfl, rfl⟩
  refine wl_val (r_move rfl) (ltn rfl) ?_
  refine wl_eff (e_call (r_call rfl Tryd.func13 rfl rfl) (buf_replace_ret H1.f2 (fun W HW => hr _ (HW.right)))) (ltn rfl) ?_
  rintro _ w4 ⟨d4, s4, rfl, H4⟩
  refine wl_val (r_extract rfl rfl) (ltn rfl) ?_
  refine wl_val (r_extract rfl rfl) (ltn rfl) ?_
  refine wl_eff0 (e_storePL 0 (l' := [_, _, _]) (us := [_, _, _]) H4.f4 Tryd.sizeOf24 rfl rfl rfl (ones_cons (by first | rfl | assumption) (ones_cons (by first | rfl | exact Rd.one ((H4).row_rd)) (ones_cons (by first | rfl | exact Rd.one ((H4.f2).row_rd)) ones_nil))) rfl rfl) ?_
  rintro _ w5 H5
  refine wl_val (r_assign rfl) (ltn rfl) ?_
  refine wl_nil ?_
  refine wq_seq ?_
  refine wc_ret ?_
  refine wq_end (.inl rfl) (resCT Tryd.results19 rfl rfl Tryd.underlying24 rfl (by rw [show (Tryd.prog.info? 24).map (·.size) = some 3 from by kernel_rfl]; rfl) (H5).get.2) ?_
  exact ⟨_, _, rfl, H5.right.f3.f3.f3⟩
theorem buf_delete_ret (H : Holds w0 w (BufRep p L pt mk • F)) :
    Ret Tryd.prog 41 #[.pointer (some ⟨p, 0, none⟩), .int .i64 i, .int .i64 j] w fun v' w' => ∃ d s, v' = .tuple #[.agg #[.int .i64 (replA L i j []), d, s], .int .i64 (replE L i j [])] ∧
      Holds w0 w' (RowI 21 .i32 d (replD L i j []) • RowI 21 .i32 s (replI L i j []) • BufRep p (replL L i j []) (replP L pt i j []) (replM L mk i j []) • F) := by
  refine ret_enter Tryd.func41 rfl Tryd.ntmps41 (Nat.le_of_ble_eq_true rfl) ?_
  dsimp only [slots0, Nat.reduceAdd]
  refine wc_seq ?_
  refine wc_region ?_
  refine wl_eff (e_allocL (l := [_, _, _]) H Tryd.zeroValue24 rfl) (ltn rfl) ?_
  rintro _ w1 ⟨b1, rfl, H1⟩
  refine wl_val (r_assign rfl) (ltn rfl) ?_
  refine wl_nil ?_
  refine wq_seq ?_
  refine wc_seq ?_
  refine wc_region ?_
  refine wl_val (r_move rfl) (ltn rfl) ?_
  refine wl_val (r_move rfl) (ltn rfl) ?_
  refine wl_val (r_move rfl) (ltn rfl) ?_
  refine wl_eff (e_call (r_call rfl Tryd.func13 rfl rfl) (buf_replace_ret H1.f2 (fun W _ => RdI.nil W _ none 0 (by decide)))) (ltn rfl) ?_
  rintro _ w2 ⟨d2, s2, rfl, H2⟩
  refine wl_val (r_extract rfl rfl) (ltn rfl) ?_
  refine wl_val (r_extract rfl rfl) (ltn rfl) ?_
  refine wl_eff0 (e_storePL 0 (l' := [_, _, _]) (us := [_, _, _]) H2.f4 Tryd.sizeOf24 rfl rfl rfl (ones_cons (by first | rfl | assumption) (ones_cons (by first | rfl | exact Rd.one ((H2).row_rd)) (ones_cons (by first | rfl | exact Rd.one ((H2.f2).row_rd)) ones_nil))) rfl rfl) ?_
  rintro _ w3 H3
  refine wl_val (r_assign rfl) (ltn rfl) ?_
  refine wl_nil ?_
  refine wq_seq ?_
  refine wc_ret ?_
  refine wq_end (.inl rfl) (resCT Tryd.results41 rfl rfl Tryd.underlying24 rfl (by rw [show (Tryd.prog.info? 24).map (·.size) = some 3 from by kernel_rfl]; rfl) (H3).get.2) ?_
  exact ⟨_, _, rfl, H3.right.f3.f3.f3⟩
/-- What SetMark answers, and what it leaves. -/
def smE (L : List Int) (x : Int) : Int := if x < -1 ∨ L.length < x then 70 else 0
def smM (L : List Int) (mk x : Int) : Int := if x < -1 ∨ L.length < x then mk else x
theorem buf_setmark_ret (H : Holds w0 w (BufRep p L pt mk • F)) : Ret Tryd.prog 42 #[.pointer (some ⟨p, 0, none⟩), .int .i64 x] w fun v' w' => v' = .int .i64 (smE L x) ∧ Holds w0 w' (BufRep p L pt (smM L mk x) • F) := by
  unfold smE smM
  have hL : L.length ≤ 1024 := by obtain ⟨a, c, xs, f, t, h1, h2, h3, h4, h5, h6, h7, hc1, hc2, hl, H1⟩ := H.buf; exact h4
  refine ret_enter Tryd.func42 rfl Tryd.ntmps42 (Nat.le_of_ble_eq_true rfl) ?_
  dsimp only [slots0, Nat.reduceAdd]
  refine wc_seq ?_
  refine wc_region ?_
  refine wl_val (r_assign rfl) (ltn rfl) ?_
  refine wl_nil ?_
  refine wq_seq ?_
  refine wc_seq ?_
  refine wc_block ?_
  refine wc_seq ?_
  refine wc_region ?_
  refine wl_val (r_move rfl) (ltn rfl) ?_
  refine wl_eff (e_call (r_call rfl Tryd.func51 rfl rfl) (buf_none_rep H)) (ltn rfl) ?_
  rintro _ _ ⟨rfl, rfl⟩
  refine wl_val (r_assign rfl) (ltn rfl) ?_
  refine wl_nil ?_
  refine wq_seq ?_
  refine wc_cond_f rfl ?_
  refine wc_seq ?_
  refine wc_region ?_
  refine wl_val (r_move rfl) (ltn rfl) ?_
  refine wl_val (r_lss rfl rfl) (ltn rfl) ?_
  refine wl_split rfl (ltn rfl) (fun h1 => ?_) (fun h1 => ?_)
  · (try simp only [beq_iff_eq, bne_iff_ne, ne_eq, decide_eq_true_eq, decide_eq_false_iff_not, beq_eq_false_iff_ne, bne_eq_false_iff_eq, Bool.not_eq_true', Bool.not_eq_false', Bool.not_eq_eq_eq_not, Bool.not_true, Bool.not_false, gt_iff_lt, ge_iff_le, Int.not_lt, Int.not_le] at h1)
    try (exfalso; first | contradiction | omega)
    all_goals
      refine wl_no rfl rfl rfl (ltn rfl) ?_
      refine wl_no rfl rfl rfl (ltn rfl) ?_
      refine wl_no rfl rfl rfl (ltn rfl) ?_
      refine wl_no rfl rfl rfl (ltn rfl) ?_
      refine wl_val (r_pick_t rfl rfl) (ltn rfl) ?_
      refine wl_val (r_assign rfl) (ltn rfl) ?_
      refine wl_nil ?_
      refine wq_seq ?_
      refine wc_cond_t rfl ?_
      refine wc_seq ?_
      refine wc_region ?_
      refine wl_val (r_assign rfl) (ltn rfl) ?_
      refine wl_nil ?_
      refine wq_seq ?_
      refine wc_ret ?_
      refine wq_block_ret ?_
      refine wq_then_ret ?_
      refine wq_end1 (.inl rfl) Tryd.results42 rfl ?_
      exact ⟨by rw [if_pos (by omega)], by rw [if_pos (by omega)]; exact H⟩
  · (try simp only [beq_iff_eq, bne_iff_ne, ne_eq, decide_eq_true_eq, decide_eq_false_iff_not, beq_eq_false_iff_ne, bne_eq_false_iff_eq, Bool.not_eq_true', Bool.not_eq_false', Bool.not_eq_eq_eq_not, Bool.not_true, Bool.not_false, gt_iff_lt, ge_iff_le, Int.not_lt, Int.not_le] at h1)
    try (exfalso; first | contradiction | omega)
    all_goals
      refine wl_yes rfl rfl ?_
      refine wl_val (r_move rfl) (ltn rfl) ?_
      refine wl_yes rfl rfl ?_
      refine wl_val (r_move rfl) (ltn rfl) ?_
      refine wl_yes rfl rfl ?_
      refine wl_eff (e_call (r_call rfl Tryd.func45 rfl rfl) (buf_len_ret H)) (ltn rfl) ?_
      rintro _ w2 ⟨rfl, hD2⟩
      have HD2 := H.drewn hD2
      refine wl_yes rfl rfl ?_
      refine wl_val (r_gtr rfl rfl) (ltn rfl) ?_
      refine wl_val (r_pick_f rfl rfl) (ltn rfl) ?_
      refine wl_val (r_assign rfl) (ltn rfl) ?_
      refine wl_nil ?_
      refine wq_seq ?_
      refine wc_cond rfl (fun h2 => ?_) (fun h2 => ?_)
      · (try simp only [beq_iff_eq, bne_iff_ne, ne_eq, decide_eq_true_eq, decide_eq_false_iff_not, beq_eq_false_iff_ne, bne_eq_false_iff_eq, Bool.not_eq_true', Bool.not_eq_false', Bool.not_eq_eq_eq_not, Bool.not_true, Bool.not_false, gt_iff_lt, ge_iff_le, Int.not_lt, Int.not_le] at h2)
        try (exfalso; first | contradiction | omega)
        all_goals
          
          refine wc_seq ?_
          refine wc_region ?_
          refine wl_val (r_assign rfl) (ltn rfl) ?_
          refine wl_nil ?_
          refine wq_seq ?_
          refine wc_ret ?_
          refine wq_block_ret ?_
          refine wq_then_ret ?_
          refine wq_end1 (.inl rfl) Tryd.results42 rfl ?_
          exact ⟨by rw [if_pos (by omega)], by rw [if_pos (by omega)]; exact HD2⟩
      · (try simp only [beq_iff_eq, bne_iff_ne, ne_eq, decide_eq_true_eq, decide_eq_false_iff_not, beq_eq_false_iff_ne, bne_eq_false_iff_eq, Bool.not_eq_true', Bool.not_eq_false', Bool.not_eq_eq_eq_not, Bool.not_true, Bool.not_false, gt_iff_lt, ge_iff_le, Int.not_lt, Int.not_le] at h2)
        try (exfalso; first | contradiction | omega)
        all_goals
          
          refine wc_skip ?_
          refine wq_block_normal ?_
          refine wq_seq ?_
          refine wc_seq ?_
          obtain ⟨ax_p, cx_p, xs_p, f_p, t_p, g1_p, g2_p, g3_p, g4_p, g5_p, g6_p, g7_p, g8_p, g9_p, g10_p, HB_p⟩ := (HD2).buf
          refine wc_region ?_
          refine wl_val (r_move rfl) (ltn rfl) ?_
          refine wl_val (r_move rfl) (ltn rfl) ?_
          refine wl_val (r_nil rfl) (ltn rfl) ?_
          refine wl_val ((by first | exact r_field0 5 Tryd.underlying67 rfl rfl Tryd.sizeOf3 (by decide) rfl | exact r_field 5 Tryd.underlying67 rfl rfl Tryd.sizeOf3 (by decide) rfl)) (ltn rfl) ?_
          refine wl_eff0 (e_storeL 5 (l' := [_, _, _, _, _, _]) HB_p Tryd.sizeOf3 rfl rfl (by first | rfl | assumption) rfl rfl) ?_
          rintro _ w4 H4
          refine wl_nil ?_
          refine wq_seq ?_
          refine wc_seq ?_
          refine wc_region ?_
          refine wl_val (r_assign rfl) (ltn rfl) ?_
          refine wl_nil ?_
          refine wq_seq ?_
          refine wc_ret ?_
          refine wq_end1 (.inl rfl) Tryd.results42 rfl ?_
          exact ⟨by rw [if_neg (by omega)], by rw [if_neg (by omega)]; exact Holds.mk_buf g1_p g2_p g3_p g4_p g5_p g6_p (by omega) H4.f2.f2⟩
def swE (mk : Int) : Int := if mk < 0 then 6 else 0
def swP (pt mk : Int) : Int := if mk < 0 then pt else mk
def swM (pt mk : Int) : Int := if mk < 0 then mk else pt
theorem buf_swap_ret (H : Holds w0 w (BufRep p L pt mk • F)) : Ret Tryd.prog 43 #[.pointer (some ⟨p, 0, none⟩)] w fun v' w' => v' = .int .i64 (swE mk) ∧ Holds w0 w' (BufRep p L (swP pt mk) (swM pt mk) • F) := by
  unfold swE swP swM
  refine ret_enter Tryd.func43 rfl Tryd.ntmps43 (Nat.le_of_ble_eq_true rfl) ?_
  dsimp only [slots0, Nat.reduceAdd]
  refine wc_seq ?_
  refine wc_region ?_
  refine wl_val (r_assign rfl) (ltn rfl) ?_
  refine wl_nil ?_
  refine wq_seq ?_
  refine wc_seq ?_
  refine wc_block ?_
  refine wc_seq ?_
  refine wc_region ?_
  refine wl_val (r_move rfl) (ltn rfl) ?_
  refine wl_eff (e_call (r_call rfl Tryd.func51 rfl rfl) (buf_none_rep H)) (ltn rfl) ?_
  rintro _ _ ⟨rfl, rfl⟩
  refine wl_val (r_assign rfl) (ltn rfl) ?_
  refine wl_nil ?_
  refine wq_seq ?_
  refine wc_cond_f rfl ?_
  refine wc_seq ?_
  obtain ⟨ax_p, cx_p, xs_p, f_p, t_p, g1_p, g2_p, g3_p, g4_p, g5_p, g6_p, g7_p, g8_p, g9_p, g10_p, HB_p⟩ := (H).buf
  refine wc_region ?_
  refine wl_val (r_move rfl) (ltn rfl) ?_
  refine wl_val (r_nil rfl) (ltn rfl) ?_
  refine wl_val ((by first | exact r_field0 5 Tryd.underlying67 rfl rfl Tryd.sizeOf3 (by decide) rfl | exact r_field 5 Tryd.underlying67 rfl rfl Tryd.sizeOf3 (by decide) rfl)) (ltn rfl) ?_
  refine wl_val (r_load (plain_of Tryd.underlying3 rfl) rfl (cell_of_blk (HB_p).get.2 rfl)) (ltn rfl) ?_
  refine wl_val (r_lss rfl rfl) (ltn rfl) ?_
  refine wl_val (r_assign rfl) (ltn rfl) ?_
  refine wl_nil ?_
  refine wq_seq ?_
  refine wc_cond rfl (fun h1 => ?_) (fun h1 => ?_)
  · (try simp only [beq_iff_eq, bne_iff_ne, ne_eq, decide_eq_true_eq, decide_eq_false_iff_not, beq_eq_false_iff_ne, bne_eq_false_iff_eq, Bool.not_eq_true', Bool.not_eq_false', Bool.not_eq_eq_eq_not, Bool.not_true, Bool.not_false, gt_iff_lt, ge_iff_le, Int.not_lt, Int.not_le] at h1)
    try (exfalso; first | contradiction | omega)
    all_goals
      
      refine wc_seq ?_
      refine wc_region ?_
      refine wl_val (r_assign rfl) (ltn rfl) ?_
      refine wl_nil ?_
      refine wq_seq ?_
      refine wc_ret ?_
      refine wq_block_ret ?_
      refine wq_then_ret ?_
      refine wq_end1 (.inl rfl) Tryd.results43 rfl ?_
      exact ⟨by rw [if_pos (by omega)], by rw [if_pos (by omega), if_pos (by omega)]; exact Holds.mk_buf g1_p g2_p g3_p g4_p g5_p g6_p (by omega) HB_p.f2.f2⟩
  · (try simp only [beq_iff_eq, bne_iff_ne, ne_eq, decide_eq_true_eq, decide_eq_false_iff_not, beq_eq_false_iff_ne, bne_eq_false_iff_eq, Bool.not_eq_true', Bool.not_eq_false', Bool.not_eq_eq_eq_not, Bool.not_true, Bool.not_false, gt_iff_lt, ge_iff_le, Int.not_lt, Int.not_le] at h1)
    try (exfalso; first | contradiction | omega)
    all_goals
      
      refine wc_skip ?_
      refine wq_block_normal ?_
      refine wq_seq ?_
      refine wc_seq ?_
      have H5d2 := HB_p.drew
      have hS5d2 := Holds.kp (H5d2.f2.f2)
      refine wd_beginK [5, 9] hS5d2 (by kernel_rfl) (by kernel_rfl) rfl ?_
      refine wd_takeT 0 rfl (by kernel_rfl) (by kernel_rfl) hS5d2 (fun _ => r_move rfl) (ltn rfl) ?_
      refine wd_takeT 1 rfl (by kernel_rfl) (by kernel_rfl) hS5d2 (fun _ => r_move rfl) (ltn rfl) ?_
      refine wd_takeT 2 rfl (by kernel_rfl) (by kernel_rfl) hS5d2 (fun _ => r_move rfl) (ltn rfl) ?_
      refine wd_takeT 3 rfl (by kernel_rfl) (by kernel_rfl) hS5d2 (fun _ => r_nil rfl) (ltn rfl) ?_
      refine wd_takeT 4 rfl (by kernel_rfl) (by kernel_rfl) hS5d2 (fun _ => (by first | exact r_field0 5 Tryd.underlying67 rfl rfl Tryd.sizeOf3 (by decide) rfl | exact r_field 5 Tryd.underlying67 rfl rfl Tryd.sizeOf3 (by decide) rfl)) (ltn rfl) ?_
      refine wd_take 5 rfl (by kernel_rfl) (by kernel_rfl) hS5d2 (by decide) (fun W hW => r_load (plain_of Tryd.underlying3 rfl) rfl (cell_of_blk ((Kp.h hW)).get.2 rfl)) (ltn rfl) ?_
      refine wd_takeT 6 rfl (by kernel_rfl) (by kernel_rfl) hS5d2 (fun _ => r_move rfl) (ltn rfl) ?_
      refine wd_takeT 7 rfl (by kernel_rfl) (by kernel_rfl) hS5d2 (fun _ => r_nil rfl) (ltn rfl) ?_
      refine wd_takeT 8 rfl (by kernel_rfl) (by kernel_rfl) hS5d2 (fun _ => (by first | exact r_field0 4 Tryd.underlying67 rfl rfl Tryd.sizeOf3 (by decide) rfl | exact r_field 4 Tryd.underlying67 rfl rfl Tryd.sizeOf3 (by decide) rfl)) (ltn rfl) ?_
      refine wd_take 9 rfl (by kernel_rfl) (by kernel_rfl) hS5d2 (by decide) (fun W hW => r_load (plain_of Tryd.underlying3 rfl) rfl (cell_of_blk ((Kp.h hW)).get.2 rfl)) (ltn rfl) ?_
      refine wd_takeT 10 rfl (by kernel_rfl) (by kernel_rfl) hS5d2 (fun _ => r_nil rfl) (ltn rfl) ?_
      refine wd_takeT 11 rfl (by kernel_rfl) (by kernel_rfl) hS5d2 (fun _ => (by first | exact r_field0 4 Tryd.underlying67 rfl rfl Tryd.sizeOf3 (by decide) rfl | exact r_field 4 Tryd.underlying67 rfl rfl Tryd.sizeOf3 (by decide) rfl)) (ltn rfl) ?_
      refine wd_eff0 12 rfl (by kernel_rfl) (e_storeL 4 (l' := [_, _, _, _, _, _]) H5d2 Tryd.sizeOf3 rfl rfl (by first | rfl | assumption) rfl rfl) ?_
      rintro _ w3 H3
      have hS3n := Holds.kp (H3.f2.f2)
      refine keepX hS3n (by kernel_rfl) ?_
      refine wd_takeT 13 rfl (by kernel_rfl) (by kernel_rfl) hS3n (fun _ => r_nil rfl) (ltn rfl) ?_
      refine wd_takeT 14 rfl (by kernel_rfl) (by kernel_rfl) hS3n (fun _ => (by first | exact r_field0 5 Tryd.underlying67 rfl rfl Tryd.sizeOf3 (by decide) rfl | exact r_field 5 Tryd.underlying67 rfl rfl Tryd.sizeOf3 (by decide) rfl)) (ltn rfl) ?_
      refine wd_eff0 15 rfl (by kernel_rfl) (e_storeL 5 (l' := [_, _, _, _, _, _]) H3 Tryd.sizeOf3 rfl rfl (by first | rfl | assumption) rfl rfl) ?_
      rintro _ w4 H4
      have hS4n := Holds.kp (H4.f2.f2)
      refine keepX hS4n (by kernel_rfl) ?_
      refine wd_done (by kernel_rfl) ?_
      refine wq_seq ?_
      refine wc_seq ?_
      refine wc_region ?_
      refine wl_val (r_assign rfl) (ltn rfl) ?_
      refine wl_nil ?_
      refine wq_seq ?_
      refine wc_ret ?_
      refine wq_end1 (.inl rfl) Tryd.results43 rfl ?_
      exact ⟨by rw [if_neg (by omega)], by rw [if_neg (by omega), if_neg (by omega)]; exact Holds.mk_buf g1_p g2_p g3_p g4_p g5_p (by omega) (by omega) H4.f2.f2⟩
theorem buf_clone_ret (H : Holds w0 w (BufRep p L pt mk • F)) : Ret Tryd.prog 47 #[.pointer (some ⟨p, 0, none⟩)] w fun v' w' => ∃ q, v' = .pointer (some ⟨q, 0, none⟩) ∧ Holds w0 w' (BufRep q L pt mk • BufRep p L pt mk • F) := by
  refine ret_enter Tryd.func47 rfl Tryd.ntmps47 (Nat.le_of_ble_eq_true rfl) ?_
  dsimp only [slots0, Nat.reduceAdd]
  refine wc_seq ?_
  refine wc_region ?_
  refine wl_val (r_assign rfl) (ltn rfl) ?_
  refine wl_nil ?_
  refine wq_seq ?_
  refine wc_seq ?_
  refine wc_seq ?_
  refine wc_region ?_
  refine wl_val (r_move rfl) (ltn rfl) ?_
  refine wl_eff (e_call (r_call rfl Tryd.func51 rfl rfl) (buf_none_rep H)) (ltn rfl) ?_
  rintro _ _ ⟨rfl, rfl⟩
  refine wl_nil ?_
  refine wq_seq ?_
  refine wc_cond_f rfl ?_
  refine wc_skip ?_
  refine wq_seq ?_
  refine wc_seq ?_
  obtain ⟨ax_p, cx_p, xs_p, f_p, t_p, g1_p, g2_p, g3_p, g4_p, g5_p, g6_p, g7_p, g8_p, g9_p, g10_p, HB_p⟩ := (H).buf
  refine wc_region ?_
  refine wl_val (r_move rfl) (ltn rfl) ?_
  refine wl_val (r_nil rfl) (ltn rfl) ?_
  refine wl_val (r_load_whole Tryd.underlying67 rfl Tryd.sizeOf67 rfl rfl (HB_p).get.2) (ltn rfl) ?_
  refine wl_eff (e_allocL (l := [_, _, _, _, _, _]) HB_p Tryd.zeroValue67 rfl) (ltn rfl) ?_
  rintro _ w3 ⟨b3, rfl, H3⟩
  refine wl_eff0 (e_storePL 0 (l' := [_, _, _, _, _, _]) (us := [_, _, _, _, _, _]) H3 Tryd.sizeOf67 rfl rfl rfl (ones_cons (by first | rfl | assumption) (ones_cons (by first | rfl | exact Rd.one ((H3.f3).row_rd)) (ones_cons (by first | rfl | assumption) (ones_cons (by first | rfl | assumption) (ones_cons (by first | rfl | assumption) (ones_cons (by first | rfl | assumption) ones_nil)))))) rfl rfl) ?_
  rintro _ w4 H4
  refine wl_nil ?_
  refine wq_seq ?_
  refine wc_seq ?_
  refine wc_region ?_
  refine wl_val (r_move rfl) (ltn rfl) ?_
  refine wl_val (r_nil rfl) (ltn rfl) ?_
  refine wl_val ((by first | exact r_field0 1 Tryd.underlying67 rfl rfl Tryd.sizeOf22 (by decide) rfl | exact r_field 1 Tryd.underlying67 rfl rfl Tryd.sizeOf22 (by decide) rfl)) (ltn rfl) ?_
  refine wl_val (r_load (plain_of Tryd.underlying22 rfl) rfl (cell_of_blk (H4.f2).get.2 rfl)) (ltn rfl) ?_
  refine wl_eff (e_call (r_call rfl Tryd.func49 rfl rfl) (clone_ret H4 (fun W HW => (HW.f3).row_rd) (by omega))) (ltn rfl) ?_
  rintro u5 w5 H5
  refine wl_val ((by first | exact r_field0 1 Tryd.underlying67 rfl rfl Tryd.sizeOf22 (by decide) rfl | exact r_field 1 Tryd.underlying67 rfl rfl Tryd.sizeOf22 (by decide) rfl)) (ltn rfl) ?_
  refine wl_eff0 (e_storeL 1 (l' := [_, _, _, _, _, _]) H5.f2 Tryd.sizeOf22 rfl rfl (by first | rfl | exact Rd.one ((H5).row_rd)) rfl rfl) ?_
  rintro _ w6 H6
  refine wl_nil ?_
  refine wq_seq ?_
  refine wc_seq ?_
  refine wc_region ?_
  refine wl_val (r_assign rfl) (ltn rfl) ?_
  refine wl_nil ?_
  refine wq_seq ?_
  refine wc_ret ?_
  refine wq_end1 (.inl rfl) Tryd.results47 rfl ?_
  exact ⟨_, rfl, (Holds.mk_buf g1_p g2_p g3_p g4_p g5_p g6_p (by omega) (Holds.mk_buf g1_p g2_p g3_p g4_p g5_p g6_p (by omega) H6.f4.f4.f4.f4).f2.f3.f2).f2⟩
/-- What Apply answers, and what it leaves. -/
def fitsE (L : List Int) (a : Int) (dl : List Int) : Bool := decide ((dl.length : Int) ≤ L.length - a) && ((L.drop a.toNat).take dl.length == dl)
def appE (L : List Int) (a : Int) (dl il : List Int) : Int := if a < 0 ∨ L.length < a then 70 else if fitsE L a dl then replE L a (a + dl.length) il else 71
def appL (L : List Int) (a : Int) (dl il : List Int) : List Int := if appE L a dl il = 0 then replL L a (a + dl.length) il else L
def appP (L : List Int) (pt a : Int) (dl il : List Int) : Int := if appE L a dl il = 0 then replP L pt a (a + dl.length) il else pt
def appM (L : List Int) (mk a : Int) (dl il : List Int) : Int := if appE L a dl il = 0 then replM L mk a (a + dl.length) il else mk
theorem buf_apply_ret (H : Holds w0 w (BufRep p L pt mk • F)) (hd : FRdI w0 F .i32 d dl) (hi : FRdI w0 F .i32 s il) : Ret Tryd.prog 24 #[.pointer (some ⟨p, 0, none⟩), .agg #[.int .i64 a, d, s]] w fun v' w' =>
    v' = .int .i64 (appE L a dl il) ∧ Holds w0 w' (BufRep p (appL L a dl il) (appP L pt a dl il) (appM L mk a dl il) • F) := by
  have hL : L.length ≤ 1024 := by obtain ⟨a, c, xs, f, t, h1, h2, h3, h4, h5, h6, h7, hc1, hc2, hl, H1⟩ := H.buf; exact h4
  refine ret_enter Tryd.func24 rfl Tryd.ntmps24 (Nat.le_of_ble_eq_true rfl) ?_
  dsimp only [slots0, Nat.reduceAdd]
  refine wc_seq ?_
  refine wc_region ?_
  refine wl_eff (e_boxL (l := [_, _, _]) H rfl rfl) (ltn rfl) ?_
  rintro _ w1 ⟨b1, rfl, H1⟩
  refine wl_val (r_assign rfl) (ltn rfl) ?_
  refine wl_nil ?_
  refine wq_seq ?_
  refine wc_seq ?_
  refine wc_block ?_
  refine wc_seq ?_
  refine wc_region ?_
  refine wl_val (r_move rfl) (ltn rfl) ?_
  refine wl_eff (e_call (r_call rfl Tryd.func51 rfl rfl) (buf_none_rep H1.f2)) (ltn rfl) ?_
  rintro _ _ ⟨rfl, rfl⟩
  refine wl_val (r_assign rfl) (ltn rfl) ?_
  refine wl_nil ?_
  refine wq_seq ?_
  refine wc_cond_f rfl ?_
  refine wc_seq ?_
  have H3d2 := H1.drew
  have hS3d2 := Holds.kp (H3d2.f2.f2)
  refine wd_beginK [1, 5] hS3d2 (by kernel_rfl) (by kernel_rfl) rfl ?_
  refine wd_takeT 0 rfl (by kernel_rfl) (by kernel_rfl) hS3d2 (fun _ => (by first | exact r_field0 0 Tryd.underlying24 rfl rfl Tryd.sizeOf3 (by decide) rfl | exact r_field 0 Tryd.underlying24 rfl rfl Tryd.sizeOf3 (by decide) rfl)) (ltn rfl) ?_
  refine wd_take 1 rfl (by kernel_rfl) (by kernel_rfl) hS3d2 (by decide) (fun W hW => r_load (plain_of Tryd.underlying3 rfl) rfl (cell_of_blk ((Kp.h hW)).get.2 rfl)) (ltn rfl) ?_
  refine wd_takeT 2 rfl (by kernel_rfl) (by kernel_rfl) hS3d2 (fun _ => r_lss rfl rfl) (ltn rfl) ?_
  refine wd_split 3 rfl rfl (by kernel_rfl) (by kernel_rfl) hS3d2 (ltn rfl) (fun h1 => ?_) (fun h1 => ?_)
  · (try simp only [beq_iff_eq, bne_iff_ne, ne_eq, decide_eq_true_eq, decide_eq_false_iff_not, beq_eq_false_iff_ne, bne_eq_false_iff_eq, Bool.not_eq_true', Bool.not_eq_false', Bool.not_eq_eq_eq_not, Bool.not_true, Bool.not_false, gt_iff_lt, ge_iff_le, Int.not_lt, Int.not_le] at h1)
    try (exfalso; first | contradiction | omega)
    all_goals
      refine wd_no 4 rfl rfl rfl rfl (by kernel_rfl) (by kernel_rfl) hS3d2 (ltn rfl) ?_
      refine wd_no 5 rfl rfl rfl rfl (by kernel_rfl) (by kernel_rfl) hS3d2 (ltn rfl) ?_
      refine wd_no 6 rfl rfl rfl rfl (by kernel_rfl) (by kernel_rfl) hS3d2 (ltn rfl) ?_
      refine wd_no 7 rfl rfl rfl rfl (by kernel_rfl) (by kernel_rfl) hS3d2 (ltn rfl) ?_
      refine wd_no 8 rfl rfl rfl rfl (by kernel_rfl) (by kernel_rfl) hS3d2 (ltn rfl) ?_
      refine wd_takeT 9 rfl (by kernel_rfl) (by kernel_rfl) hS3d2 (fun _ => r_pick_t rfl rfl) (ltn rfl) ?_
      refine wd_takeT 10 rfl (by kernel_rfl) (by kernel_rfl) hS3d2 (fun _ => r_assign rfl) (ltn rfl) ?_
      refine wd_done (by kernel_rfl) ?_
      refine wq_seq ?_
      refine wc_cond_t rfl ?_
      refine wc_seq ?_
      refine wc_region ?_
      refine wl_val (r_assign rfl) (ltn rfl) ?_
      refine wl_nil ?_
      refine wq_seq ?_
      refine wc_ret ?_
      refine wq_block_ret ?_
      refine wq_then_ret ?_
      refine wq_end1 (.inl rfl) Tryd.results24 rfl ?_
      have e : appE L a dl il = 70 := by unfold appE; rw [if_pos (by omega)]
      unfold appL appP appM
      rw [e]
      exact ⟨rfl, H3d2.right⟩
  · (try simp only [beq_iff_eq, bne_iff_ne, ne_eq, decide_eq_true_eq, decide_eq_false_iff_not, beq_eq_false_iff_ne, bne_eq_false_iff_eq, Bool.not_eq_true', Bool.not_eq_false', Bool.not_eq_eq_eq_not, Bool.not_true, Bool.not_false, gt_iff_lt, ge_iff_le, Int.not_lt, Int.not_le] at h1)
    try (exfalso; first | contradiction | omega)
    all_goals
      refine wd_takeT_yes 4 rfl rfl rfl (by kernel_rfl) (by kernel_rfl) hS3d2 (fun _ => (by first | exact r_field0 0 Tryd.underlying24 rfl rfl Tryd.sizeOf3 (by decide) rfl | exact r_field 0 Tryd.underlying24 rfl rfl Tryd.sizeOf3 (by decide) rfl)) (ltn rfl) ?_
      refine wd_take_yes 5 rfl rfl rfl (by kernel_rfl) (by kernel_rfl) hS3d2 (by decide) (fun W hW => r_load (plain_of Tryd.underlying3 rfl) rfl (cell_of_blk ((Kp.h hW)).get.2 rfl)) (ltn rfl) ?_
      refine wd_takeT_yes 6 rfl rfl rfl (by kernel_rfl) (by kernel_rfl) hS3d2 (fun _ => r_move rfl) (ltn rfl) ?_
      refine wd_eff_yes 7 rfl rfl rfl (by kernel_rfl) (e_call (r_call rfl Tryd.func45 rfl rfl) (buf_len_ret H3d2.f2)) (ltn rfl) ?_
      rintro _ w3 ⟨rfl, hD3⟩
      have HD3 := H3d2.drewn hD3
      have hS3n := Holds.kp (HD3.f2.f2)
      refine keepK hS3n (fun W hW => (Kp.h hW).f2.f2) ?_
      refine wd_takeT_yes 8 rfl rfl rfl (by kernel_rfl) (by kernel_rfl) hS3n (fun _ => r_gtr rfl rfl) (ltn rfl) ?_
      refine wd_takeT 9 rfl (by kernel_rfl) (by kernel_rfl) hS3n (fun _ => r_pick_f rfl rfl) (ltn rfl) ?_
      refine wd_takeT 10 rfl (by kernel_rfl) (by kernel_rfl) hS3n (fun _ => r_assign rfl) (ltn rfl) ?_
      refine wd_done (by kernel_rfl) ?_
      refine wq_seq ?_
      refine wc_cond rfl (fun h2 => ?_) (fun h2 => ?_)
      · (try simp only [beq_iff_eq, bne_iff_ne, ne_eq, decide_eq_true_eq, decide_eq_false_iff_not, beq_eq_false_iff_ne, bne_eq_false_iff_eq, Bool.not_eq_true', Bool.not_eq_false', Bool.not_eq_eq_eq_not, Bool.not_true, Bool.not_false, gt_iff_lt, ge_iff_le, Int.not_lt, Int.not_le] at h2)
        try (exfalso; first | contradiction | omega)
        all_goals
          
          refine wc_seq ?_
          refine wc_region ?_
          refine wl_val (r_assign rfl) (ltn rfl) ?_
          refine wl_nil ?_
          refine wq_seq ?_
          refine wc_ret ?_
          refine wq_block_ret ?_
          refine wq_then_ret ?_
          refine wq_end1 (.inl rfl) Tryd.results24 rfl ?_
          have e : appE L a dl il = 70 := by unfold appE; rw [if_pos (by omega)]
          unfold appL appP appM
          rw [e]
          exact ⟨rfl, HD3.right⟩
      · (try simp only [beq_iff_eq, bne_iff_ne, ne_eq, decide_eq_true_eq, decide_eq_false_iff_not, beq_eq_false_iff_ne, bne_eq_false_iff_eq, Bool.not_eq_true', Bool.not_eq_false', Bool.not_eq_eq_eq_not, Bool.not_true, Bool.not_false, gt_iff_lt, ge_iff_le, Int.not_lt, Int.not_le] at h2)
        try (exfalso; first | contradiction | omega)
        all_goals
          
          refine wc_seq ?_
          have H5d3 := HD3.drew
          have hS5d3 := Holds.kp (H5d3.f2.f2)
          refine wd_beginK [1, 6, 13, 15, 17, 22] hS5d3 (by kernel_rfl) (by kernel_rfl) rfl ?_
          refine wd_takeT 0 rfl (by kernel_rfl) (by kernel_rfl) hS5d3 (fun _ => (by first | exact r_field0 1 Tryd.underlying24 rfl rfl Tryd.sizeOf22 (by decide) rfl | exact r_field 1 Tryd.underlying24 rfl rfl Tryd.sizeOf22 (by decide) rfl)) (ltn rfl) ?_
          refine wd_take 1 rfl (by kernel_rfl) (by kernel_rfl) hS5d3 (by decide) (fun W hW => r_load (plain_of Tryd.underlying22 rfl) rfl (cell_of_blk ((Kp.h hW)).get.2 rfl)) (ltn rfl) ?_
          refine wd_takeT 2 rfl (by kernel_rfl) (by kernel_rfl) hS5d3 (fun _ => r_lenR (hd _ (H5d3.right.right)) Tryd.underlying22 rfl) (ltn rfl) ?_
          refine wd_takeT 3 rfl (by kernel_rfl) (by kernel_rfl) hS5d3 (fun _ => r_move rfl) (ltn rfl) ?_
          refine wd_takeT 5 rfl (by kernel_rfl) (by kernel_rfl) hS5d3 (fun _ => (by first | exact r_field0 0 Tryd.underlying24 rfl rfl Tryd.sizeOf3 (by decide) rfl | exact r_field 0 Tryd.underlying24 rfl rfl Tryd.sizeOf3 (by decide) rfl)) (ltn rfl) ?_
          refine wd_take 6 rfl (by kernel_rfl) (by kernel_rfl) hS5d3 (by decide) (fun W hW => r_load (plain_of Tryd.underlying3 rfl) rfl (cell_of_blk ((Kp.h hW)).get.2 rfl)) (ltn rfl) ?_
          refine wd_eff 4 rfl (by kernel_rfl) (e_call (r_call rfl Tryd.func45 rfl rfl) (buf_len_ret H5d3.f2)) (ltn rfl) ?_
          rintro _ w4 ⟨rfl, hD4⟩
          have HD4 := H5d3.drewn hD4
          have hS4n := Holds.kp (HD4.f2.f2)
          refine keepK hS4n (fun W hW => (Kp.h hW).f2.f2) ?_
          refine wd_takeT 7 rfl (by kernel_rfl) (by kernel_rfl) hS4n (fun _ => r_sub rfl rfl (by omega)) (ltn rfl) ?_
          refine wd_takeT 8 rfl (by kernel_rfl) (by kernel_rfl) hS4n (fun _ => r_gtr rfl rfl) (ltn rfl) ?_
          refine wd_split 9 rfl rfl (by kernel_rfl) (by kernel_rfl) hS4n (ltn rfl) (fun h3 => ?_) (fun h3 => ?_)
          · (try simp only [beq_iff_eq, bne_iff_ne, ne_eq, decide_eq_true_eq, decide_eq_false_iff_not, beq_eq_false_iff_ne, bne_eq_false_iff_eq, Bool.not_eq_true', Bool.not_eq_false', Bool.not_eq_eq_eq_not, Bool.not_true, Bool.not_false, gt_iff_lt, ge_iff_le, Int.not_lt, Int.not_le] at h3)
            try (exfalso; first | contradiction | omega)
            all_goals
              refine wd_no 10 rfl rfl rfl rfl (by kernel_rfl) (by kernel_rfl) hS4n (ltn rfl) ?_
              refine wd_no 11 rfl rfl rfl rfl (by kernel_rfl) (by kernel_rfl) hS4n (ltn rfl) ?_
              refine wd_no 12 rfl rfl rfl rfl (by kernel_rfl) (by kernel_rfl) hS4n (ltn rfl) ?_
              refine wd_no 13 rfl rfl rfl rfl (by kernel_rfl) (by kernel_rfl) hS4n (ltn rfl) ?_
              refine wd_no 14 rfl rfl rfl rfl (by kernel_rfl) (by kernel_rfl) hS4n (ltn rfl) ?_
              refine wd_no 15 rfl rfl rfl rfl (by kernel_rfl) (by kernel_rfl) hS4n (ltn rfl) ?_
              refine wd_no 16 rfl rfl rfl rfl (by kernel_rfl) (by kernel_rfl) hS4n (ltn rfl) ?_
              refine wd_no 17 rfl rfl rfl rfl (by kernel_rfl) (by kernel_rfl) hS4n (ltn rfl) ?_
              refine wd_no 18 rfl rfl rfl rfl (by kernel_rfl) (by kernel_rfl) hS4n (ltn rfl) ?_
              refine wd_no 19 rfl rfl rfl rfl (by kernel_rfl) (by kernel_rfl) hS4n (ltn rfl) ?_
              refine wd_no 20 rfl rfl rfl rfl (by kernel_rfl) (by kernel_rfl) hS4n (ltn rfl) ?_
              refine wd_no 21 rfl rfl rfl rfl (by kernel_rfl) (by kernel_rfl) hS4n (ltn rfl) ?_
              refine wd_no 22 rfl rfl rfl rfl (by kernel_rfl) (by kernel_rfl) hS4n (ltn rfl) ?_
              refine wd_no 23 rfl rfl rfl rfl (by kernel_rfl) (by kernel_rfl) hS4n (ltn rfl) ?_
              refine wd_no 24 rfl rfl rfl rfl (by kernel_rfl) (by kernel_rfl) hS4n (ltn rfl) ?_
              refine wd_takeT 25 rfl (by kernel_rfl) (by kernel_rfl) hS4n (fun _ => r_pick_t rfl rfl) (ltn rfl) ?_
              refine wd_takeT 26 rfl (by kernel_rfl) (by kernel_rfl) hS4n (fun _ => r_assign rfl) (ltn rfl) ?_
              refine wd_done (by kernel_rfl) ?_
              refine wq_seq ?_
              refine wc_cond_t rfl ?_
              refine wc_seq ?_
              refine wc_region ?_
              refine wl_val (r_assign rfl) (ltn rfl) ?_
              refine wl_nil ?_
              refine wq_seq ?_
              refine wc_ret ?_
              refine wq_block_ret ?_
              refine wq_then_ret ?_
              refine wq_end1 (.inl rfl) Tryd.results24 rfl ?_
              have e1 : (a + dl.length).toNat - a.toNat = dl.length := by omega
              have hf : fitsE L a dl = false := by
                simp only [fitsE, Bool.and_eq_false_iff, decide_eq_false_iff_not, beq_eq_false_iff_ne, ne_eq]
                first
                  | (refine .inl ?_; omega)
                  | (refine .inr ?_; rw [e1] at hcond; exact hcond)
              have e : appE L a dl il = 71 := by unfold appE; rw [if_neg (by omega), hf]; rfl
              unfold appL appP appM
              rw [e]
              exact ⟨rfl, HD4.right⟩
          · (try simp only [beq_iff_eq, bne_iff_ne, ne_eq, decide_eq_true_eq, decide_eq_false_iff_not, beq_eq_false_iff_ne, bne_eq_false_iff_eq, Bool.not_eq_true', Bool.not_eq_false', Bool.not_eq_eq_eq_not, Bool.not_true, Bool.not_false, gt_iff_lt, ge_iff_le, Int.not_lt, Int.not_le] at h3)
            try (exfalso; first | contradiction | omega)
            all_goals
              refine wd_takeT_yes 10 rfl rfl rfl (by kernel_rfl) (by kernel_rfl) hS4n (fun _ => r_move rfl) (ltn rfl) ?_
              refine wd_takeT_yes 12 rfl rfl rfl (by kernel_rfl) (by kernel_rfl) hS4n (fun _ => (by first | exact r_field0 0 Tryd.underlying24 rfl rfl Tryd.sizeOf3 (by decide) rfl | exact r_field 0 Tryd.underlying24 rfl rfl Tryd.sizeOf3 (by decide) rfl)) (ltn rfl) ?_
              refine wd_take_yes 13 rfl rfl rfl (by kernel_rfl) (by kernel_rfl) hS4n (by decide) (fun W hW => r_load (plain_of Tryd.underlying3 rfl) rfl (cell_of_blk ((Kp.h hW)).get.2 rfl)) (ltn rfl) ?_
              refine wd_takeT_yes 14 rfl rfl rfl (by kernel_rfl) (by kernel_rfl) hS4n (fun _ => (by first | exact r_field0 0 Tryd.underlying24 rfl rfl Tryd.sizeOf3 (by decide) rfl | exact r_field 0 Tryd.underlying24 rfl rfl Tryd.sizeOf3 (by decide) rfl)) (ltn rfl) ?_
              refine wd_take_yes 15 rfl rfl rfl (by kernel_rfl) (by kernel_rfl) hS4n (by decide) (fun W hW => r_load (plain_of Tryd.underlying3 rfl) rfl (cell_of_blk ((Kp.h hW)).get.2 rfl)) (ltn rfl) ?_
              refine wd_takeT_yes 16 rfl rfl rfl (by kernel_rfl) (by kernel_rfl) hS4n (fun _ => (by first | exact r_field0 1 Tryd.underlying24 rfl rfl Tryd.sizeOf22 (by decide) rfl | exact r_field 1 Tryd.underlying24 rfl rfl Tryd.sizeOf22 (by decide) rfl)) (ltn rfl) ?_
              refine wd_take_yes 17 rfl rfl rfl (by kernel_rfl) (by kernel_rfl) hS4n (by decide) (fun W hW => r_load (plain_of Tryd.underlying22 rfl) rfl (cell_of_blk ((Kp.h hW)).get.2 rfl)) (ltn rfl) ?_
              refine wd_takeT_yes 18 rfl rfl rfl (by kernel_rfl) (by kernel_rfl) hS4n (fun _ => r_lenR (hd _ (HD4.right.right)) Tryd.underlying22 rfl) (ltn rfl) ?_
              refine wd_takeT_yes 19 rfl rfl rfl (by kernel_rfl) (by kernel_rfl) hS4n (fun _ => r_add rfl rfl (by omega)) (ltn rfl) ?_
              refine wd_takeT_yes 21 rfl rfl rfl (by kernel_rfl) (by kernel_rfl) hS4n (fun _ => (by first | exact r_field0 1 Tryd.underlying24 rfl rfl Tryd.sizeOf22 (by decide) rfl | exact r_field 1 Tryd.underlying24 rfl rfl Tryd.sizeOf22 (by decide) rfl)) (ltn rfl) ?_
              refine wd_take_yes 22 rfl rfl rfl (by kernel_rfl) (by kernel_rfl) hS4n (by decide) (fun W hW => r_load (plain_of Tryd.underlying22 rfl) rfl (cell_of_blk ((Kp.h hW)).get.2 rfl)) (ltn rfl) ?_
              refine wd_eff_yes 11 rfl rfl rfl (by kernel_rfl) (e_call (r_call rfl Tryd.func15 rfl rfl) (buf_text_ret HD4.f2)) (ltn rfl) ?_
              rintro u5 w5 H5
              have hS5n := Holds.kp (H5.f3.f3.f3)
              refine keepK hS5n (fun W hW => (Kp.h hW).right.f2) ?_
              refine wd_takeT_yes 20 rfl rfl rfl (by kernel_rfl) (by kernel_rfl) hS5n (fun _ => r_sliceS ((H5).row_rd) Tryd.underlying22 Tryd.sizeOf21 rfl rfl rfl (by omega)) (ltn rfl) ?_
              refine wd_eff_yes 23 rfl rfl rfl (by kernel_rfl) (e_call (r_call rfl Tryd.func57 rfl rfl) (equal_ret _ _ _ _ _ (RdI.cut ((H5).row_rd) (by omega) (by omega)) (hd _ (H5.right.right.right)))) (ltn rfl) ?_
              rintro _ w6 ⟨rfl, hD6⟩
              have HD6 := H5.drewn hD6
              have hS6n := Holds.kp (HD6.f3.f3.f3)
              refine keepX hS6n (by kernel_rfl) ?_
              refine wd_takeT_yes 24 rfl rfl rfl (by kernel_rfl) (by kernel_rfl) hS6n (fun _ => r_not rfl) (ltn rfl) ?_
              refine wd_takeT 25 rfl (by kernel_rfl) (by kernel_rfl) hS6n (fun _ => r_pick_f rfl rfl) (ltn rfl) ?_
              refine wd_takeT 26 rfl (by kernel_rfl) (by kernel_rfl) hS6n (fun _ => r_assign rfl) (ltn rfl) ?_
              refine wd_done (by kernel_rfl) ?_
              refine wq_seq ?_
              refine wc_cond rfl (fun h4 => ?_) (fun h4 => ?_)
              · (try simp only [beq_iff_eq, bne_iff_ne, ne_eq, decide_eq_true_eq, decide_eq_false_iff_not, beq_eq_false_iff_ne, bne_eq_false_iff_eq, Bool.not_eq_true', Bool.not_eq_false', Bool.not_eq_eq_eq_not, Bool.not_true, Bool.not_false, gt_iff_lt, ge_iff_le, Int.not_lt, Int.not_le] at h4)
                try (exfalso; first | contradiction | omega)
                all_goals
                  have hcond := h4
                  refine wc_seq ?_
                  refine wc_region ?_
                  refine wl_val (r_assign rfl) (ltn rfl) ?_
                  refine wl_nil ?_
                  refine wq_seq ?_
                  refine wc_ret ?_
                  refine wq_block_ret ?_
                  refine wq_then_ret ?_
                  refine wq_end1 (.inl rfl) Tryd.results24 rfl ?_
                  have e1 : (a + dl.length).toNat - a.toNat = dl.length := by omega
                  have hf : fitsE L a dl = false := by
                    simp only [fitsE, Bool.and_eq_false_iff, decide_eq_false_iff_not, beq_eq_false_iff_ne, ne_eq]
                    first
                      | (refine .inl ?_; omega)
                      | (refine .inr ?_; rw [e1] at hcond; exact hcond)
                  have e : appE L a dl il = 71 := by unfold appE; rw [if_neg (by omega), hf]; rfl
                  unfold appL appP appM
                  rw [e]
                  exact ⟨rfl, HD6.right.f2.right⟩
              · (try simp only [beq_iff_eq, bne_iff_ne, ne_eq, decide_eq_true_eq, decide_eq_false_iff_not, beq_eq_false_iff_ne, bne_eq_false_iff_eq, Bool.not_eq_true', Bool.not_eq_false', Bool.not_eq_eq_eq_not, Bool.not_true, Bool.not_false, gt_iff_lt, ge_iff_le, Int.not_lt, Int.not_le] at h4)
                try (exfalso; first | contradiction | omega)
                all_goals
                  have hcond := h4
                  refine wc_skip ?_
                  refine wq_block_normal ?_
                  refine wq_seq ?_
                  refine wc_seq ?_
                  refine wc_region ?_
                  refine wl_val (r_move rfl) (ltn rfl) ?_
                  refine wl_val ((by first | exact r_field0 0 Tryd.underlying24 rfl rfl Tryd.sizeOf3 (by decide) rfl | exact r_field 0 Tryd.underlying24 rfl rfl Tryd.sizeOf3 (by decide) rfl)) (ltn rfl) ?_
                  refine wl_val (r_load (plain_of Tryd.underlying3 rfl) rfl (cell_of_blk (HD6.f3).get.2 rfl)) (ltn rfl) ?_
                  refine wl_val ((by first | exact r_field0 0 Tryd.underlying24 rfl rfl Tryd.sizeOf3 (by decide) rfl | exact r_field 0 Tryd.underlying24 rfl rfl Tryd.sizeOf3 (by decide) rfl)) (ltn rfl) ?_
                  refine wl_val (r_load (plain_of Tryd.underlying3 rfl) rfl (cell_of_blk (HD6.f3).get.2 rfl)) (ltn rfl) ?_
                  refine wl_val ((by first | exact r_field0 1 Tryd.underlying24 rfl rfl Tryd.sizeOf22 (by decide) rfl | exact r_field 1 Tryd.underlying24 rfl rfl Tryd.sizeOf22 (by decide) rfl)) (ltn rfl) ?_
                  refine wl_val (r_load (plain_of Tryd.underlying22 rfl) rfl (cell_of_blk (HD6.f3).get.2 rfl)) (ltn rfl) ?_
                  refine wl_val (r_lenR (hd _ (HD6.right.right.right)) Tryd.underlying22 rfl) (ltn rfl) ?_
                  refine wl_val (r_add rfl rfl (by omega)) (ltn rfl) ?_
                  refine wl_val ((by first | exact r_field0 2 Tryd.underlying24 rfl rfl Tryd.sizeOf22 (by decide) rfl | exact r_field 2 Tryd.underlying24 rfl rfl Tryd.sizeOf22 (by decide) rfl)) (ltn rfl) ?_
                  refine wl_val (r_load (plain_of Tryd.underlying22 rfl) rfl (cell_of_blk (HD6.f3).get.2 rfl)) (ltn rfl) ?_
                  refine wl_eff (e_call (r_call rfl Tryd.func13 rfl rfl) (buf_replace_ret HD6.f2 (fun W HW => hi _ (HW.right.right)))) (ltn rfl) ?_
                  rintro _ w7 ⟨d7, s7, rfl, H7⟩
                  refine wl_val (r_move rfl) (ltn rfl) ?_
                  refine wl_val (r_extract rfl rfl) (ltn rfl) ?_
                  refine wl_val (r_extract rfl rfl) (ltn rfl) ?_
                  refine wl_eff (e_allocL (l := [_, _, _]) H7 Tryd.zeroValue24 rfl) (ltn rfl) ?_
                  rintro _ w8 ⟨b8, rfl, H8⟩
                  refine wl_eff0 (e_storePL 0 (l' := [_, _, _]) (us := [_, _, _]) H8 Tryd.sizeOf24 rfl rfl rfl (ones_cons (by first | rfl | assumption) (ones_cons (by first | rfl | exact Rd.one ((H8.f2).row_rd)) (ones_cons (by first | rfl | exact Rd.one ((H8.f3).row_rd)) ones_nil))) rfl rfl) ?_
                  rintro _ w9 H9
                  refine wl_val (r_assign rfl) (ltn rfl) ?_
                  refine wl_nil ?_
                  refine wq_seq ?_
                  refine wc_seq ?_
                  refine wc_region ?_
                  refine wl_val (r_move rfl) (ltn rfl) ?_
                  refine wl_val (r_assign rfl) (ltn rfl) ?_
                  refine wl_nil ?_
                  refine wq_seq ?_
                  refine wc_ret ?_
                  refine wq_end1 (.inl rfl) Tryd.results24 rfl ?_
                  have e1 : (a + dl.length).toNat - a.toNat = dl.length := by omega
                  have hf : fitsE L a dl = true := by
                    simp only [fitsE, Bool.and_eq_true, decide_eq_true_eq, beq_iff_eq]
                    exact ⟨by omega, by rw [e1] at hcond; exact hcond⟩
                  have e : appE L a dl il = replE L a (a + dl.length) il := by unfold appE; rw [if_neg (by omega), if_pos hf]
                  refine ⟨by rw [e]; rfl, ?_⟩
                  unfold appL appP appM
                  rw [e]
                  by_cases h0 : replE L a (a + dl.length) il = 0
                  · simp only [if_pos h0]; exact H9.right.right.right.f2.right.f2.right
                  · simp only [if_neg h0]
                    have H9 := H9.right.right.right.f2.right.f2.right
                    unfold replL replP replM at H9
                    simpa only [if_neg h0] using H9
end
end Go.Proofs.YtlldaaamdchkdaaDoor
