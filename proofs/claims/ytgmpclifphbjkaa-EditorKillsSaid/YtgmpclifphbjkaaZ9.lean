import Derived.Test.YtgmpclifphbjkaaZ8
import Derived.Test.YtgmpclifphbjkaaZ4
/- Texts of mine, joined: BufP Ring. -/
section
/- The buffer's methods, each as one law. -/
set_option linter.unusedSimpArgs false
set_option linter.unusedVariables false
namespace Go.Proofs.Ytgmpclifphbjkaa
open Go.RowKit
/-- What Replace answers, and what it leaves. -/
def replE (L : List Int) (i j : Int) (l : List Int) : Int := if i < 0 ∨ L.length < i ∨ j < i ∨ L.length < j then 70 else if 1024 < L.length - (j - i) + l.length then 3 else 0
def replL (L : List Int) (i j : Int) (l : List Int) : List Int := if replE L i j l = 0 then L.take i.toNat ++ l ++ L.drop j.toNat else L
def replP (L : List Int) (pt i j : Int) (l : List Int) : Int := if replE L i j l = 0 then movedP pt i j l.length else pt
def replM (L : List Int) (mk i j : Int) (l : List Int) : Int := if replE L i j l = 0 then movedM mk i j l.length else mk
def replA (L : List Int) (i j : Int) (l : List Int) : Int := if replE L i j l = 0 then i else 0
def replD (L : List Int) (i j : Int) (l : List Int) : List Int := if replE L i j l = 0 then (L.drop i.toNat).take (j - i).toNat else []
def replI (L : List Int) (i j : Int) (l : List Int) : List Int := if replE L i j l = 0 then l else []
section
variable {w0 w : World} {F : HP} {p : Nat} {L : List Int} {pt mk : Int} {v d s : Value} {l dl il : List Int} {i j a x : Int}
theorem buf_replace_ret (H : Holds w0 w (BufRep p L pt mk • F)) (hr : FRdI w0 F .i32 v l) :
    Ret Try.prog 59 #[.pointer (some ⟨p, 0, none⟩), .int .i64 i, .int .i64 j, v] w fun v' w' => ∃ d s, v' = .tuple #[.agg #[.int .i64 (replA L i j l), d, s], .int .i64 (replE L i j l)] ∧
      Holds w0 w' (RowI 21 .i32 d (replD L i j l) • RowI 21 .i32 s (replI L i j l) • BufRep p (replL L i j l) (replP L pt i j l) (replM L mk i j l) • F) := by
  unfold replA replL replP replM replD replI
  by_cases h1 : i < 0 ∨ L.length < i ∨ j < i ∨ L.length < j
  · have e : replE L i j l = 70 := by unfold replE; rw [if_pos h1]
    simp only [e, show ¬ (70 : Int) = 0 from by decide, if_false]
    exact (buf_replace_bad H hr h1).mono fun v' w' h => ⟨_, _, h.1, (h.2.rowi_nil none).rowi_nil none⟩
  · have h2 : 0 ≤ i ∧ i ≤ j ∧ j ≤ L.length := by omega
    by_cases h3 : 1024 < L.length - (j - i) + l.length
    · have e : replE L i j l = 3 := by unfold replE; rw [if_neg h1, if_pos h3]
      simp only [e, show ¬ (3 : Int) = 0 from by decide, if_false]
      exact (buf_replace_long H hr h2 h3).mono fun v' w' h => ⟨_, _, h.1, (h.2.rowi_nil none).rowi_nil none⟩
    · have e : replE L i j l = 0 := by unfold replE; rw [if_neg h1, if_neg h3]
      simp only [e, if_true]
      obtain ⟨i', rfl⟩ := Int.eq_ofNat_of_zero_le h2.1
      obtain ⟨j', rfl⟩ := Int.eq_ofNat_of_zero_le (show 0 ≤ j by omega)
      have hij : i' ≤ j' ∧ j' ≤ L.length := by omega
      have := buf_replace_ok (i := i') (j := j') H hr hij (by omega)
      simpa only [Int.toNat_natCast, show ((j' : Int) - (i' : Int)).toNat = j' - i' from by omega, edCells] using this
/-- What SetMark answers, and what it leaves. -/
def smE (L : List Int) (x : Int) : Int := if x < -1 ∨ L.length < x then 70 else 0
def smM (L : List Int) (mk x : Int) : Int := if x < -1 ∨ L.length < x then mk else x
theorem buf_setmark_ret (H : Holds w0 w (BufRep p L pt mk • F)) : Ret Try.prog 44 #[.pointer (some ⟨p, 0, none⟩), .int .i64 x] w fun v' w' => v' = .int .i64 (smE L x) ∧ Holds w0 w' (BufRep p L pt (smM L mk x) • F) := by
  unfold smE smM
  have hL : L.length ≤ 1024 := by obtain ⟨a, c, xs, f, t, h1, h2, h3, h4, h5, h6, h7, hc1, hc2, hl, H1⟩ := H.buf; exact h4
  refine ret_enter Try.func44 rfl Try.ntmps44 (Nat.le_of_ble_eq_true rfl) ?_
  dsimp only [slots0, Nat.reduceAdd]
  refine wc_seq ?_
  refine wc_region ?_
  refine wl_val (r_assign rfl) (ltn rfl) ?_
  refine wl_nil ?_
  refine wq_seq ?_
  refine wc_seq ?_
  refine wc_block ?_
  refine wc_seq ?_
  refine wc_region ?_
  refine wl_val (r_move rfl) (ltn rfl) ?_
  refine wl_eff (e_call (r_call rfl Try.func58 rfl rfl) (buf_none_rep H)) (ltn rfl) ?_
  rintro _ _ ⟨rfl, rfl⟩
  refine wl_val (r_assign rfl) (ltn rfl) ?_
  refine wl_nil ?_
  refine wq_seq ?_
  refine wc_cond_f rfl ?_
  refine wc_seq ?_
  refine wc_region ?_
  refine wl_val (r_move rfl) (ltn rfl) ?_
  refine wl_val (r_lss rfl rfl) (ltn rfl) ?_
  refine wl_split rfl (ltn rfl) (fun h1 => ?_) (fun h1 => ?_)
  · (try simp only [cmpS] at h1)
    try (exfalso; first | contradiction | omega)
    all_goals
      refine wl_no rfl rfl rfl (ltn rfl) ?_
      refine wl_no rfl rfl rfl (ltn rfl) ?_
      refine wl_no rfl rfl rfl (ltn rfl) ?_
      refine wl_no rfl rfl rfl (ltn rfl) ?_
      refine wl_val (r_pick_t rfl rfl) (ltn rfl) ?_
      refine wl_val (r_assign rfl) (ltn rfl) ?_
      refine wl_nil ?_
      refine wq_seq ?_
      refine wc_cond_t rfl ?_
      refine wc_seq ?_
      refine wc_region ?_
      refine wl_val (r_assign rfl) (ltn rfl) ?_
      refine wl_nil ?_
      refine wq_seq ?_
      refine wc_ret ?_
      refine wq_block_ret ?_
      refine wq_then_ret ?_
      refine wq_end1 (.inl rfl) Try.results44 rfl ?_
      exact ⟨by rw [if_pos (by omega)], by rw [if_pos (by omega)]; exact H⟩
  · (try simp only [cmpS] at h1)
    try (exfalso; first | contradiction | omega)
    all_goals
      refine wl_yes rfl rfl ?_
      refine wl_val (r_move rfl) (ltn rfl) ?_
      refine wl_yes rfl rfl ?_
      refine wl_val (r_move rfl) (ltn rfl) ?_
      refine wl_yes rfl rfl ?_
      refine wl_eff (e_call (r_call rfl Try.func29 rfl rfl) (buf_len_ret H)) (ltn rfl) ?_
      rintro _ w2 ⟨rfl, hD2⟩
      have HD2 := H.drewn hD2
      refine wl_yes rfl rfl ?_
      refine wl_val (r_gtr rfl rfl) (ltn rfl) ?_
      refine wl_val (r_pick_f rfl rfl) (ltn rfl) ?_
      refine wl_val (r_assign rfl) (ltn rfl) ?_
      refine wl_nil ?_
      refine wq_seq ?_
      refine wc_cond rfl (fun h2 => ?_) (fun h2 => ?_)
      · (try simp only [cmpS] at h2)
        try (exfalso; first | contradiction | omega)
        all_goals
          
          refine wc_seq ?_
          refine wc_region ?_
          refine wl_val (r_assign rfl) (ltn rfl) ?_
          refine wl_nil ?_
          refine wq_seq ?_
          refine wc_ret ?_
          refine wq_block_ret ?_
          refine wq_then_ret ?_
          refine wq_end1 (.inl rfl) Try.results44 rfl ?_
          exact ⟨by rw [if_pos (by omega)], by rw [if_pos (by omega)]; exact HD2⟩
      · (try simp only [cmpS] at h2)
        try (exfalso; first | contradiction | omega)
        all_goals
          
          refine wc_skip ?_
          refine wq_block_normal ?_
          refine wq_seq ?_
          refine wc_seq ?_
          obtain ⟨ax_p, cx_p, xs_p, f_p, t_p, g1_p, g2_p, g3_p, g4_p, g5_p, g6_p, g7_p, g8_p, g9_p, g10_p, HB_p⟩ := (HD2).buf
          refine wc_region ?_
          refine wl_val (r_move rfl) (ltn rfl) ?_
          refine wl_val (r_move rfl) (ltn rfl) ?_
          refine wl_val (r_nil rfl) (ltn rfl) ?_
          refine wl_val (r_fieldA 5 Try.underlying109 rfl rfl Try.sizeOf3 (by decide) rfl (by first | exact Nat.zero_add _ | rfl)) (ltn rfl) ?_
          refine wl_eff0 (e_storeL 5 (l' := [_, _, _, _, _, _]) HB_p Try.sizeOf3 rfl rfl (by first | rfl | assumption) rfl rfl) ?_
          rintro _ w4 H4
          refine wl_nil ?_
          refine wq_seq ?_
          refine wc_seq ?_
          refine wc_region ?_
          refine wl_val (r_assign rfl) (ltn rfl) ?_
          refine wl_nil ?_
          refine wq_seq ?_
          refine wc_ret ?_
          refine wq_end1 (.inl rfl) Try.results44 rfl ?_
          exact ⟨by rw [if_neg (by omega)], by rw [if_neg (by omega)]; exact Holds.mk_buf g1_p g2_p g3_p g4_p g5_p g6_p (by omega) H4.f2.f2⟩
def swE (mk : Int) : Int := if mk < 0 then 6 else 0
def swP (pt mk : Int) : Int := if mk < 0 then pt else mk
def swM (pt mk : Int) : Int := if mk < 0 then mk else pt
theorem buf_clone_ret (H : Holds w0 w (BufRep p L pt mk • F)) : Ret Try.prog 49 #[.pointer (some ⟨p, 0, none⟩)] w fun v' w' => ∃ q, v' = .pointer (some ⟨q, 0, none⟩) ∧ Holds w0 w' (BufRep q L pt mk • BufRep p L pt mk • F) := by
  refine ret_enter Try.func49 rfl Try.ntmps49 (Nat.le_of_ble_eq_true rfl) ?_
  dsimp only [slots0, Nat.reduceAdd]
  refine wc_seq ?_
  refine wc_region ?_
  refine wl_val (r_assign rfl) (ltn rfl) ?_
  refine wl_nil ?_
  refine wq_seq ?_
  refine wc_seq ?_
  refine wc_seq ?_
  refine wc_region ?_
  refine wl_val (r_move rfl) (ltn rfl) ?_
  refine wl_eff (e_call (r_call rfl Try.func58 rfl rfl) (buf_none_rep H)) (ltn rfl) ?_
  rintro _ _ ⟨rfl, rfl⟩
  refine wl_nil ?_
  refine wq_seq ?_
  refine wc_cond_f rfl ?_
  refine wc_skip ?_
  refine wq_seq ?_
  refine wc_seq ?_
  obtain ⟨ax_p, cx_p, xs_p, f_p, t_p, g1_p, g2_p, g3_p, g4_p, g5_p, g6_p, g7_p, g8_p, g9_p, g10_p, HB_p⟩ := (H).buf
  refine wc_region ?_
  refine wl_val (r_move rfl) (ltn rfl) ?_
  refine wl_val (r_nil rfl) (ltn rfl) ?_
  refine wl_val (r_load_whole Try.underlying109 rfl Try.sizeOf109 rfl rfl (HB_p).get.2) (ltn rfl) ?_
  refine wl_eff (e_allocL (l := [_, _, _, _, _, _]) HB_p Try.zeroValue109 rfl) (ltn rfl) ?_
  rintro _ w3 ⟨b3, rfl, H3⟩
  refine wl_eff0 (e_storePL 0 (l' := [_, _, _, _, _, _]) (us := [_, _, _, _, _, _]) H3 Try.sizeOf109 rfl rfl rfl (ones_cons (by first | rfl | assumption) (ones_cons (by first | rfl | exact Rd.one ((H3.f3).row_rd)) (ones_cons (by first | rfl | assumption) (ones_cons (by first | rfl | assumption) (ones_cons (by first | rfl | assumption) (ones_cons (by first | rfl | assumption) ones_nil)))))) rfl rfl) ?_
  rintro _ w4 H4
  refine wl_nil ?_
  refine wq_seq ?_
  refine wc_seq ?_
  refine wc_region ?_
  refine wl_val (r_move rfl) (ltn rfl) ?_
  refine wl_val (r_nil rfl) (ltn rfl) ?_
  refine wl_val (r_fieldA 1 Try.underlying109 rfl rfl Try.sizeOf22 (by decide) rfl (by first | exact Nat.zero_add _ | rfl)) (ltn rfl) ?_
  refine wl_val (r_load (plain_of Try.underlying22 rfl) rfl (cell_of_blk (H4.f2).get.2 rfl)) (ltn rfl) ?_
  refine wl_eff (e_call (r_call rfl Try.func12 rfl rfl) (clone_ret H4 (fun W HW => (HW.f3).row_rd) (by omega))) (ltn rfl) ?_
  rintro u5 w5 H5
  refine wl_val (r_fieldA 1 Try.underlying109 rfl rfl Try.sizeOf22 (by decide) rfl (by first | exact Nat.zero_add _ | rfl)) (ltn rfl) ?_
  refine wl_eff0 (e_storeL 1 (l' := [_, _, _, _, _, _]) H5.f2 Try.sizeOf22 rfl rfl (by first | rfl | exact Rd.one ((H5).row_rd)) rfl rfl) ?_
  rintro _ w6 H6
  refine wl_nil ?_
  refine wq_seq ?_
  refine wc_seq ?_
  refine wc_region ?_
  refine wl_val (r_assign rfl) (ltn rfl) ?_
  refine wl_nil ?_
  refine wq_seq ?_
  refine wc_ret ?_
  refine wq_end1 (.inl rfl) Try.results49 rfl ?_
  exact ⟨_, rfl, (Holds.mk_buf g1_p g2_p g3_p g4_p g5_p g6_p (by omega) (Holds.mk_buf g1_p g2_p g3_p g4_p g5_p g6_p (by omega) H6.f4.f4.f4.f4).f2.f3.f2).f2⟩
/-- What Apply answers, and what it leaves. -/
def fitsE (L : List Int) (a : Int) (dl : List Int) : Bool := decide ((dl.length : Int) ≤ L.length - a) && ((L.drop a.toNat).take dl.length == dl)
def appE (L : List Int) (a : Int) (dl il : List Int) : Int := if a < 0 ∨ L.length < a then 70 else if fitsE L a dl then replE L a (a + dl.length) il else 71
def appL (L : List Int) (a : Int) (dl il : List Int) : List Int := if appE L a dl il = 0 then replL L a (a + dl.length) il else L
def appP (L : List Int) (pt a : Int) (dl il : List Int) : Int := if appE L a dl il = 0 then replP L pt a (a + dl.length) il else pt
def appM (L : List Int) (mk a : Int) (dl il : List Int) : Int := if appE L a dl il = 0 then replM L mk a (a + dl.length) il else mk
theorem buf_apply_ret (H : Holds w0 w (BufRep p L pt mk • F)) (hd : FRdI w0 F .i32 d dl) (hi : FRdI w0 F .i32 s il) : Ret Try.prog 35 #[.pointer (some ⟨p, 0, none⟩), .agg #[.int .i64 a, d, s]] w fun v' w' =>
    v' = .int .i64 (appE L a dl il) ∧ Holds w0 w' (BufRep p (appL L a dl il) (appP L pt a dl il) (appM L mk a dl il) • F) := by
  have hL : L.length ≤ 1024 := by obtain ⟨a, c, xs, f, t, h1, h2, h3, h4, h5, h6, h7, hc1, hc2, hl, H1⟩ := H.buf; exact h4
  refine ret_enter Try.func35 rfl Try.ntmps35 (Nat.le_of_ble_eq_true rfl) ?_
  dsimp only [slots0, Nat.reduceAdd]
  refine wc_seq ?_
  refine wc_region ?_
  refine wl_eff (e_boxL (l := [_, _, _]) H rfl rfl) (ltn rfl) ?_
  rintro _ w1 ⟨b1, rfl, H1⟩
  refine wl_val (r_assign rfl) (ltn rfl) ?_
  refine wl_nil ?_
  refine wq_seq ?_
  refine wc_seq ?_
  refine wc_block ?_
  refine wc_seq ?_
  refine wc_region ?_
  refine wl_val (r_move rfl) (ltn rfl) ?_
  refine wl_eff (e_call (r_call rfl Try.func58 rfl rfl) (buf_none_rep H1.f2)) (ltn rfl) ?_
  rintro _ _ ⟨rfl, rfl⟩
  refine wl_val (r_assign rfl) (ltn rfl) ?_
  refine wl_nil ?_
  refine wq_seq ?_
  refine wc_cond_f rfl ?_
  refine wc_seq ?_
  have H3d2 := H1.drew
  have hS3d2 := Holds.kp (H3d2.f2.f2)
  refine wd_beginK [1, 5] hS3d2 (by kernel_rfl) (by kernel_rfl) rfl ?_
  refine wd_takeT 0 rfl (by kernel_rfl) (by kernel_rfl) hS3d2 (fun _ => r_fieldA 0 Try.underlying82 rfl rfl Try.sizeOf3 (by decide) rfl (by first | exact Nat.zero_add _ | rfl)) (ltn rfl) ?_
  refine wd_take 1 rfl (by kernel_rfl) (by kernel_rfl) hS3d2 (by decide) (fun W hW => r_load (plain_of Try.underlying3 rfl) rfl (cell_of_blk ((Kp.h hW)).get.2 rfl)) (ltn rfl) ?_
  refine wd_takeT 2 rfl (by kernel_rfl) (by kernel_rfl) hS3d2 (fun _ => r_lss rfl rfl) (ltn rfl) ?_
  refine wd_split 3 rfl rfl (by kernel_rfl) (by kernel_rfl) hS3d2 (ltn rfl) (fun h1 => ?_) (fun h1 => ?_)
  · (try simp only [cmpS] at h1)
    try (exfalso; first | contradiction | omega)
    all_goals
      refine wd_no 4 rfl rfl rfl rfl (by kernel_rfl) (by kernel_rfl) hS3d2 (ltn rfl) ?_
      refine wd_no 5 rfl rfl rfl rfl (by kernel_rfl) (by kernel_rfl) hS3d2 (ltn rfl) ?_
      refine wd_no 6 rfl rfl rfl rfl (by kernel_rfl) (by kernel_rfl) hS3d2 (ltn rfl) ?_
      refine wd_no 7 rfl rfl rfl rfl (by kernel_rfl) (by kernel_rfl) hS3d2 (ltn rfl) ?_
      refine wd_no 8 rfl rfl rfl rfl (by kernel_rfl) (by kernel_rfl) hS3d2 (ltn rfl) ?_
      refine wd_takeT 9 rfl (by kernel_rfl) (by kernel_rfl) hS3d2 (fun _ => r_pick_t rfl rfl) (ltn rfl) ?_
      refine wd_takeT 10 rfl (by kernel_rfl) (by kernel_rfl) hS3d2 (fun _ => r_assign rfl) (ltn rfl) ?_
      refine wd_done (by kernel_rfl) ?_
      refine wq_seq ?_
      refine wc_cond_t rfl ?_
      refine wc_seq ?_
      refine wc_region ?_
      refine wl_val (r_assign rfl) (ltn rfl) ?_
      refine wl_nil ?_
      refine wq_seq ?_
      refine wc_ret ?_
      refine wq_block_ret ?_
      refine wq_then_ret ?_
      refine wq_end1 (.inl rfl) Try.results35 rfl ?_
      have e : appE L a dl il = 70 := by unfold appE; rw [if_pos (by omega)]
      unfold appL appP appM
      rw [e]
      exact ⟨rfl, H3d2.right⟩
  · (try simp only [cmpS] at h1)
    try (exfalso; first | contradiction | omega)
    all_goals
      refine wd_takeT_yes 4 rfl rfl rfl (by kernel_rfl) (by kernel_rfl) hS3d2 (fun _ => r_fieldA 0 Try.underlying82 rfl rfl Try.sizeOf3 (by decide) rfl (by first | exact Nat.zero_add _ | rfl)) (ltn rfl) ?_
      refine wd_take_yes 5 rfl rfl rfl (by kernel_rfl) (by kernel_rfl) hS3d2 (by decide) (fun W hW => r_load (plain_of Try.underlying3 rfl) rfl (cell_of_blk ((Kp.h hW)).get.2 rfl)) (ltn rfl) ?_
      refine wd_takeT_yes 6 rfl rfl rfl (by kernel_rfl) (by kernel_rfl) hS3d2 (fun _ => r_move rfl) (ltn rfl) ?_
      refine wd_eff_yes 7 rfl rfl rfl (by kernel_rfl) (e_call (r_call rfl Try.func29 rfl rfl) (buf_len_ret H3d2.f2)) (ltn rfl) ?_
      rintro _ w3 ⟨rfl, hD3⟩
      have HD3 := H3d2.drewn hD3
      have hS3n := Holds.kp (HD3.f2.f2)
      refine keepK hS3n (fun W hW => (Kp.h hW).f2.f2) ?_
      refine wd_takeT_yes 8 rfl rfl rfl (by kernel_rfl) (by kernel_rfl) hS3n (fun _ => r_gtr rfl rfl) (ltn rfl) ?_
      refine wd_takeT 9 rfl (by kernel_rfl) (by kernel_rfl) hS3n (fun _ => r_pick_f rfl rfl) (ltn rfl) ?_
      refine wd_takeT 10 rfl (by kernel_rfl) (by kernel_rfl) hS3n (fun _ => r_assign rfl) (ltn rfl) ?_
      refine wd_done (by kernel_rfl) ?_
      refine wq_seq ?_
      refine wc_cond rfl (fun h2 => ?_) (fun h2 => ?_)
      · (try simp only [cmpS] at h2)
        try (exfalso; first | contradiction | omega)
        all_goals
          
          refine wc_seq ?_
          refine wc_region ?_
          refine wl_val (r_assign rfl) (ltn rfl) ?_
          refine wl_nil ?_
          refine wq_seq ?_
          refine wc_ret ?_
          refine wq_block_ret ?_
          refine wq_then_ret ?_
          refine wq_end1 (.inl rfl) Try.results35 rfl ?_
          have e : appE L a dl il = 70 := by unfold appE; rw [if_pos (by omega)]
          unfold appL appP appM
          rw [e]
          exact ⟨rfl, HD3.right⟩
      · (try simp only [cmpS] at h2)
        try (exfalso; first | contradiction | omega)
        all_goals
          
          refine wc_seq ?_
          have H5d3 := HD3.drew
          have hS5d3 := Holds.kp (H5d3.f2.f2)
          refine wd_beginK [1, 6, 13, 15, 17, 22] hS5d3 (by kernel_rfl) (by kernel_rfl) rfl ?_
          refine wd_takeT 0 rfl (by kernel_rfl) (by kernel_rfl) hS5d3 (fun _ => r_fieldA 1 Try.underlying82 rfl rfl Try.sizeOf22 (by decide) rfl (by first | exact Nat.zero_add _ | rfl)) (ltn rfl) ?_
          refine wd_take 1 rfl (by kernel_rfl) (by kernel_rfl) hS5d3 (by decide) (fun W hW => r_load (plain_of Try.underlying22 rfl) rfl (cell_of_blk ((Kp.h hW)).get.2 rfl)) (ltn rfl) ?_
          refine wd_takeT 2 rfl (by kernel_rfl) (by kernel_rfl) hS5d3 (fun _ => r_lenR (hd _ (H5d3.right.right)) Try.underlying22 rfl) (ltn rfl) ?_
          refine wd_takeT 3 rfl (by kernel_rfl) (by kernel_rfl) hS5d3 (fun _ => r_move rfl) (ltn rfl) ?_
          refine wd_takeT 5 rfl (by kernel_rfl) (by kernel_rfl) hS5d3 (fun _ => r_fieldA 0 Try.underlying82 rfl rfl Try.sizeOf3 (by decide) rfl (by first | exact Nat.zero_add _ | rfl)) (ltn rfl) ?_
          refine wd_take 6 rfl (by kernel_rfl) (by kernel_rfl) hS5d3 (by decide) (fun W hW => r_load (plain_of Try.underlying3 rfl) rfl (cell_of_blk ((Kp.h hW)).get.2 rfl)) (ltn rfl) ?_
          refine wd_eff 4 rfl (by kernel_rfl) (e_call (r_call rfl Try.func29 rfl rfl) (buf_len_ret H5d3.f2)) (ltn rfl) ?_
          rintro _ w4 ⟨rfl, hD4⟩
          have HD4 := H5d3.drewn hD4
          have hS4n := Holds.kp (HD4.f2.f2)
          refine keepK hS4n (fun W hW => (Kp.h hW).f2.f2) ?_
          refine wd_takeT 7 rfl (by kernel_rfl) (by kernel_rfl) hS4n (fun _ => r_sub rfl rfl (by omega)) (ltn rfl) ?_
          refine wd_takeT 8 rfl (by kernel_rfl) (by kernel_rfl) hS4n (fun _ => r_gtr rfl rfl) (ltn rfl) ?_
          refine wd_split 9 rfl rfl (by kernel_rfl) (by kernel_rfl) hS4n (ltn rfl) (fun h3 => ?_) (fun h3 => ?_)
          · (try simp only [cmpS] at h3)
            try (exfalso; first | contradiction | omega)
            all_goals
              refine wd_no 10 rfl rfl rfl rfl (by kernel_rfl) (by kernel_rfl) hS4n (ltn rfl) ?_
              refine wd_no 11 rfl rfl rfl rfl (by kernel_rfl) (by kernel_rfl) hS4n (ltn rfl) ?_
              refine wd_no 12 rfl rfl rfl rfl (by kernel_rfl) (by kernel_rfl) hS4n (ltn rfl) ?_
              refine wd_no 13 rfl rfl rfl rfl (by kernel_rfl) (by kernel_rfl) hS4n (ltn rfl) ?_
              refine wd_no 14 rfl rfl rfl rfl (by kernel_rfl) (by kernel_rfl) hS4n (ltn rfl) ?_
              refine wd_no 15 rfl rfl rfl rfl (by kernel_rfl) (by kernel_rfl) hS4n (ltn rfl) ?_
              refine wd_no 16 rfl rfl rfl rfl (by kernel_rfl) (by kernel_rfl) hS4n (ltn rfl) ?_
              refine wd_no 17 rfl rfl rfl rfl (by kernel_rfl) (by kernel_rfl) hS4n (ltn rfl) ?_
              refine wd_no 18 rfl rfl rfl rfl (by kernel_rfl) (by kernel_rfl) hS4n (ltn rfl) ?_
              refine wd_no 19 rfl rfl rfl rfl (by kernel_rfl) (by kernel_rfl) hS4n (ltn rfl) ?_
              refine wd_no 20 rfl rfl rfl rfl (by kernel_rfl) (by kernel_rfl) hS4n (ltn rfl) ?_
              refine wd_no 21 rfl rfl rfl rfl (by kernel_rfl) (by kernel_rfl) hS4n (ltn rfl) ?_
              refine wd_no 22 rfl rfl rfl rfl (by kernel_rfl) (by kernel_rfl) hS4n (ltn rfl) ?_
              refine wd_no 23 rfl rfl rfl rfl (by kernel_rfl) (by kernel_rfl) hS4n (ltn rfl) ?_
              refine wd_no 24 rfl rfl rfl rfl (by kernel_rfl) (by kernel_rfl) hS4n (ltn rfl) ?_
              refine wd_takeT 25 rfl (by kernel_rfl) (by kernel_rfl) hS4n (fun _ => r_pick_t rfl rfl) (ltn rfl) ?_
              refine wd_takeT 26 rfl (by kernel_rfl) (by kernel_rfl) hS4n (fun _ => r_assign rfl) (ltn rfl) ?_
              refine wd_done (by kernel_rfl) ?_
              refine wq_seq ?_
              refine wc_cond_t rfl ?_
              refine wc_seq ?_
              refine wc_region ?_
              refine wl_val (r_assign rfl) (ltn rfl) ?_
              refine wl_nil ?_
              refine wq_seq ?_
              refine wc_ret ?_
              refine wq_block_ret ?_
              refine wq_then_ret ?_
              refine wq_end1 (.inl rfl) Try.results35 rfl ?_
              have e1 : (a + dl.length).toNat - a.toNat = dl.length := by omega
              have hf : fitsE L a dl = false := by
                simp only [fitsE, Bool.and_eq_false_iff, decide_eq_false_iff_not, beq_eq_false_iff_ne, ne_eq]
                first
                  | (refine .inl ?_; omega)
                  | (refine .inr ?_; rw [e1] at hcond; exact hcond)
              have e : appE L a dl il = 71 := by unfold appE; rw [if_neg (by omega), hf]; rfl
              unfold appL appP appM
              rw [e]
              exact ⟨rfl, HD4.right⟩
          · (try simp only [cmpS] at h3)
            try (exfalso; first | contradiction | omega)
            all_goals
              refine wd_takeT_yes 10 rfl rfl rfl (by kernel_rfl) (by kernel_rfl) hS4n (fun _ => r_move rfl) (ltn rfl) ?_
              refine wd_takeT_yes 12 rfl rfl rfl (by kernel_rfl) (by kernel_rfl) hS4n (fun _ => r_fieldA 0 Try.underlying82 rfl rfl Try.sizeOf3 (by decide) rfl (by first | exact Nat.zero_add _ | rfl)) (ltn rfl) ?_
              refine wd_take_yes 13 rfl rfl rfl (by kernel_rfl) (by kernel_rfl) hS4n (by decide) (fun W hW => r_load (plain_of Try.underlying3 rfl) rfl (cell_of_blk ((Kp.h hW)).get.2 rfl)) (ltn rfl) ?_
              refine wd_takeT_yes 14 rfl rfl rfl (by kernel_rfl) (by kernel_rfl) hS4n (fun _ => r_fieldA 0 Try.underlying82 rfl rfl Try.sizeOf3 (by decide) rfl (by first | exact Nat.zero_add _ | rfl)) (ltn rfl) ?_
              refine wd_take_yes 15 rfl rfl rfl (by kernel_rfl) (by kernel_rfl) hS4n (by decide) (fun W hW => r_load (plain_of Try.underlying3 rfl) rfl (cell_of_blk ((Kp.h hW)).get.2 rfl)) (ltn rfl) ?_
              refine wd_takeT_yes 16 rfl rfl rfl (by kernel_rfl) (by kernel_rfl) hS4n (fun _ => r_fieldA 1 Try.underlying82 rfl rfl Try.sizeOf22 (by decide) rfl (by first | exact Nat.zero_add _ | rfl)) (ltn rfl) ?_
              refine wd_take_yes 17 rfl rfl rfl (by kernel_rfl) (by kernel_rfl) hS4n (by decide) (fun W hW => r_load (plain_of Try.underlying22 rfl) rfl (cell_of_blk ((Kp.h hW)).get.2 rfl)) (ltn rfl) ?_
              refine wd_takeT_yes 18 rfl rfl rfl (by kernel_rfl) (by kernel_rfl) hS4n (fun _ => r_lenR (hd _ (HD4.right.right)) Try.underlying22 rfl) (ltn rfl) ?_
              refine wd_takeT_yes 19 rfl rfl rfl (by kernel_rfl) (by kernel_rfl) hS4n (fun _ => r_add rfl rfl (by omega)) (ltn rfl) ?_
              refine wd_takeT_yes 21 rfl rfl rfl (by kernel_rfl) (by kernel_rfl) hS4n (fun _ => r_fieldA 1 Try.underlying82 rfl rfl Try.sizeOf22 (by decide) rfl (by first | exact Nat.zero_add _ | rfl)) (ltn rfl) ?_
              refine wd_take_yes 22 rfl rfl rfl (by kernel_rfl) (by kernel_rfl) hS4n (by decide) (fun W hW => r_load (plain_of Try.underlying22 rfl) rfl (cell_of_blk ((Kp.h hW)).get.2 rfl)) (ltn rfl) ?_
              refine wd_eff_yes 11 rfl rfl rfl (by kernel_rfl) (e_call (r_call rfl Try.func62 rfl rfl) (buf_text_ret HD4.f2)) (ltn rfl) ?_
              rintro u5 w5 H5
              have hS5n := Holds.kp (H5.f3.f3.f3)
              refine keepK hS5n (fun W hW => (Kp.h hW).right.f2) ?_
              refine wd_takeT_yes 20 rfl rfl rfl (by kernel_rfl) (by kernel_rfl) hS5n (fun _ => r_sliceS ((H5).row_rd) Try.underlying22 Try.sizeOf21 rfl rfl rfl (by omega)) (ltn rfl) ?_
              refine wd_eff_yes 23 rfl rfl rfl (by kernel_rfl) (e_call (r_call rfl Try.func13 rfl rfl) (equal_ret _ _ _ _ _ (RdI.cut ((H5).row_rd) (by omega) (by omega)) (hd _ (H5.right.right.right)))) (ltn rfl) ?_
              rintro _ w6 ⟨rfl, hD6⟩
              have HD6 := H5.drewn hD6
              have hS6n := Holds.kp (HD6.f3.f3.f3)
              refine keepX hS6n (by kernel_rfl) ?_
              refine wd_takeT_yes 24 rfl rfl rfl (by kernel_rfl) (by kernel_rfl) hS6n (fun _ => r_not rfl) (ltn rfl) ?_
              refine wd_takeT 25 rfl (by kernel_rfl) (by kernel_rfl) hS6n (fun _ => r_pick_f rfl rfl) (ltn rfl) ?_
              refine wd_takeT 26 rfl (by kernel_rfl) (by kernel_rfl) hS6n (fun _ => r_assign rfl) (ltn rfl) ?_
              refine wd_done (by kernel_rfl) ?_
              refine wq_seq ?_
              refine wc_cond rfl (fun h4 => ?_) (fun h4 => ?_)
              · (try simp only [cmpS] at h4)
                try (exfalso; first | contradiction | omega)
                all_goals
                  have hcond := h4
                  refine wc_seq ?_
                  refine wc_region ?_
                  refine wl_val (r_assign rfl) (ltn rfl) ?_
                  refine wl_nil ?_
                  refine wq_seq ?_
                  refine wc_ret ?_
                  refine wq_block_ret ?_
                  refine wq_then_ret ?_
                  refine wq_end1 (.inl rfl) Try.results35 rfl ?_
                  have e1 : (a + dl.length).toNat - a.toNat = dl.length := by omega
                  have hf : fitsE L a dl = false := by
                    simp only [fitsE, Bool.and_eq_false_iff, decide_eq_false_iff_not, beq_eq_false_iff_ne, ne_eq]
                    first
                      | (refine .inl ?_; omega)
                      | (refine .inr ?_; rw [e1] at hcond; exact hcond)
                  have e : appE L a dl il = 71 := by unfold appE; rw [if_neg (by omega), hf]; rfl
                  unfold appL appP appM
                  rw [e]
                  exact ⟨rfl, HD6.right.f2.right⟩
              · (try simp only [cmpS] at h4)
                try (exfalso; first | contradiction | omega)
                all_goals
                  have hcond := h4
                  refine wc_skip ?_
                  refine wq_block_normal ?_
                  refine wq_seq ?_
                  refine wc_seq ?_
                  refine wc_region ?_
                  refine wl_val (r_move rfl) (ltn rfl) ?_
                  refine wl_val (r_fieldA 0 Try.underlying82 rfl rfl Try.sizeOf3 (by decide) rfl (by first | exact Nat.zero_add _ | rfl)) (ltn rfl) ?_
                  refine wl_val (r_load (plain_of Try.underlying3 rfl) rfl (cell_of_blk (HD6.f3).get.2 rfl)) (ltn rfl) ?_
                  refine wl_val (r_fieldA 0 Try.underlying82 rfl rfl Try.sizeOf3 (by decide) rfl (by first | exact Nat.zero_add _ | rfl)) (ltn rfl) ?_
                  refine wl_val (r_load (plain_of Try.underlying3 rfl) rfl (cell_of_blk (HD6.f3).get.2 rfl)) (ltn rfl) ?_
                  refine wl_val (r_fieldA 1 Try.underlying82 rfl rfl Try.sizeOf22 (by decide) rfl (by first | exact Nat.zero_add _ | rfl)) (ltn rfl) ?_
                  refine wl_val (r_load (plain_of Try.underlying22 rfl) rfl (cell_of_blk (HD6.f3).get.2 rfl)) (ltn rfl) ?_
                  refine wl_val (r_lenR (hd _ (HD6.right.right.right)) Try.underlying22 rfl) (ltn rfl) ?_
                  refine wl_val (r_add rfl rfl (by omega)) (ltn rfl) ?_
                  refine wl_val (r_fieldA 2 Try.underlying82 rfl rfl Try.sizeOf22 (by decide) rfl (by first | exact Nat.zero_add _ | rfl)) (ltn rfl) ?_
                  refine wl_val (r_load (plain_of Try.underlying22 rfl) rfl (cell_of_blk (HD6.f3).get.2 rfl)) (ltn rfl) ?_
                  refine wl_eff (e_call (r_call rfl Try.func59 rfl rfl) (buf_replace_ret HD6.f2 (fun W HW => hi _ (HW.right.right)))) (ltn rfl) ?_
                  rintro _ w7 ⟨d7, s7, rfl, H7⟩
                  refine wl_val (r_move rfl) (ltn rfl) ?_
                  refine wl_val (r_extract rfl rfl) (ltn rfl) ?_
                  refine wl_val (r_extract rfl rfl) (ltn rfl) ?_
                  refine wl_eff (e_allocL (l := [_, _, _]) H7 Try.zeroValue82 rfl) (ltn rfl) ?_
                  rintro _ w8 ⟨b8, rfl, H8⟩
                  refine wl_eff0 (e_storePL 0 (l' := [_, _, _]) (us := [_, _, _]) H8 Try.sizeOf82 rfl rfl rfl (ones_cons (by first | rfl | assumption) (ones_cons (by first | rfl | exact Rd.one ((H8.f2).row_rd)) (ones_cons (by first | rfl | exact Rd.one ((H8.f3).row_rd)) ones_nil))) rfl rfl) ?_
                  rintro _ w9 H9
                  refine wl_val (r_assign rfl) (ltn rfl) ?_
                  refine wl_nil ?_
                  refine wq_seq ?_
                  refine wc_seq ?_
                  refine wc_region ?_
                  refine wl_val (r_move rfl) (ltn rfl) ?_
                  refine wl_val (r_assign rfl) (ltn rfl) ?_
                  refine wl_nil ?_
                  refine wq_seq ?_
                  refine wc_ret ?_
                  refine wq_end1 (.inl rfl) Try.results35 rfl ?_
                  have e1 : (a + dl.length).toNat - a.toNat = dl.length := by omega
                  have hf : fitsE L a dl = true := by
                    simp only [fitsE, Bool.and_eq_true, decide_eq_true_eq, beq_iff_eq]
                    exact ⟨by omega, by rw [e1] at hcond; exact hcond⟩
                  have e : appE L a dl il = replE L a (a + dl.length) il := by unfold appE; rw [if_neg (by omega), if_pos hf]
                  refine ⟨by rw [e]; rfl, ?_⟩
                  unfold appL appP appM
                  rw [e]
                  by_cases h0 : replE L a (a + dl.length) il = 0
                  · simp only [if_pos h0]; exact H9.right.right.right.f2.right.f2.right
                  · simp only [if_neg h0]
                    have H9 := H9.right.right.right.f2.right.f2.right
                    unfold replL replP replM at H9
                    simpa only [if_neg h0] using H9
end
end Go.Proofs.Ytgmpclifphbjkaa
end
section
/- The kill ring's methods. -/
set_option linter.unusedSimpArgs false
set_option linter.unusedVariables false
namespace Go.Proofs.Ytgmpclifphbjkaa
open Go.RowKit

/-- A ring's cells: whether it is made, the slots, the head, how many, the place. -/
def ringCells (s : List Value) (h n p : Nat) : Array Value := (Value.bool true :: (s ++ [.int .i64 h, .int .i64 n, .int .i64 p])).toArray
section
variable {s : List Value} {h n p : Nat}
theorem ring_size (hs : s.length = 60) : (ringCells s h n p).size = 64 := by simp [ringCells, hs]
theorem ring_0 : (ringCells s h n p)[0]? = some (.bool true) := by simp [ringCells]
theorem ring_slot (hs : s.length = 60) {i : Nat} (hi : i < 60) : (ringCells s h n p)[1 + i]? = some (s.getD i undef) := by
  simp [ringCells, Nat.add_comm 1 i, List.getElem?_append_left (show i < s.length by omega), List.getD_eq_getElem?_getD, show i < s.length by omega]
theorem ring_head (hs : s.length = 60) : (ringCells s h n p)[61]? = some (.int .i64 h) := by simp [ringCells, hs]
theorem ring_many (hs : s.length = 60) : (ringCells s h n p)[62]? = some (.int .i64 n) := by simp [ringCells, hs]
theorem ring_place (hs : s.length = 60) : (ringCells s h n p)[63]? = some (.int .i64 p) := by simp [ringCells, hs]
theorem ring_set_head (hs : s.length = 60) (x : Nat) : (ringCells s h n p).setIfInBounds 61 (.int .i64 x) = ringCells s x n p := by
  apply Array.ext'; simp [ringCells, List.set_append, hs]
theorem ring_set_many (hs : s.length = 60) (x : Nat) : (ringCells s h n p).setIfInBounds 62 (.int .i64 x) = ringCells s h x p := by
  apply Array.ext'; simp [ringCells, List.set_append, hs]
theorem ring_set_place (hs : s.length = 60) (x : Nat) : (ringCells s h n p).setIfInBounds 63 (.int .i64 x) = ringCells s h n x := by
  apply Array.ext'; simp [ringCells, List.set_append, hs]
theorem ring_set_slot (hs : s.length = 60) {i : Nat} (hi : i < 60) (v : Value) : (ringCells s h n p).setIfInBounds (1 + i) v = ringCells (s.set i v) h n p := by
  apply Array.ext'; simp [ringCells, Nat.add_comm 1 i, List.set_append, hs, hi]
end

/-- What the slots hold: entry i stands i places behind the head. -/
def Slots (I : Hp) (s : List Value) (h : Nat) (E : List (List Int)) : Prop := ∀ i, i < E.length → ImmI I .i32 (s.getD ((h + i) % 60) undef) (E.getD i [])
def slotsHP (s : List Value) (h : Nat) (E : List (List Int)) : HP := know (fun I => Slots I s h E) fun _ _ hl hk i hi => (hk i hi).mono hl
/-- A ring at p: its entries, the newest first; its place. -/
def RingRep (p : Nat) (E : List (List Int)) (place : Nat) : HP := exHP fun (x : List Value × Nat) =>
  fact (x.1.length = 60 ∧ x.2 < 60 ∧ E.length ≤ 60 ∧ (place < E.length ∨ place = 0) ∧ (∀ e ∈ E, e.length ≤ 1024) ∧ ∀ v ∈ x.1, v.oneCell' = true) • blk p (.cells (ringCells x.1 x.2 E.length place) 98 (0, 0)) • slotsHP x.1 x.2 E

section
variable {w0 w : World} {F : HP} {p place : Nat} {E : List (List Int)}
theorem Holds.ring (H : Holds w0 w (RingRep p E place • F)) : ∃ s h, s.length = 60 ∧ h < 60 ∧ E.length ≤ 60 ∧ (place < E.length ∨ place = 0) ∧ (∀ e ∈ E, e.length ≤ 1024) ∧ (∀ v ∈ s, v.oneCell' = true) ∧ Holds w0 w (blk p (.cells (ringCells s h E.length place) 98 (0, 0)) • slotsHP s h E • F) := by
  obtain ⟨⟨s, h⟩, H⟩ := H.ex_sep
  obtain ⟨⟨h1, h2, h3, h4, h5, h6⟩, H⟩ := H.flat.fact
  exact ⟨s, h, h1, h2, h3, h4, h5, h6, H.flat⟩
theorem Holds.mk_ring {s : List Value} {h : Nat} (h1 : s.length = 60) (h2 : h < 60) (h3 : E.length ≤ 60) (h4 : place < E.length ∨ place = 0) (h5 : ∀ e ∈ E, e.length ≤ 1024) (h6 : ∀ v ∈ s, v.oneCell' = true) (H : Holds w0 w (blk p (.cells (ringCells s h E.length place) 98 (0, 0)) • slotsHP s h E • F)) : Holds w0 w (RingRep p E place • F) :=
  Holds.mk_ex_sep (s, h) (Holds.deep (Holds.mk_fact ⟨h1, h2, h3, h4, h5, h6⟩ H.deep))

theorem ring_new_ret (H : Holds w0 w F) : Ret Try.prog 21 #[] w fun v w' => ∃ p, v = .pointer (some ⟨p, 0, none⟩) ∧ Holds w0 w' (RingRep p [] 0 • F) := by
  refine ret_enter Try.func21 rfl Try.ntmps21 (Nat.le_of_ble_eq_true rfl) ?_
  dsimp only [slots0, Nat.reduceAdd]
  refine wc_seq ?_
  refine wc_region ?_
  refine wl_val (r_assign rfl) (ltn rfl) ?_
  refine wl_nil ?_
  refine wq_seq ?_
  refine wc_seq ?_
  refine wc_region ?_
  refine wl_val (r_build (pl := #[(0, 1), (1, 60), (61, 1), (62, 1), (63, 1)]) (ringCells (List.replicate 60 (.slice none 0 0)) 0 0 0) Try.underlying98 Try.zeroValue98 (fun w => by kernel_rfl) rfl (by kernel_rfl)) (ltn rfl) ?_
  refine wl_eff (e_box H rfl) (ltn rfl) ?_
  rintro _ w1 ⟨b1, rfl, H1⟩
  refine wl_val (r_assign rfl) (ltn rfl) ?_
  refine wl_nil ?_
  refine wq_seq ?_
  refine wc_ret ?_
  refine wq_end1 (.inl rfl) Try.results21 rfl ?_
  refine ⟨b1, rfl, Holds.mk_ring (s := List.replicate 60 (.slice none 0 0)) (h := 0) (by simp) (by omega) (by simp) (.inr rfl) (by simp) (by intro v hv; rw [List.eq_of_mem_replicate hv]; rfl) ?_⟩
  exact Holds.swap (Holds.mk_know (fun I i hi => by simp at hi) H1)
theorem ring_none_ret (t : TypeId) {cs : Array Value} {fr : Nat × Nat} {m : Bool} (hb : w.heap[p]? = some (.cells cs t fr)) (h0 : cs[0]? = some (.bool m)) :
    Ret Try.prog 75 #[.pointer (some ⟨p, 0, none⟩)] w fun v w' => v = .bool (!m) ∧ w = w' := by
  refine ret_enter Try.func75 rfl Try.ntmps75 (Nat.le_of_ble_eq_true rfl) ?_
  dsimp only [slots0, Nat.reduceAdd]
  refine wc_seq ?_
  refine wc_region ?_
  refine wl_val (r_assign rfl) (ltn rfl) ?_
  refine wl_nil ?_
  refine wq_seq ?_
  refine wc_seq ?_
  refine wc_region ?_
  refine wl_val (r_move rfl) (ltn rfl) ?_
  refine wl_val (r_ptr_nil Try.underlying62 rfl rfl) (ltn rfl) ?_
  refine wl_split rfl (ltn rfl) (fun h => by exfalso; (try simp only [cmpS] at h); simp at h) (fun h1 => ?_)
  (try simp only [cmpS] at h1)
  refine wl_yes rfl rfl ?_
  refine wl_val (r_move rfl) (ltn rfl) ?_
  refine wl_yes rfl rfl ?_
  refine wl_val (r_nil rfl) (ltn rfl) ?_
  refine wl_yes rfl rfl ?_
  refine wl_val (r_fieldA 0 Try.underlying98 rfl rfl Try.sizeOf4 (by decide) rfl (by first | exact Nat.zero_add _ | rfl)) (ltn rfl) ?_
  refine wl_yes rfl rfl ?_
  refine wl_val (r_load (plain_of Try.underlying4 rfl) rfl (cell_of_blk hb h0)) (ltn rfl) ?_
  refine wl_yes rfl rfl ?_
  refine wl_val (r_not rfl) (ltn rfl) ?_
  refine wl_val (r_pick_f rfl rfl) (ltn rfl) ?_
  refine wl_val (r_assign rfl) (ltn rfl) ?_
  refine wl_nil ?_
  refine wq_seq ?_
  refine wc_ret ?_
  refine wq_end1 (.inl rfl) Try.results75 rfl ?_
  exact ⟨rfl, rfl⟩
theorem ring_none_nil : Ret Try.prog 75 #[.pointer none] w fun v w' => v = .bool true ∧ w = w' := by
  refine ret_enter Try.func75 rfl Try.ntmps75 (Nat.le_of_ble_eq_true rfl) ?_
  dsimp only [slots0, Nat.reduceAdd]
  refine wc_seq ?_
  refine wc_region ?_
  refine wl_val (r_assign rfl) (ltn rfl) ?_
  refine wl_nil ?_
  refine wq_seq ?_
  refine wc_seq ?_
  refine wc_region ?_
  refine wl_val (r_move rfl) (ltn rfl) ?_
  refine wl_val (r_ptr_nil Try.underlying62 rfl rfl) (ltn rfl) ?_
  refine wl_split rfl (ltn rfl) (fun h1 => ?_) (fun h => by exfalso; (try simp only [cmpS] at h); simp at h)
  (try simp only [cmpS] at h1)
  refine wl_no rfl rfl rfl (ltn rfl) ?_
  refine wl_no rfl rfl rfl (ltn rfl) ?_
  refine wl_no rfl rfl rfl (ltn rfl) ?_
  refine wl_no rfl rfl rfl (ltn rfl) ?_
  refine wl_no rfl rfl rfl (ltn rfl) ?_
  refine wl_val (r_pick_t rfl rfl) (ltn rfl) ?_
  refine wl_val (r_assign rfl) (ltn rfl) ?_
  refine wl_nil ?_
  refine wq_seq ?_
  refine wc_ret ?_
  refine wq_end1 (.inl rfl) Try.results75 rfl ?_
  exact ⟨rfl, rfl⟩

theorem Holds.slots_rd {s : List Value} {h i : Nat} (H : Holds w0 w (slotsHP s h E • F)) (hi : i < E.length) : RdI w .i32 (s.getD ((h + i) % 60) undef) (E.getD i []) := let ⟨I, k, hI⟩ := H.of_know; (k i hi).rd hI

theorem ring_at_ret {s : List Value} {h n m : Nat} {t : TypeId} {fr : Nat × Nat} {k : Nat} (hs : s.length = 60) (hh : h < 60) (hk : k < 60) (hb : w.heap[p]? = some (.cells (ringCells s h n m) t fr)) :
    Ret Try.prog 84 #[.pointer (some ⟨p, 0, none⟩), .int .i64 k] w fun v w' => v = s.getD ((h + k) % 60) undef ∧ Drew w w' := by
  refine ret_enter Try.func84 rfl Try.ntmps84 (Nat.le_of_ble_eq_true rfl) ?_
  dsimp only [slots0, Nat.reduceAdd]
  refine wc_seq ?_
  refine wc_region ?_
  refine wl_val (r_assign rfl) (ltn rfl) ?_
  refine wl_nil ?_
  refine wq_seq ?_
  refine wc_seq ?_
  refine wd_begin (n := 13) [0, 1, 2, 3, 4, 5, 6, 7, 8, 9, 10, 11, 12] (fun W => W.heap = w.heap) (by kernel_rfl) (by kernel_rfl) rfl ?_
  have hS0 : (fun W => W.heap = w.heap) (w.drew) := rfl
  refine wd_takeT 0 rfl (by kernel_rfl) (by kernel_rfl) hS0 (fun _ => r_move rfl) (ltn rfl) ?_
  refine wd_takeT 1 rfl (by kernel_rfl) (by kernel_rfl) hS0 (fun _ => r_move rfl) (ltn rfl) ?_
  refine wd_takeT 2 rfl (by kernel_rfl) (by kernel_rfl) hS0 (fun _ => r_nil rfl) (ltn rfl) ?_
  refine wd_takeT 3 rfl (by kernel_rfl) (by kernel_rfl) hS0 (fun _ => r_fieldA 61 Try.underlying98 rfl rfl Try.sizeOf3 (by decide) rfl (by first | exact Nat.zero_add _ | rfl)) (ltn rfl) ?_
  refine wd_take 4 rfl (by kernel_rfl) (by kernel_rfl) hS0 (by decide) (fun W hW => r_load (plain_of Try.underlying3 rfl) rfl (cell_of_blk (by rw [hW]; exact hb) (ring_head hs))) (ltn rfl) ?_
  refine wd_takeT 5 rfl (by kernel_rfl) (by kernel_rfl) hS0 (fun _ => r_move rfl) (ltn rfl) ?_
  refine wd_takeT 6 rfl (by kernel_rfl) (by kernel_rfl) hS0 (fun _ => r_add rfl rfl (by omega)) (ltn rfl) ?_
  refine wd_takeT 7 rfl (by kernel_rfl) (by kernel_rfl) hS0 (fun _ => r_rem rfl rfl (by omega) (by  omega)) (ltn rfl) ?_
  refine wd_takeT 8 rfl (by kernel_rfl) (by kernel_rfl) hS0 (fun _ => r_nil rfl) (ltn rfl) ?_
  refine wd_takeT 9 rfl (by kernel_rfl) (by kernel_rfl) hS0 (fun _ => r_fieldA 1 Try.underlying98 rfl rfl Try.sizeOf96 (by decide) rfl (by first | exact Nat.zero_add _ | rfl)) (ltn rfl) ?_
  refine wd_takeT 10 rfl (by kernel_rfl) (by kernel_rfl) hS0 (fun _ => r_index_arr Try.underlying96 Try.sizeOf22 rfl rfl (by omega)) (ltn rfl) ?_
  refine wd_take 11 rfl (by kernel_rfl) (by kernel_rfl) hS0 (by decide) (fun W hW => r_load (plain_of Try.underlying22 rfl) rfl (cell_of_blk (by rw [hW]; exact hb) (by rw [show (1 + (((h : Int) + (k : Int)) % 60).toNat * 1) = 1 + (h + k) % 60 from by omega]; exact ring_slot hs (by omega)))) (ltn rfl) ?_
  refine wd_takeT 12 rfl (by kernel_rfl) (by kernel_rfl) hS0 (fun _ => r_assign rfl) (ltn rfl) ?_
  refine wd_done (by kernel_rfl) ?_
  refine wq_seq ?_
  refine wc_ret ?_
  refine wq_end1 (.inl rfl) Try.results84 rfl ?_
  exact ⟨rfl, ⟨1, rfl⟩⟩

theorem ring_len_ret (H : Holds w0 w (RingRep p E place • F)) : Ret Try.prog 68 #[.pointer (some ⟨p, 0, none⟩)] w fun v w' => v = .int .i64 E.length ∧ w = w' := by
  obtain ⟨s, h, hs, hh, hE, hp, hm, ho, H1⟩ := H.ring
  have hb := H1.get.2
  refine ret_enter Try.func68 rfl Try.ntmps68 (Nat.le_of_ble_eq_true rfl) ?_
  dsimp only [slots0, Nat.reduceAdd]
  refine wc_seq ?_
  refine wc_region ?_
  refine wl_val (r_assign rfl) (ltn rfl) ?_
  refine wl_nil ?_
  refine wq_seq ?_
  refine wc_seq ?_
  refine wc_seq ?_
  refine wc_region ?_
  refine wl_val (r_move rfl) (ltn rfl) ?_
  refine wl_eff (e_call (r_call rfl Try.func75 rfl rfl) (ring_none_ret _ hb ring_0)) (ltn rfl) ?_
  rintro _ _ ⟨rfl, rfl⟩
  refine wl_nil ?_
  refine wq_seq ?_
  refine wc_cond_f rfl ?_
  refine wc_skip ?_
  refine wq_seq ?_
  refine wc_seq ?_
  refine wc_region ?_
  refine wl_val (r_move rfl) (ltn rfl) ?_
  refine wl_val (r_nil rfl) (ltn rfl) ?_
  refine wl_val (r_fieldA 62 Try.underlying98 rfl rfl Try.sizeOf3 (by decide) rfl (by first | exact Nat.zero_add _ | rfl)) (ltn rfl) ?_
  refine wl_val (r_load (plain_of Try.underlying3 rfl) rfl (cell_of_blk hb (ring_many hs))) (ltn rfl) ?_
  refine wl_val (r_assign rfl) (ltn rfl) ?_
  refine wl_nil ?_
  refine wq_seq ?_
  refine wc_ret ?_
  refine wq_end1 (.inl rfl) Try.results68 rfl ?_
  exact ⟨rfl, rfl⟩

theorem set_one {s : List Value} {u : Value} {i : Nat} (h : ∀ v ∈ s, v.oneCell' = true) (hu : u.oneCell' = true) : ∀ v ∈ s.set i u, v.oneCell' = true := by
  intro v hv
  rcases List.mem_or_eq_of_mem_set hv with hv | rfl
  · exact h v hv
  · exact hu
theorem slots_push {I : Hp} {s : List Value} {h : Nat} {l : List Int} {v : Value} (hs : s.length = 60) (hh : h < 60) (hE : E.length ≤ 60) (hS : Slots I s h E) (hv : ImmI I .i32 v l) :
    Slots I (s.set ((h + 59) % 60) v) ((h + 59) % 60) ((l :: E).take 60) := by
  intro i hi
  have hi60 : i < 60 ∧ i < E.length + 1 := by simp at hi; omega
  rw [List.getD_eq_getElem?_getD (l := (l :: E).take 60), List.getElem?_take, if_pos (by omega)]
  cases i with
  | zero =>
    have e : ((h + 59) % 60 + 0) % 60 = (h + 59) % 60 := by omega
    rw [e, List.getD_eq_getElem?_getD, List.getElem?_set_self (by omega)]
    exact hv
  | succ i =>
    have e : ((h + 59) % 60 + (i + 1)) % 60 = (h + i) % 60 := by omega
    have hne : ¬ (h + 59) % 60 = (h + i) % 60 := by omega
    rw [e, List.getD_eq_getElem?_getD, List.getElem?_set_ne hne, ← List.getD_eq_getElem?_getD]
    have := hS i (by omega)
    simpa [List.getD_eq_getElem?_getD] using this

theorem ring_push_ret {v : Value} {l : List Int} (H : Holds w0 w (RingRep p E place • F)) (hr : FRdI w0 F .i32 v l) (hl : l.length ≤ 1024) :
    Ret Try.prog 86 #[.pointer (some ⟨p, 0, none⟩), v] w fun _ w' => Holds w0 w' (RingRep p ((l :: E).take 60) 0 • F) := by
  obtain ⟨s, h, hs, hh, hE, hp, hm, ho, H⟩ := H.ring
  have hh' : (h + 59) % 60 < 60 := by omega
  refine ret_enter Try.func86 rfl Try.ntmps86 (Nat.le_of_ble_eq_true rfl) ?_
  dsimp only [slots0, Nat.reduceAdd]
  refine wc_seq ?_
  refine wc_region ?_
  refine wl_val (r_move rfl) (ltn rfl) ?_
  refine wl_val (r_move rfl) (ltn rfl) ?_
  refine wl_val (r_nil rfl) (ltn rfl) ?_
  refine wl_val (r_fieldA 61 Try.underlying98 rfl rfl Try.sizeOf3 (by decide) rfl (by first | exact Nat.zero_add _ | rfl)) (ltn rfl) ?_
  refine wl_val (r_load (plain_of Try.underlying3 rfl) rfl (cell_of_blk H.get.2 (ring_head hs))) (ltn rfl) ?_
  refine wl_val (r_add rfl rfl (by omega)) (ltn rfl) ?_
  refine wl_val (r_sub rfl rfl (by omega)) (ltn rfl) ?_
  refine wl_val (r_rem rfl rfl (by omega) (by  omega)) (ltn rfl) ?_
  refine wl_val (r_nil rfl) (ltn rfl) ?_
  refine wl_val (r_fieldA 61 Try.underlying98 rfl rfl Try.sizeOf3 (by decide) rfl (by first | exact Nat.zero_add _ | rfl)) (ltn rfl) ?_
  refine wl_eff0 (e_store H Try.sizeOf3 rfl rfl rfl (by rw [ring_size hs]; decide)) ?_
  rintro _ w1 H1
  rw [show (((h : Int) + 60 - 1) % 60) = (((h + 59) % 60 : Nat) : Int) from by omega, ring_set_head hs] at H1
  refine wl_nil ?_
  refine wq_seq ?_
  refine wc_seq ?_
  refine wd_begin (n := 11) [0, 1, 2, 3, 4, 5, 6, 7, 8, 9, 10] (fun W => W.heap[p]? = some (.cells (ringCells s ((h + 59) % 60) E.length place) 98 (0, 0))) (by kernel_rfl) (by kernel_rfl) rfl ?_
  have hS0 : (fun W => W.heap[p]? = some (.cells (ringCells s ((h + 59) % 60) E.length place) 98 (0, 0))) (w1.drew) := H1.get.2
  have H1d := H1.drew
  refine wd_takeT 0 rfl (by kernel_rfl) (by kernel_rfl) hS0 (fun _ => r_move rfl) (ltn rfl) ?_
  refine wd_takeT 1 rfl (by kernel_rfl) (by kernel_rfl) hS0 (fun _ => r_move rfl) (ltn rfl) ?_
  refine wd_takeT 2 rfl (by kernel_rfl) (by kernel_rfl) hS0 (fun _ => r_nil rfl) (ltn rfl) ?_
  refine wd_takeT 3 rfl (by kernel_rfl) (by kernel_rfl) hS0 (fun _ => r_fieldA 61 Try.underlying98 rfl rfl Try.sizeOf3 (by decide) rfl (by first | exact Nat.zero_add _ | rfl)) (ltn rfl) ?_
  refine wd_take 4 rfl (by kernel_rfl) (by kernel_rfl) hS0 (by decide) (fun W hW => r_load (plain_of Try.underlying3 rfl) rfl (cell_of_blk hW (ring_head hs))) (ltn rfl) ?_
  refine wd_takeT 5 rfl (by kernel_rfl) (by kernel_rfl) hS0 (fun _ => r_move rfl) (ltn rfl) ?_
  refine wd_takeT 7 rfl (by kernel_rfl) (by kernel_rfl) hS0 (fun _ => r_nil rfl) (ltn rfl) ?_
  refine wd_takeT 8 rfl (by kernel_rfl) (by kernel_rfl) hS0 (fun _ => r_fieldA 1 Try.underlying98 rfl rfl Try.sizeOf96 (by decide) rfl (by first | exact Nat.zero_add _ | rfl)) (ltn rfl) ?_
  refine wd_eff 6 rfl (by kernel_rfl) (e_call (r_call rfl Try.func12 rfl rfl) (clone_ret H1d hr.under.under (by omega))) (ltn rfl) ?_
  rintro u w2 H2
  have hS2 : (fun W => W.heap[p]? = some (.cells (ringCells s ((h + 59) % 60) E.length place) 98 (0, 0))) w2 := H2.swap.get.2
  refine keepS hS2 ?_
  refine wd_takeT 9 rfl (by kernel_rfl) (by kernel_rfl) hS2 (fun _ => r_index_arr Try.underlying96 Try.sizeOf22 rfl rfl (by omega)) (ltn rfl) ?_
  refine wd_eff0 10 rfl (by kernel_rfl) (e_store H2.swap Try.sizeOf22 rfl rfl H2.row_rd.one (by rw [ring_size hs]; omega)) ?_
  rintro _ w3 H3
  rw [show (1 + ((((h + 59) % 60 : Nat) : Int)).toNat * 1) = 1 + (h + 59) % 60 from by omega, ring_set_slot hs hh'] at H3
  have hs' : (s.set ((h + 59) % 60) u).length = 60 := by simp [hs]
  have ho' := set_one ho (u := u) (i := (h + 59) % 60) H2.row_rd.one
  refine keepE (by kernel_rfl) ?_
  refine wd_done (by kernel_rfl) ?_
  refine wq_seq ?_
  refine wc_seq ?_
  refine wc_region ?_
  refine wl_val (r_move rfl) (ltn rfl) ?_
  refine wl_val (r_move rfl) (ltn rfl) ?_
  refine wl_val (r_nil rfl) (ltn rfl) ?_
  refine wl_val (r_fieldA 62 Try.underlying98 rfl rfl Try.sizeOf3 (by decide) rfl (by first | exact Nat.zero_add _ | rfl)) (ltn rfl) ?_
  refine wl_val (r_load (plain_of Try.underlying3 rfl) rfl (cell_of_blk H3.get.2 (ring_many hs'))) (ltn rfl) ?_
  refine wl_val (r_add rfl rfl (by omega)) (ltn rfl) ?_
  refine wl_val (r_min rfl rfl) (ltn rfl) ?_
  refine wl_val (r_nil rfl) (ltn rfl) ?_
  refine wl_val (r_fieldA 62 Try.underlying98 rfl rfl Try.sizeOf3 (by decide) rfl (by first | exact Nat.zero_add _ | rfl)) (ltn rfl) ?_
  refine wl_eff0 (e_store H3 Try.sizeOf3 rfl rfl rfl (by rw [ring_size hs']; decide)) ?_
  rintro _ w4 H4
  rw [show min ((E.length : Int) + 1) 60 = ((min (E.length + 1) 60 : Nat) : Int) from by omega, ring_set_many hs'] at H4
  refine wl_nil ?_
  refine wq_seq ?_
  refine wc_region ?_
  refine wl_val (r_move rfl) (ltn rfl) ?_
  refine wl_val (r_nil rfl) (ltn rfl) ?_
  refine wl_val (r_fieldA 63 Try.underlying98 rfl rfl Try.sizeOf3 (by decide) rfl (by first | exact Nat.zero_add _ | rfl)) (ltn rfl) ?_
  refine wl_eff0 (e_store H4 Try.sizeOf3 rfl rfl rfl (by rw [ring_size hs']; decide)) ?_
  rintro _ w5 H5
  rw [show (Value.int .i64 0) = .int .i64 ((0 : Nat) : Int) from rfl, ring_set_place hs'] at H5
  refine wl_nil ?_
  refine wq_end0 (.inr rfl) Try.results86 ?_
  have hlen : ((l :: E).take 60).length = min (E.length + 1) 60 := by simp; omega
  refine Holds.mk_ring hs' hh' (by omega) (.inr rfl) ?_ ho' ?_
  · intro e he
    rcases List.mem_cons.1 (List.mem_of_mem_take he) with rfl | he
    · exact hl
    · exact hm e he
  · rw [hlen]
    exact (H5.swap.freezeI.rot.ent (know_two (fun I a b => slots_push hs hh hE a b) _)).swap
end
end Go.Proofs.Ytgmpclifphbjkaa
end
