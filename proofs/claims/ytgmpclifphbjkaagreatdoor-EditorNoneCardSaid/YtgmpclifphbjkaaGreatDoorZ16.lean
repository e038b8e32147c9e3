import Derived.Test.YtgmpclifphbjkaaGreatDoorZ15
/- Texts of mine, joined: EdE. -/
section
/- Editors: End. -/
set_option linter.unusedSimpArgs false
set_option linter.unusedVariables false
namespace Go.Proofs.YtgmpclifphbjkaaGreatDoor
open Go.RowKit
theorem flushS_run (s : EdS) (on : Bool) : (s.flushS on).c.run = s.c.run := by unfold EdS.flushS; split <;> rfl
theorem flushS_cls (s : EdS) (on : Bool) : (s.flushS on).cls = s.cls := by unfold EdS.flushS; split <;> rfl
theorem endGood_eq {s s1 : EdS} {on run : Bool} (h1 : s1 = s.endArg) (hon : (s.typed && s.c.run) = on) (hrun : (s.typed && (!s.put.isEmpty || s.c.run)) = run) (h2 : (s1.flushS on).cls ≠ 2) :
    s.endGood = { s1.flushS on with c := { (s1.flushS on).c with run := run, last := (s1.flushS on).cls, fr := 0, to := 0 } } := by
  subst h1 hon hrun
  have hc : (s.endArg.flushS (s.typed && s.c.run)).cls = s.cls := by rw [flushS_cls]; unfold EdS.endArg; split <;> rfl
  unfold EdS.endGood
  rw [hc] at h2 ⊢
  dsimp only
  rw [if_pos h2]
theorem endGood_eq2 {s s1 : EdS} {on run : Bool} (h1 : s1 = s.endArg) (hon : (s.typed && s.c.run) = on) (hrun : (s.typed && (!s.put.isEmpty || s.c.run)) = run) (h2 : (s1.flushS on).cls = 2) :
    s.endGood = { s1.flushS on with c := { (s1.flushS on).c with run := run, last := (s1.flushS on).cls } } := by
  subst h1 hon hrun
  have hc : (s.endArg.flushS (s.typed && s.c.run)).cls = s.cls := by rw [flushS_cls]; unfold EdS.endArg; split <;> rfl
  unfold EdS.endGood
  rw [hc] at h2 ⊢
  dsimp only
  rw [if_neg (by omega)]
theorem endArg_ok {s : EdS} (h : EdSOk s) : EdSOk s.endArg := by
  obtain ⟨h1, h2, h3, h4, h5, h6⟩ := h
  unfold EdS.endArg
  split
  · exact ⟨h1, fun h => Bool.noConfusion h, h3, h4, h5, h6⟩
  · exact ⟨h1, fun h => Bool.noConfusion h, ⟨by show (-1 : Int) ≤ -1; decide, by show (-1 : Int) ≤ 1000000; decide⟩, h4, h5, h6⟩
theorem put_empty {l : List EdA} : l.isEmpty = decide (l.length = 0) := by cases l <;> rfl
section
variable {w0 w : World} {F : HP} {e p : Nat} {s : EdS} {x : Int}
theorem ed_end_good (hin : s.inn = true) (H : Holds w0 w (EdRep e s • F)) : Ret Tryz.prog 13 #[.pointer (some ⟨e, 0, none⟩), .int .i64 0] w fun v w' => v = .int .i64 0 ∧ Holds w0 w' (EdRep e s.endGood • F) := by
  have hpe : s.partE = 0 := by unfold EdS.partE; rw [if_pos hin]
  refine ret_enter Tryz.func13 rfl Tryz.ntmps13 (Nat.le_of_ble_eq_true rfl) ?_
  dsimp only [slots0, Nat.reduceAdd]
  refine wc_seq ?_
  refine wc_region ?_
  refine wl_val (r_assign rfl) (ltn rfl) ?_
  refine wl_nil ?_
  refine wq_seq ?_
  refine wc_seq ?_
  refine wc_seq ?_
  refine wc_region ?_
  refine wl_val (r_move rfl) (ltn rfl) ?_
  refine wl_eff (e_call (r_call rfl Tryz.func51 rfl rfl) (ed_part_ret H)) (ltn rfl) ?_
  rintro _ _ ⟨rfl, rfl⟩
  refine wl_val (r_assign rfl) (ltn rfl) ?_
  refine wl_nil ?_
  refine wq_seq ?_
  refine wc_seq ?_
  refine wc_region ?_
  refine wl_val (r_move rfl) (ltn rfl) ?_
  refine wl_val (r_neq rfl rfl) (ltn rfl) ?_
  refine wl_nil ?_
  refine wq_seq ?_
  refine wc_cond rfl (fun h => by exfalso; (try simp only [cmpS] at h); exact h hpe) (fun h1 => ?_)
  (try simp only [cmpS] at h1)
  refine wc_skip ?_
  refine wq_seq ?_
  refine wc_seq ?_
  obtain ⟨pb_e, pr_e, pw_e, pt_e, pm_e, ph_e, bl_e, pv_e, es_e, u0_e, u1_e, u2_e, u3_e, u4_e, u5_e, u6_e, u7_e, u8_e, u9_e, ua_e, ok_e, says_e, plen_e, HE_e⟩ := (H).edO
  refine wc_region ?_
  refine wl_val (r_move rfl) (ltn rfl) ?_
  refine wl_val (r_nil rfl) (ltn rfl) ?_
  refine wl_val (r_fieldA 16 Tryz.underlying66 rfl rfl Tryz.sizeOf4 (by decide) rfl (by first | exact Nat.zero_add _ | rfl)) (ltn rfl) ?_
  refine wl_eff0 (e_storeL 16 (l' := [_, _, _, _, _, _, _, _, _, _, _, _, _, _, _, _, _, _, _, _, _, _, _, _, _, _, _, _, _, _, _, _, _, _]) HE_e Tryz.sizeOf4 rfl rfl (by first | rfl | assumption) rfl rfl) ?_
  rintro _ w3 H3
  refine wl_nil ?_
  refine wq_seq ?_
  refine wc_seq ?_
  refine wc_seq ?_
  refine wc_region ?_
  refine wl_val (r_move rfl) (ltn rfl) ?_
  refine wl_val (r_nil rfl) (ltn rfl) ?_
  refine wl_val (r_fieldA 31 Tryz.underlying66 rfl rfl Tryz.sizeOf4 (by decide) rfl (by first | exact Nat.zero_add _ | rfl)) (ltn rfl) ?_
  refine wl_val (r_load (plain_of Tryz.underlying4 rfl) rfl (cell_of_blk (H3).get.2 rfl)) (ltn rfl) ?_
  refine wl_val (r_not rfl) (ltn rfl) ?_
  refine wl_split rfl (ltn rfl) (fun h2 => ?_) (fun h2 => ?_)
  · (try simp only [cmpS] at h2)
    have har : s.argues = false := by simpa using h2
    have hs1 : ({ s.noArg with inn := false } : EdS) = s.endArg := by unfold EdS.endArg; rw [if_neg (by simp [har])]
    refine wl_no rfl rfl rfl (ltn rfl) ?_
    refine wl_no rfl rfl rfl (ltn rfl) ?_
    refine wl_val (r_pick_t rfl rfl) (ltn rfl) ?_
    refine wl_nil ?_
    refine wq_seq ?_
    refine wc_cond_t rfl ?_
    refine wc_region ?_
    refine wl_val (r_move rfl) (ltn rfl) ?_
    refine wl_val (r_move rfl) (ltn rfl) ?_
    refine wl_val (r_move rfl) (ltn rfl) ?_
    refine wl_val (r_nil rfl) (ltn rfl) ?_
    refine wl_val (r_fieldA 13 Tryz.underlying66 rfl rfl Tryz.sizeOf4 (by decide) rfl (by first | exact Nat.zero_add _ | rfl)) (ltn rfl) ?_
    refine wl_eff0 (e_storeL 13 (l' := [_, _, _, _, _, _, _, _, _, _, _, _, _, _, _, _, _, _, _, _, _, _, _, _, _, _, _, _, _, _, _, _, _, _]) H3 Tryz.sizeOf4 rfl rfl (by first | rfl | assumption) rfl rfl) ?_
    rintro _ w4 H4
    refine wl_val (r_nil rfl) (ltn rfl) ?_
    refine wl_val (r_fieldA 14 Tryz.underlying66 rfl rfl Tryz.sizeOf4 (by decide) rfl (by first | exact Nat.zero_add _ | rfl)) (ltn rfl) ?_
    refine wl_eff0 (e_storeL 14 (l' := [_, _, _, _, _, _, _, _, _, _, _, _, _, _, _, _, _, _, _, _, _, _, _, _, _, _, _, _, _, _, _, _, _, _]) H4 Tryz.sizeOf4 rfl rfl (by first | rfl | assumption) rfl rfl) ?_
    rintro _ w5 H5
    refine wl_val (r_nil rfl) (ltn rfl) ?_
    refine wl_val (r_fieldA 15 Tryz.underlying66 rfl rfl Tryz.sizeOf3 (by decide) rfl (by first | exact Nat.zero_add _ | rfl)) (ltn rfl) ?_
    refine wl_eff0 (e_storeL 15 (l' := [_, _, _, _, _, _, _, _, _, _, _, _, _, _, _, _, _, _, _, _, _, _, _, _, _, _, _, _, _, _, _, _, _, _]) H5 Tryz.sizeOf3 rfl rfl (by first | rfl | assumption) rfl rfl) ?_
    rintro _ w6 H6
    refine wl_nil ?_
    refine wq_seq ?_
    refine wc_seq ?_
    refine wc_seq ?_
    refine wc_region ?_
    refine wl_val (r_move rfl) (ltn rfl) ?_
    refine wl_val (r_neq rfl rfl) (ltn rfl) ?_
    refine wl_nil ?_
    refine wq_seq ?_
    refine wc_cond rfl (fun h => by exfalso; (try simp only [cmpS] at h); simp at h) (fun h3 => ?_)
    (try simp only [cmpS] at h3)
    refine wc_skip ?_
    refine wq_seq ?_
    refine wc_seq ?_
    have H12d6 := H6.drew
    have hS12d6 := Holds.kp (H12d6.f11.f11.f11.f11.f11.f11.f11.f11.f11.f11.f11)
    refine wd_beginK [3, 9, 14] hS12d6 (by kernel_rfl) (by kernel_rfl) rfl ?_
    refine wd_takeT 0 rfl (by kernel_rfl) (by kernel_rfl) hS12d6 (fun _ => r_move rfl) (ltn rfl) ?_
    refine wd_takeT 1 rfl (by kernel_rfl) (by kernel_rfl) hS12d6 (fun _ => r_nil rfl) (ltn rfl) ?_
    refine wd_takeT 2 rfl (by kernel_rfl) (by kernel_rfl) hS12d6 (fun _ => r_fieldA 28 Tryz.underlying66 rfl rfl Tryz.sizeOf3 (by decide) rfl (by first | exact Nat.zero_add _ | rfl)) (ltn rfl) ?_
    refine wd_take 3 rfl (by kernel_rfl) (by kernel_rfl) hS12d6 (by decide) (fun W hW => r_load (plain_of Tryz.underlying3 rfl) rfl (cell_of_blk ((Kp.h hW)).get.2 rfl)) (ltn rfl) ?_
    refine wd_takeT 4 rfl (by kernel_rfl) (by kernel_rfl) hS12d6 (fun _ => r_eql rfl rfl) (ltn rfl) ?_
    refine wd_split 5 rfl rfl (by kernel_rfl) (by kernel_rfl) hS12d6 (ltn rfl) (fun h4 => ?_) (fun h4 => ?_)
    · (try simp only [cmpS] at h4)
      have hc3 : s.cls = 3 := h4
      refine wd_takeT_yes 6 rfl rfl rfl (by kernel_rfl) (by kernel_rfl) hS12d6 (fun _ => r_move rfl) (ltn rfl) ?_
      refine wd_takeT_yes 7 rfl rfl rfl (by kernel_rfl) (by kernel_rfl) hS12d6 (fun _ => r_nil rfl) (ltn rfl) ?_
      refine wd_takeT_yes 8 rfl rfl rfl (by kernel_rfl) (by kernel_rfl) hS12d6 (fun _ => r_fieldA 32 Tryz.underlying66 rfl rfl Tryz.sizeOf4 (by decide) rfl (by first | exact Nat.zero_add _ | rfl)) (ltn rfl) ?_
      refine wd_take_yes 9 rfl rfl rfl (by kernel_rfl) (by kernel_rfl) hS12d6 (by decide) (fun W hW => r_load (plain_of Tryz.underlying4 rfl) rfl (cell_of_blk ((Kp.h hW)).get.2 rfl)) (ltn rfl) ?_
      refine wd_takeT 10 rfl (by kernel_rfl) (by kernel_rfl) hS12d6 (fun _ => r_pick_t rfl rfl) (ltn rfl) ?_
      refine wd_takeT 11 rfl (by kernel_rfl) (by kernel_rfl) hS12d6 (fun _ => r_move rfl) (ltn rfl) ?_
      refine wd_takeT 12 rfl (by kernel_rfl) (by kernel_rfl) hS12d6 (fun _ => r_nil rfl) (ltn rfl) ?_
      refine wd_takeT 13 rfl (by kernel_rfl) (by kernel_rfl) hS12d6 (fun _ => r_fieldA 33 Tryz.underlying66 rfl rfl Tryz.sizeOf64 (by decide) rfl (by first | exact Nat.zero_add _ | rfl)) (ltn rfl) ?_
      refine wd_take 14 rfl (by kernel_rfl) (by kernel_rfl) hS12d6 (by decide) (fun W hW => r_load (plain_of Tryz.underlying64 rfl) rfl (cell_of_blk ((Kp.h hW)).get.2 rfl)) (ltn rfl) ?_
      refine wd_takeT 15 rfl (by kernel_rfl) (by kernel_rfl) hS12d6 (fun _ => r_lenS ((H12d6.f9).row_rd) Tryz.underlying64 rfl) (ltn rfl) ?_
      refine wd_takeT 16 rfl (by kernel_rfl) (by kernel_rfl) hS12d6 (fun _ => r_gtr rfl rfl) (ltn rfl) ?_
      refine wd_takeT 17 rfl (by kernel_rfl) (by kernel_rfl) hS12d6 (fun _ => r_assign rfl) (ltn rfl) ?_
      refine wd_takeT 18 rfl (by kernel_rfl) (by kernel_rfl) hS12d6 (fun _ => r_assign rfl) (ltn rfl) ?_
      refine wd_done (by kernel_rfl) ?_
      refine wq_seq ?_
      refine wc_seq ?_
      refine wc_region ?_
      refine wl_val (r_move rfl) (ltn rfl) ?_
      refine wl_val (r_move rfl) (ltn rfl) ?_
      refine wl_split rfl (ltn rfl) (fun h5 => ?_) (fun h5 => ?_)
      · (try simp only [cmpS] at h5)
        have hwh : s.whole = true := h5
        have hty : s.typed = true := by unfold EdS.typed; rw [hc3, hwh]; rfl
        refine wl_yes rfl rfl ?_
        refine wl_val (r_move rfl) (ltn rfl) ?_
        refine wl_yes rfl rfl ?_
        refine wl_val (r_nil rfl) (ltn rfl) ?_
        refine wl_yes rfl rfl ?_
        refine wl_val (r_fieldA 0 Tryz.underlying66 rfl rfl Tryz.sizeOf62 (by decide) rfl (by first | exact Nat.zero_add _ | rfl)) (ltn rfl) ?_
        refine wl_yes rfl rfl ?_
        refine wl_val (r_fieldA 10 Tryz.underlying62 rfl rfl Tryz.sizeOf4 (by decide) rfl (by first | exact Nat.zero_add _ | rfl)) (ltn rfl) ?_
        refine wl_yes rfl rfl ?_
        refine wl_val (r_load (plain_of Tryz.underlying4 rfl) rfl (cell_of_blk (H12d6).get.2 rfl)) (ltn rfl) ?_
        refine wl_val (r_pick_t rfl rfl) (ltn rfl) ?_
        have Hd7 := H12d6.f11.right
        have HW0 := Holds.was_no (c := s.was) (u := [u0_e, u1_e, u2_e, u3_e, u4_e, u5_e, u6_e, u7_e, u8_e, u9_e, ua_e]) Hd7
        obtain ⟨s1, hs1e, HS1⟩ : ∃ s1, s1 = s.endArg ∧ Holds w0 (w6.drew) (EdRep e s1 • F) := ⟨_, hs1, Holds.mk_ed (hs1 ▸ endArg_ok ok_e) says_e HW0.f11.f11.f11.f11.f11.f11.f11.f11.f11.f11⟩
        have hr1 : s1.c.run = s.c.run := by rw [hs1e]; unfold EdS.endArg; split <;> rfl
        refine wl_eff (e_call (r_call rfl Tryz.func53 rfl rfl) (ed_flush_ret HS1)) (ltn rfl) ?_
        rintro _ w8 H8
        obtain ⟨on, hon, HZ⟩ : ∃ on, (s.typed && s.c.run) = on ∧ Holds w0 w8 (EdRep e (s1.flushS on) • F) := ⟨_, by rw [hty]; rfl, H8⟩
        refine wl_nil ?_
        refine wq_seq ?_
        refine wc_seq ?_
        obtain ⟨pb_e, pr_e, pw_e, pt_e, pm_e, ph_e, bl_e, pv_e, es_e, u0_e, u1_e, u2_e, u3_e, u4_e, u5_e, u6_e, u7_e, u8_e, u9_e, ua_e, ok_e, says_e, plen_e, HE_e⟩ := (HZ).edO
        refine wc_region ?_
        refine wl_val (r_move rfl) (ltn rfl) ?_
        refine wl_val (r_move rfl) (ltn rfl) ?_
        refine wl_split rfl (ltn rfl) (fun h6 => ?_) (fun h6 => ?_)
        · (try simp only [cmpS] at h6)
          have hw2 : s.whole = true := h6
          refine wl_yes rfl rfl ?_
          refine wl_val (r_move rfl) (ltn rfl) ?_
          refine wl_yes rfl rfl ?_
          refine wl_split rfl (ltn rfl) (fun h7 => ?_) (fun h7 => ?_)
          · (try simp only [cmpS] at h7)
            have hrun : (s.typed && (!s.put.isEmpty || s.c.run)) = true := by first | exact absurd (hw2.symm.trans hwh) (by decide) | (rw [put_empty, decide_eq_false (show ¬ s.put.length = 0 by omega), hty]; rfl)
            refine wl_no rfl rfl rfl (ltn rfl) ?_
            refine wl_no rfl rfl rfl (ltn rfl) ?_
            refine wl_no rfl rfl rfl (ltn rfl) ?_
            refine wl_no rfl rfl rfl (ltn rfl) ?_
            refine wl_no rfl rfl rfl (ltn rfl) ?_
            refine wl_yes rfl rfl ?_
            refine wl_val (r_pick_t rfl rfl) (ltn rfl) ?_
            refine wl_val (r_pick_t rfl rfl) (ltn rfl) ?_
            refine wl_val (r_nil rfl) (ltn rfl) ?_
            refine wl_val (r_fieldA 0 Tryz.underlying66 rfl rfl Tryz.sizeOf62 (by decide) rfl (by first | exact Nat.zero_add _ | rfl)) (ltn rfl) ?_
            refine wl_val (r_fieldA 10 Tryz.underlying62 rfl rfl Tryz.sizeOf4 (by decide) rfl (by first | exact Nat.zero_add _ | rfl)) (ltn rfl) ?_
            refine wl_eff0 (e_storeL 10 (l' := [_, _, _, _, _, _, _, _, _, _, _, _, _, _, _, _, _, _, _, _, _, _, _, _, _, _, _, _, _, _, _, _, _, _]) HE_e Tryz.sizeOf4 rfl rfl (by first | rfl | assumption) rfl rfl) ?_
            rintro _ w10 H10
            refine wl_nil ?_
            refine wq_seq ?_
            refine wc_seq ?_
            refine wc_region ?_
            refine wl_val (r_move rfl) (ltn rfl) ?_
            refine wl_val (r_move rfl) (ltn rfl) ?_
            refine wl_val (r_nil rfl) (ltn rfl) ?_
            refine wl_val (r_fieldA 28 Tryz.underlying66 rfl rfl Tryz.sizeOf3 (by decide) rfl (by first | exact Nat.zero_add _ | rfl)) (ltn rfl) ?_
            refine wl_val (r_load (plain_of Tryz.underlying3 rfl) rfl (cell_of_blk (H10).get.2 rfl)) (ltn rfl) ?_
            refine wl_val (r_nil rfl) (ltn rfl) ?_
            refine wl_val (r_fieldA 0 Tryz.underlying66 rfl rfl Tryz.sizeOf62 (by decide) rfl (by first | exact Nat.zero_add _ | rfl)) (ltn rfl) ?_
            refine wl_val (r_fieldA 6 Tryz.underlying62 rfl rfl Tryz.sizeOf3 (by decide) rfl (by first | exact Nat.zero_add _ | rfl)) (ltn rfl) ?_
            refine wl_eff0 (e_storeL 6 (l' := [_, _, _, _, _, _, _, _, _, _, _, _, _, _, _, _, _, _, _, _, _, _, _, _, _, _, _, _, _, _, _, _, _, _]) H10 Tryz.sizeOf3 rfl rfl (by first | rfl | assumption) rfl rfl) ?_
            rintro _ w11 H11
            refine wl_nil ?_
            refine wq_seq ?_
            refine wc_seq ?_
            refine wc_seq ?_
            refine wc_region ?_
            refine wl_val (r_move rfl) (ltn rfl) ?_
            refine wl_val (r_nil rfl) (ltn rfl) ?_
            refine wl_val (r_fieldA 28 Tryz.underlying66 rfl rfl Tryz.sizeOf3 (by decide) rfl (by first | exact Nat.zero_add _ | rfl)) (ltn rfl) ?_
            refine wl_val (r_load (plain_of Tryz.underlying3 rfl) rfl (cell_of_blk (H11).get.2 rfl)) (ltn rfl) ?_
            refine wl_val (r_neq rfl rfl) (ltn rfl) ?_
            refine wl_nil ?_
            refine wq_seq ?_
            refine wc_cond rfl (fun h8 => ?_) (fun h8 => ?_)
            · (try simp only [cmpS] at h8)
              have hEG := endGood_eq hs1e hon hrun h8
              refine wc_region ?_
              refine wl_val (r_move rfl) (ltn rfl) ?_
              refine wl_val (r_move rfl) (ltn rfl) ?_
              refine wl_val (r_nil rfl) (ltn rfl) ?_
              refine wl_val (r_fieldA 0 Tryz.underlying66 rfl rfl Tryz.sizeOf62 (by decide) rfl (by first | exact Nat.zero_add _ | rfl)) (ltn rfl) ?_
              refine wl_val (r_fieldA 7 Tryz.underlying62 rfl rfl Tryz.sizeOf3 (by decide) rfl (by first | exact Nat.zero_add _ | rfl)) (ltn rfl) ?_
              refine wl_eff0 (e_storeL 7 (l' := [_, _, _, _, _, _, _, _, _, _, _, _, _, _, _, _, _, _, _, _, _, _, _, _, _, _, _, _, _, _, _, _, _, _]) H11 Tryz.sizeOf3 rfl rfl (by first | rfl | assumption) rfl rfl) ?_
              rintro _ w12 H12
              refine wl_val (r_nil rfl) (ltn rfl) ?_
              refine wl_val (r_fieldA 0 Tryz.underlying66 rfl rfl Tryz.sizeOf62 (by decide) rfl (by first | exact Nat.zero_add _ | rfl)) (ltn rfl) ?_
              refine wl_val (r_fieldA 8 Tryz.underlying62 rfl rfl Tryz.sizeOf3 (by decide) rfl (by first | exact Nat.zero_add _ | rfl)) (ltn rfl) ?_
              refine wl_eff0 (e_storeL 8 (l' := [_, _, _, _, _, _, _, _, _, _, _, _, _, _, _, _, _, _, _, _, _, _, _, _, _, _, _, _, _, _, _, _, _, _]) H12 Tryz.sizeOf3 rfl rfl (by first | rfl | assumption) rfl rfl) ?_
              rintro _ w13 H13
              refine wl_nil ?_
              refine wq_seq ?_
              refine wc_seq ?_
              refine wc_region ?_
              refine wl_val (r_assign rfl) (ltn rfl) ?_
              refine wl_nil ?_
              refine wq_seq ?_
              refine wc_ret ?_
              refine wq_end1 (.inl rfl) Tryz.results13 rfl ?_
              refine ⟨rfl, ?_⟩
              first
                | exact absurd (hw2.symm.trans hwh) (by decide)
                | exact absurd (hwh.symm.trans hw2) (by decide)
                | (rw [hEG]; exact Holds.mk_ed ok_e says_e H13.f11.f11.f11.f11.f11.f11.f11.f11.f11.f11.f11)
            · (try simp only [cmpS] at h8)
              have hEG := endGood_eq2 hs1e hon hrun h8
              refine wc_skip ?_
              refine wq_seq ?_
              refine wc_seq ?_
              refine wc_region ?_
              refine wl_val (r_assign rfl) (ltn rfl) ?_
              refine wl_nil ?_
              refine wq_seq ?_
              refine wc_ret ?_
              refine wq_end1 (.inl rfl) Tryz.results13 rfl ?_
              refine ⟨rfl, ?_⟩
              first
                | exact absurd (hw2.symm.trans hwh) (by decide)
                | exact absurd (hwh.symm.trans hw2) (by decide)
                | (rw [hEG]; exact Holds.mk_ed ok_e says_e H11.f11.f11.f11.f11.f11.f11.f11.f11.f11.f11.f11)
          · (try simp only [cmpS] at h7)
            have hrun : (s.typed && (!s.put.isEmpty || s.c.run)) = (s1.flushS on).c.run := by first | exact absurd (hw2.symm.trans hwh) (by decide) | (rw [put_empty, decide_eq_true (show s.put.length = 0 by omega), hty, flushS_run, hr1]; rfl)
            refine wl_yes rfl rfl ?_
            refine wl_val (r_move rfl) (ltn rfl) ?_
            refine wl_yes rfl rfl ?_
            refine wl_val (r_nil rfl) (ltn rfl) ?_
            refine wl_yes rfl rfl ?_
            refine wl_val (r_fieldA 0 Tryz.underlying66 rfl rfl Tryz.sizeOf62 (by decide) rfl (by first | exact Nat.zero_add _ | rfl)) (ltn rfl) ?_
            refine wl_yes rfl rfl ?_
            refine wl_val (r_fieldA 10 Tryz.underlying62 rfl rfl Tryz.sizeOf4 (by decide) rfl (by first | exact Nat.zero_add _ | rfl)) (ltn rfl) ?_
            refine wl_yes rfl rfl ?_
            refine wl_val (r_load (plain_of Tryz.underlying4 rfl) rfl (cell_of_blk (HE_e).get.2 rfl)) (ltn rfl) ?_
            refine wl_yes rfl rfl ?_
            refine wl_val (r_pick_f rfl rfl) (ltn rfl) ?_
            refine wl_val (r_pick_t rfl rfl) (ltn rfl) ?_
            refine wl_val (r_nil rfl) (ltn rfl) ?_
            refine wl_val (r_fieldA 0 Tryz.underlying66 rfl rfl Tryz.sizeOf62 (by decide) rfl (by first | exact Nat.zero_add _ | rfl)) (ltn rfl) ?_
            refine wl_val (r_fieldA 10 Tryz.underlying62 rfl rfl Tryz.sizeOf4 (by decide) rfl (by first | exact Nat.zero_add _ | rfl)) (ltn rfl) ?_
            refine wl_eff0 (e_storeL 10 (l' := [_, _, _, _, _, _, _, _, _, _, _, _, _, _, _, _, _, _, _, _, _, _, _, _, _, _, _, _, _, _, _, _, _, _]) HE_e Tryz.sizeOf4 rfl rfl (by first | rfl | assumption) rfl rfl) ?_
            rintro _ w14 H14
            refine wl_nil ?_
            refine wq_seq ?_
            refine wc_seq ?_
            refine wc_region ?_
            refine wl_val (r_move rfl) (ltn rfl) ?_
            refine wl_val (r_move rfl) (ltn rfl) ?_
            refine wl_val (r_nil rfl) (ltn rfl) ?_
            refine wl_val (r_fieldA 28 Tryz.underlying66 rfl rfl Tryz.sizeOf3 (by decide) rfl (by first | exact Nat.zero_add _ | rfl)) (ltn rfl) ?_
            refine wl_val (r_load (plain_of Tryz.underlying3 rfl) rfl (cell_of_blk (H14).get.2 rfl)) (ltn rfl) ?_
            refine wl_val (r_nil rfl) (ltn rfl) ?_
            refine wl_val (r_fieldA 0 Tryz.underlying66 rfl rfl Tryz.sizeOf62 (by decide) rfl (by first | exact Nat.zero_add _ | rfl)) (ltn rfl) ?_
            refine wl_val (r_fieldA 6 Tryz.underlying62 rfl rfl Tryz.sizeOf3 (by decide) rfl (by first | exact Nat.zero_add _ | rfl)) (ltn rfl) ?_
            refine wl_eff0 (e_storeL 6 (l' := [_, _, _, _, _, _, _, _, _, _, _, _, _, _, _, _, _, _, _, _, _, _, _, _, _, _, _, _, _, _, _, _, _, _]) H14 Tryz.sizeOf3 rfl rfl (by first | rfl | assumption) rfl rfl) ?_
            rintro _ w15 H15
            refine wl_nil ?_
            refine wq_seq ?_
            refine wc_seq ?_
            refine wc_seq ?_
            refine wc_region ?_
            refine wl_val (r_move rfl) (ltn rfl) ?_
            refine wl_val (r_nil rfl) (ltn rfl) ?_
            refine wl_val (r_fieldA 28 Tryz.underlying66 rfl rfl Tryz.sizeOf3 (by decide) rfl (by first | exact Nat.zero_add _ | rfl)) (ltn rfl) ?_
            refine wl_val (r_load (plain_of Tryz.underlying3 rfl) rfl (cell_of_blk (H15).get.2 rfl)) (ltn rfl) ?_
            refine wl_val (r_neq rfl rfl) (ltn rfl) ?_
            refine wl_nil ?_
            refine wq_seq ?_
            refine wc_cond rfl (fun h9 => ?_) (fun h9 => ?_)
            · (try simp only [cmpS] at h9)
              have hEG := endGood_eq hs1e hon hrun h9
              refine wc_region ?_
              refine wl_val (r_move rfl) (ltn rfl) ?_
              refine wl_val (r_move rfl) (ltn rfl) ?_
              refine wl_val (r_nil rfl) (ltn rfl) ?_
              refine wl_val (r_fieldA 0 Tryz.underlying66 rfl rfl Tryz.sizeOf62 (by decide) rfl (by first | exact Nat.zero_add _ | rfl)) (ltn rfl) ?_
              refine wl_val (r_fieldA 7 Tryz.underlying62 rfl rfl Tryz.sizeOf3 (by decide) rfl (by first | exact Nat.zero_add _ | rfl)) (ltn rfl) ?_
              refine wl_eff0 (e_storeL 7 (l' := [_, _, _, _, _, _, _, _, _, _, _, _, _, _, _, _, _, _, _, _, _, _, _, _, _, _, _, _, _, _, _, _, _, _]) H15 Tryz.sizeOf3 rfl rfl (by first | rfl | assumption) rfl rfl) ?_
              rintro _ w16 H16
              refine wl_val (r_nil rfl) (ltn rfl) ?_
              refine wl_val (r_fieldA 0 Tryz.underlying66 rfl rfl Tryz.sizeOf62 (by decide) rfl (by first | exact Nat.zero_add _ | rfl)) (ltn rfl) ?_
              refine wl_val (r_fieldA 8 Tryz.underlying62 rfl rfl Tryz.sizeOf3 (by decide) rfl (by first | exact Nat.zero_add _ | rfl)) (ltn rfl) ?_
              refine wl_eff0 (e_storeL 8 (l' := [_, _, _, _, _, _, _, _, _, _, _, _, _, _, _, _, _, _, _, _, _, _, _, _, _, _, _, _, _, _, _, _, _, _]) H16 Tryz.sizeOf3 rfl rfl (by first | rfl | assumption) rfl rfl) ?_
              rintro _ w17 H17
              refine wl_nil ?_
              refine wq_seq ?_
              refine wc_seq ?_
              refine wc_region ?_
              refine wl_val (r_assign rfl) (ltn rfl) ?_
              refine wl_nil ?_
              refine wq_seq ?_
              refine wc_ret ?_
              refine wq_end1 (.inl rfl) Tryz.results13 rfl ?_
              refine ⟨rfl, ?_⟩
              first
                | exact absurd (hw2.symm.trans hwh) (by decide)
                | exact absurd (hwh.symm.trans hw2) (by decide)
                | (rw [hEG]; exact Holds.mk_ed ok_e says_e H17.f11.f11.f11.f11.f11.f11.f11.f11.f11.f11.f11)
            · (try simp only [cmpS] at h9)
              have hEG := endGood_eq2 hs1e hon hrun h9
              refine wc_skip ?_
              refine wq_seq ?_
              refine wc_seq ?_
              refine wc_region ?_
              refine wl_val (r_assign rfl) (ltn rfl) ?_
              refine wl_nil ?_
              refine wq_seq ?_
              refine wc_ret ?_
              refine wq_end1 (.inl rfl) Tryz.results13 rfl ?_
              refine ⟨rfl, ?_⟩
              first
                | exact absurd (hw2.symm.trans hwh) (by decide)
                | exact absurd (hwh.symm.trans hw2) (by decide)
                | (rw [hEG]; exact Holds.mk_ed ok_e says_e H15.f11.f11.f11.f11.f11.f11.f11.f11.f11.f11.f11)
        · (try simp only [cmpS] at h6)
          have hw2 : s.whole = false := by simpa using h6
          have hrun : (s.typed && (!s.put.isEmpty || s.c.run)) = false := by first | exact absurd (hwh.symm.trans hw2) (by decide) | (rw [hty]; rfl)
          refine wl_no rfl rfl rfl (ltn rfl) ?_
          refine wl_no rfl rfl rfl (ltn rfl) ?_
          refine wl_nou rfl rfl (ltn rfl) ?_
          refine wl_nou rfl rfl (ltn rfl) ?_
          refine wl_nou rfl rfl (ltn rfl) ?_
          refine wl_nou rfl rfl (ltn rfl) ?_
          refine wl_nou rfl rfl (ltn rfl) ?_
          refine wl_no rfl rfl rfl (ltn rfl) ?_
          refine wl_val (r_pick_f rfl rfl) (ltn rfl) ?_
          refine wl_val (r_nil rfl) (ltn rfl) ?_
          refine wl_val (r_fieldA 0 Tryz.underlying66 rfl rfl Tryz.sizeOf62 (by decide) rfl (by first | exact Nat.zero_add _ | rfl)) (ltn rfl) ?_
          refine wl_val (r_fieldA 10 Tryz.underlying62 rfl rfl Tryz.sizeOf4 (by decide) rfl (by first | exact Nat.zero_add _ | rfl)) (ltn rfl) ?_
          refine wl_eff0 (e_storeL 10 (l' := [_, _, _, _, _, _, _, _, _, _, _, _, _, _, _, _, _, _, _, _, _, _, _, _, _, _, _, _, _, _, _, _, _, _]) HE_e Tryz.sizeOf4 rfl rfl (by first | rfl | assumption) rfl rfl) ?_
          rintro _ w18 H18
          refine wl_nil ?_
          refine wq_seq ?_
          refine wc_seq ?_
          refine wc_region ?_
          refine wl_val (r_move rfl) (ltn rfl) ?_
          refine wl_val (r_move rfl) (ltn rfl) ?_
          refine wl_val (r_nil rfl) (ltn rfl) ?_
          refine wl_val (r_fieldA 28 Tryz.underlying66 rfl rfl Tryz.sizeOf3 (by decide) rfl (by first | exact Nat.zero_add _ | rfl)) (ltn rfl) ?_
          refine wl_val (r_load (plain_of Tryz.underlying3 rfl) rfl (cell_of_blk (H18).get.2 rfl)) (ltn rfl) ?_
          refine wl_val (r_nil rfl) (ltn rfl) ?_
          refine wl_val (r_fieldA 0 Tryz.underlying66 rfl rfl Tryz.sizeOf62 (by decide) rfl (by first | exact Nat.zero_add _ | rfl)) (ltn rfl) ?_
          refine wl_val (r_fieldA 6 Tryz.underlying62 rfl rfl Tryz.sizeOf3 (by decide) rfl (by first | exact Nat.zero_add _ | rfl)) (ltn rfl) ?_
          refine wl_eff0 (e_storeL 6 (l' := [_, _, _, _, _, _, _, _, _, _, _, _, _, _, _, _, _, _, _, _, _, _, _, _, _, _, _, _, _, _, _, _, _, _]) H18 Tryz.sizeOf3 rfl rfl (by first | rfl | assumption) rfl rfl) ?_
          rintro _ w19 H19
          refine wl_nil ?_
          refine wq_seq ?_
          refine wc_seq ?_
          refine wc_seq ?_
          refine wc_region ?_
          refine wl_val (r_move rfl) (ltn rfl) ?_
          refine wl_val (r_nil rfl) (ltn rfl) ?_
          refine wl_val (r_fieldA 28 Tryz.underlying66 rfl rfl Tryz.sizeOf3 (by decide) rfl (by first | exact Nat.zero_add _ | rfl)) (ltn rfl) ?_
          refine wl_val (r_load (plain_of Tryz.underlying3 rfl) rfl (cell_of_blk (H19).get.2 rfl)) (ltn rfl) ?_
          refine wl_val (r_neq rfl rfl) (ltn rfl) ?_
          refine wl_nil ?_
          refine wq_seq ?_
          refine wc_cond rfl (fun h10 => ?_) (fun h10 => ?_)
          · (try simp only [cmpS] at h10)
            have hEG := endGood_eq hs1e hon hrun h10
            refine wc_region ?_
            refine wl_val (r_move rfl) (ltn rfl) ?_
            refine wl_val (r_move rfl) (ltn rfl) ?_
            refine wl_val (r_nil rfl) (ltn rfl) ?_
            refine wl_val (r_fieldA 0 Tryz.underlying66 rfl rfl Tryz.sizeOf62 (by decide) rfl (by first | exact Nat.zero_add _ | rfl)) (ltn rfl) ?_
            refine wl_val (r_fieldA 7 Tryz.underlying62 rfl rfl Tryz.sizeOf3 (by decide) rfl (by first | exact Nat.zero_add _ | rfl)) (ltn rfl) ?_
            refine wl_eff0 (e_storeL 7 (l' := [_, _, _, _, _, _, _, _, _, _, _, _, _, _, _, _, _, _, _, _, _, _, _, _, _, _, _, _, _, _, _, _, _, _]) H19 Tryz.sizeOf3 rfl rfl (by first | rfl | assumption) rfl rfl) ?_
            rintro _ w20 H20
            refine wl_val (r_nil rfl) (ltn rfl) ?_
            refine wl_val (r_fieldA 0 Tryz.underlying66 rfl rfl Tryz.sizeOf62 (by decide) rfl (by first | exact Nat.zero_add _ | rfl)) (ltn rfl) ?_
            refine wl_val (r_fieldA 8 Tryz.underlying62 rfl rfl Tryz.sizeOf3 (by decide) rfl (by first | exact Nat.zero_add _ | rfl)) (ltn rfl) ?_
            refine wl_eff0 (e_storeL 8 (l' := [_, _, _, _, _, _, _, _, _, _, _, _, _, _, _, _, _, _, _, _, _, _, _, _, _, _, _, _, _, _, _, _, _, _]) H20 Tryz.sizeOf3 rfl rfl (by first | rfl | assumption) rfl rfl) ?_
            rintro _ w21 H21
            refine wl_nil ?_
            refine wq_seq ?_
            refine wc_seq ?_
            refine wc_region ?_
            refine wl_val (r_assign rfl) (ltn rfl) ?_
            refine wl_nil ?_
            refine wq_seq ?_
            refine wc_ret ?_
            refine wq_end1 (.inl rfl) Tryz.results13 rfl ?_
            refine ⟨rfl, ?_⟩
            first
              | exact absurd (hw2.symm.trans hwh) (by decide)
              | exact absurd (hwh.symm.trans hw2) (by decide)
              | (rw [hEG]; exact Holds.mk_ed ok_e says_e H21.f11.f11.f11.f11.f11.f11.f11.f11.f11.f11.f11)
          · (try simp only [cmpS] at h10)
            have hEG := endGood_eq2 hs1e hon hrun h10
            refine wc_skip ?_
            refine wq_seq ?_
            refine wc_seq ?_
            refine wc_region ?_
            refine wl_val (r_assign rfl) (ltn rfl) ?_
            refine wl_nil ?_
            refine wq_seq ?_
            refine wc_ret ?_
            refine wq_end1 (.inl rfl) Tryz.results13 rfl ?_
            refine ⟨rfl, ?_⟩
            first
              | exact absurd (hw2.symm.trans hwh) (by decide)
              | exact absurd (hwh.symm.trans hw2) (by decide)
              | (rw [hEG]; exact Holds.mk_ed ok_e says_e H19.f11.f11.f11.f11.f11.f11.f11.f11.f11.f11.f11)
      · (try simp only [cmpS] at h5)
        have hwh : s.whole = false := by simpa using h5
        have hty : s.typed = false := by unfold EdS.typed; rw [hc3, hwh]; rfl
        have hrun : (s.typed && (!s.put.isEmpty || s.c.run)) = false := by rw [hty]; rfl
        refine wl_no rfl rfl rfl (ltn rfl) ?_
        refine wl_no rfl rfl rfl (ltn rfl) ?_
        refine wl_no rfl rfl rfl (ltn rfl) ?_
        refine wl_no rfl rfl rfl (ltn rfl) ?_
        refine wl_no rfl rfl rfl (ltn rfl) ?_
        refine wl_val (r_pick_f rfl rfl) (ltn rfl) ?_
        have Hd22 := H12d6.f11.right
        have HW0 := Holds.was_no (c := s.was) (u := [u0_e, u1_e, u2_e, u3_e, u4_e, u5_e, u6_e, u7_e, u8_e, u9_e, ua_e]) Hd22
        obtain ⟨s1, hs1e, HS1⟩ : ∃ s1, s1 = s.endArg ∧ Holds w0 (w6.drew) (EdRep e s1 • F) := ⟨_, hs1, Holds.mk_ed (hs1 ▸ endArg_ok ok_e) says_e HW0.f11.f11.f11.f11.f11.f11.f11.f11.f11.f11⟩
        have hr1 : s1.c.run = s.c.run := by rw [hs1e]; unfold EdS.endArg; split <;> rfl
        refine wl_eff (e_call (r_call rfl Tryz.func53 rfl rfl) (ed_flush_ret HS1)) (ltn rfl) ?_
        rintro _ w23 H23
        obtain ⟨on, hon, HZ⟩ : ∃ on, (s.typed && s.c.run) = on ∧ Holds w0 w23 (EdRep e (s1.flushS on) • F) := ⟨_, by rw [hty]; rfl, H23⟩
        refine wl_nil ?_
        refine wq_seq ?_
        refine wc_seq ?_
        obtain ⟨pb_e, pr_e, pw_e, pt_e, pm_e, ph_e, bl_e, pv_e, es_e, u0_e, u1_e, u2_e, u3_e, u4_e, u5_e, u6_e, u7_e, u8_e, u9_e, ua_e, ok_e, says_e, plen_e, HE_e⟩ := (HZ).edO
        refine wc_region ?_
        refine wl_val (r_move rfl) (ltn rfl) ?_
        refine wl_val (r_move rfl) (ltn rfl) ?_
        refine wl_split rfl (ltn rfl) (fun h11 => ?_) (fun h11 => ?_)
        · (try simp only [cmpS] at h11)
          have hw2 : s.whole = true := h11
          refine wl_yes rfl rfl ?_
          refine wl_val (r_move rfl) (ltn rfl) ?_
          refine wl_yes rfl rfl ?_
          refine wl_split rfl (ltn rfl) (fun h12 => ?_) (fun h12 => ?_)
          · (try simp only [cmpS] at h12)
            have hrun : (s.typed && (!s.put.isEmpty || s.c.run)) = true := by first | exact absurd (hw2.symm.trans hwh) (by decide) | (rw [put_empty, decide_eq_false (show ¬ s.put.length = 0 by omega), hty]; rfl)
            refine wl_no rfl rfl rfl (ltn rfl) ?_
            refine wl_no rfl rfl rfl (ltn rfl) ?_
            refine wl_no rfl rfl rfl (ltn rfl) ?_
            refine wl_no rfl rfl rfl (ltn rfl) ?_
            refine wl_no rfl rfl rfl (ltn rfl) ?_
            refine wl_yes rfl rfl ?_
            refine wl_val (r_pick_t rfl rfl) (ltn rfl) ?_
            refine wl_val (r_pick_t rfl rfl) (ltn rfl) ?_
            refine wl_val (r_nil rfl) (ltn rfl) ?_
            refine wl_val (r_fieldA 0 Tryz.underlying66 rfl rfl Tryz.sizeOf62 (by decide) rfl (by first | exact Nat.zero_add _ | rfl)) (ltn rfl) ?_
            refine wl_val (r_fieldA 10 Tryz.underlying62 rfl rfl Tryz.sizeOf4 (by decide) rfl (by first | exact Nat.zero_add _ | rfl)) (ltn rfl) ?_
            refine wl_eff0 (e_storeL 10 (l' := [_, _, _, _, _, _, _, _, _, _, _, _, _, _, _, _, _, _, _, _, _, _, _, _, _, _, _, _, _, _, _, _, _, _]) HE_e Tryz.sizeOf4 rfl rfl (by first | rfl | assumption) rfl rfl) ?_
            rintro _ w25 H25
            refine wl_nil ?_
            refine wq_seq ?_
            refine wc_seq ?_
            refine wc_region ?_
            refine wl_val (r_move rfl) (ltn rfl) ?_
            refine wl_val (r_move rfl) (ltn rfl) ?_
            refine wl_val (r_nil rfl) (ltn rfl) ?_
            refine wl_val (r_fieldA 28 Tryz.underlying66 rfl rfl Tryz.sizeOf3 (by decide) rfl (by first | exact Nat.zero_add _ | rfl)) (ltn rfl) ?_
            refine wl_val (r_load (plain_of Tryz.underlying3 rfl) rfl (cell_of_blk (H25).get.2 rfl)) (ltn rfl) ?_
            refine wl_val (r_nil rfl) (ltn rfl) ?_
            refine wl_val (r_fieldA 0 Tryz.underlying66 rfl rfl Tryz.sizeOf62 (by decide) rfl (by first | exact Nat.zero_add _ | rfl)) (ltn rfl) ?_
            refine wl_val (r_fieldA 6 Tryz.underlying62 rfl rfl Tryz.sizeOf3 (by decide) rfl (by first | exact Nat.zero_add _ | rfl)) (ltn rfl) ?_
            refine wl_eff0 (e_storeL 6 (l' := [_, _, _, _, _, _, _, _, _, _, _, _, _, _, _, _, _, _, _, _, _, _, _, _, _, _, _, _, _, _, _, _, _, _]) H25 Tryz.sizeOf3 rfl rfl (by first | rfl | assumption) rfl rfl) ?_
            rintro _ w26 H26
            refine wl_nil ?_
            refine wq_seq ?_
            refine wc_seq ?_
            refine wc_seq ?_
            refine wc_region ?_
            refine wl_val (r_move rfl) (ltn rfl) ?_
            refine wl_val (r_nil rfl) (ltn rfl) ?_
            refine wl_val (r_fieldA 28 Tryz.underlying66 rfl rfl Tryz.sizeOf3 (by decide) rfl (by first | exact Nat.zero_add _ | rfl)) (ltn rfl) ?_
            refine wl_val (r_load (plain_of Tryz.underlying3 rfl) rfl (cell_of_blk (H26).get.2 rfl)) (ltn rfl) ?_
            refine wl_val (r_neq rfl rfl) (ltn rfl) ?_
            refine wl_nil ?_
            refine wq_seq ?_
            refine wc_cond rfl (fun h13 => ?_) (fun h13 => ?_)
            · (try simp only [cmpS] at h13)
              have hEG := endGood_eq hs1e hon hrun h13
              refine wc_region ?_
              refine wl_val (r_move rfl) (ltn rfl) ?_
              refine wl_val (r_move rfl) (ltn rfl) ?_
              refine wl_val (r_nil rfl) (ltn rfl) ?_
              refine wl_val (r_fieldA 0 Tryz.underlying66 rfl rfl Tryz.sizeOf62 (by decide) rfl (by first | exact Nat.zero_add _ | rfl)) (ltn rfl) ?_
              refine wl_val (r_fieldA 7 Tryz.underlying62 rfl rfl Tryz.sizeOf3 (by decide) rfl (by first | exact Nat.zero_add _ | rfl)) (ltn rfl) ?_
              refine wl_eff0 (e_storeL 7 (l' := [_, _, _, _, _, _, _, _, _, _, _, _, _, _, _, _, _, _, _, _, _, _, _, _, _, _, _, _, _, _, _, _, _, _]) H26 Tryz.sizeOf3 rfl rfl (by first | rfl | assumption) rfl rfl) ?_
              rintro _ w27 H27
              refine wl_val (r_nil rfl) (ltn rfl) ?_
              refine wl_val (r_fieldA 0 Tryz.underlying66 rfl rfl Tryz.sizeOf62 (by decide) rfl (by first | exact Nat.zero_add _ | rfl)) (ltn rfl) ?_
              refine wl_val (r_fieldA 8 Tryz.underlying62 rfl rfl Tryz.sizeOf3 (by decide) rfl (by first | exact Nat.zero_add _ | rfl)) (ltn rfl) ?_
              refine wl_eff0 (e_storeL 8 (l' := [_, _, _, _, _, _, _, _, _, _, _, _, _, _, _, _, _, _, _, _, _, _, _, _, _, _, _, _, _, _, _, _, _, _]) H27 Tryz.sizeOf3 rfl rfl (by first | rfl | assumption) rfl rfl) ?_
              rintro _ w28 H28
              refine wl_nil ?_
              refine wq_seq ?_
              refine wc_seq ?_
              refine wc_region ?_
              refine wl_val (r_assign rfl) (ltn rfl) ?_
              refine wl_nil ?_
              refine wq_seq ?_
              refine wc_ret ?_
              refine wq_end1 (.inl rfl) Tryz.results13 rfl ?_
              refine ⟨rfl, ?_⟩
              first
                | exact absurd (hw2.symm.trans hwh) (by decide)
                | exact absurd (hwh.symm.trans hw2) (by decide)
                | (rw [hEG]; exact Holds.mk_ed ok_e says_e H28.f11.f11.f11.f11.f11.f11.f11.f11.f11.f11.f11)
            · (try simp only [cmpS] at h13)
              have hEG := endGood_eq2 hs1e hon hrun h13
              refine wc_skip ?_
              refine wq_seq ?_
              refine wc_seq ?_
              refine wc_region ?_
              refine wl_val (r_assign rfl) (ltn rfl) ?_
              refine wl_nil ?_
              refine wq_seq ?_
              refine wc_ret ?_
              refine wq_end1 (.inl rfl) Tryz.results13 rfl ?_
              refine ⟨rfl, ?_⟩
              first
                | exact absurd (hw2.symm.trans hwh) (by decide)
                | exact absurd (hwh.symm.trans hw2) (by decide)
                | (rw [hEG]; exact Holds.mk_ed ok_e says_e H26.f11.f11.f11.f11.f11.f11.f11.f11.f11.f11.f11)
          · (try simp only [cmpS] at h12)
            have hrun : (s.typed && (!s.put.isEmpty || s.c.run)) = (s1.flushS on).c.run := by first | exact absurd (hw2.symm.trans hwh) (by decide) | (rw [put_empty, decide_eq_true (show s.put.length = 0 by omega), hty, flushS_run, hr1]; rfl)
            refine wl_yes rfl rfl ?_
            refine wl_val (r_move rfl) (ltn rfl) ?_
            refine wl_yes rfl rfl ?_
            refine wl_val (r_nil rfl) (ltn rfl) ?_
            refine wl_yes rfl rfl ?_
            refine wl_val (r_fieldA 0 Tryz.underlying66 rfl rfl Tryz.sizeOf62 (by decide) rfl (by first | exact Nat.zero_add _ | rfl)) (ltn rfl) ?_
            refine wl_yes rfl rfl ?_
            refine wl_val (r_fieldA 10 Tryz.underlying62 rfl rfl Tryz.sizeOf4 (by decide) rfl (by first | exact Nat.zero_add _ | rfl)) (ltn rfl) ?_
            refine wl_yes rfl rfl ?_
            refine wl_val (r_load (plain_of Tryz.underlying4 rfl) rfl (cell_of_blk (HE_e).get.2 rfl)) (ltn rfl) ?_
            refine wl_yes rfl rfl ?_
            refine wl_val (r_pick_f rfl rfl) (ltn rfl) ?_
            refine wl_val (r_pick_t rfl rfl) (ltn rfl) ?_
            refine wl_val (r_nil rfl) (ltn rfl) ?_
            refine wl_val (r_fieldA 0 Tryz.underlying66 rfl rfl Tryz.sizeOf62 (by decide) rfl (by first | exact Nat.zero_add _ | rfl)) (ltn rfl) ?_
            refine wl_val (r_fieldA 10 Tryz.underlying62 rfl rfl Tryz.sizeOf4 (by decide) rfl (by first | exact Nat.zero_add _ | rfl)) (ltn rfl) ?_
            refine wl_eff0 (e_storeL 10 (l' := [_, _, _, _, _, _, _, _, _, _, _, _, _, _, _, _, _, _, _, _, _, _, _, _, _, _, _, _, _, _, _, _, _, _]) HE_e Tryz.sizeOf4 rfl rfl (by first | rfl | assumption) rfl rfl) ?_
            rintro _ w29 H29
            refine wl_nil ?_
            refine wq_seq ?_
            refine wc_seq ?_
            refine wc_region ?_
            refine wl_val (r_move rfl) (ltn rfl) ?_
            refine wl_val (r_move rfl) (ltn rfl) ?_
            refine wl_val (r_nil rfl) (ltn rfl) ?_
            refine wl_val (r_fieldA 28 Tryz.underlying66 rfl rfl Tryz.sizeOf3 (by decide) rfl (by first | exact Nat.zero_add _ | rfl)) (ltn rfl) ?_
            refine wl_val (r_load (plain_of Tryz.underlying3 rfl) rfl (cell_of_blk (H29).get.2 rfl)) (ltn rfl) ?_
            refine wl_val (r_nil rfl) (ltn rfl) ?_
            refine wl_val (r_fieldA 0 Tryz.underlying66 rfl rfl Tryz.sizeOf62 (by decide) rfl (by first | exact Nat.zero_add _ | rfl)) (ltn rfl) ?_
            refine wl_val (r_fieldA 6 Tryz.underlying62 rfl rfl Tryz.sizeOf3 (by decide) rfl (by first | exact Nat.zero_add _ | rfl)) (ltn rfl) ?_
            refine wl_eff0 (e_storeL 6 (l' := [_, _, _, _, _, _, _, _, _, _, _, _, _, _, _, _, _, _, _, _, _, _, _, _, _, _, _, _, _, _, _, _, _, _]) H29 Tryz.sizeOf3 rfl rfl (by first | rfl | assumption) rfl rfl) ?_
            rintro _ w30 H30
            refine wl_nil ?_
            refine wq_seq ?_
            refine wc_seq ?_
            refine wc_seq ?_
            refine wc_region ?_
            refine wl_val (r_move rfl) (ltn rfl) ?_
            refine wl_val (r_nil rfl) (ltn rfl) ?_
            refine wl_val (r_fieldA 28 Tryz.underlying66 rfl rfl Tryz.sizeOf3 (by decide) rfl (by first | exact Nat.zero_add _ | rfl)) (ltn rfl) ?_
            refine wl_val (r_load (plain_of Tryz.underlying3 rfl) rfl (cell_of_blk (H30).get.2 rfl)) (ltn rfl) ?_
            refine wl_val (r_neq rfl rfl) (ltn rfl) ?_
            refine wl_nil ?_
            refine wq_seq ?_
            refine wc_cond rfl (fun h14 => ?_) (fun h14 => ?_)
            · (try simp only [cmpS] at h14)
              have hEG := endGood_eq hs1e hon hrun h14
              refine wc_region ?_
              refine wl_val (r_move rfl) (ltn rfl) ?_
              refine wl_val (r_move rfl) (ltn rfl) ?_
              refine wl_val (r_nil rfl) (ltn rfl) ?_
              refine wl_val (r_fieldA 0 Tryz.underlying66 rfl rfl Tryz.sizeOf62 (by decide) rfl (by first | exact Nat.zero_add _ | rfl)) (ltn rfl) ?_
              refine wl_val (r_fieldA 7 Tryz.underlying62 rfl rfl Tryz.sizeOf3 (by decide) rfl (by first | exact Nat.zero_add _ | rfl)) (ltn rfl) ?_
              refine wl_eff0 (e_storeL 7 (l' := [_, _, _, _, _, _, _, _, _, _, _, _, _, _, _, _, _, _, _, _, _, _, _, _, _, _, _, _, _, _, _, _, _, _]) H30 Tryz.sizeOf3 rfl rfl (by first | rfl | assumption) rfl rfl) ?_
              rintro _ w31 H31
              refine wl_val (r_nil rfl) (ltn rfl) ?_
              refine wl_val (r_fieldA 0 Tryz.underlying66 rfl rfl Tryz.sizeOf62 (by decide) rfl (by first | exact Nat.zero_add _ | rfl)) (ltn rfl) ?_
              refine wl_val (r_fieldA 8 Tryz.underlying62 rfl rfl Tryz.sizeOf3 (by decide) rfl (by first | exact Nat.zero_add _ | rfl)) (ltn rfl) ?_
              refine wl_eff0 (e_storeL 8 (l' := [_, _, _, _, _, _, _, _, _, _, _, _, _, _, _, _, _, _, _, _, _, _, _, _, _, _, _, _, _, _, _, _, _, _]) H31 Tryz.sizeOf3 rfl rfl (by first | rfl | assumption) rfl rfl) ?_
              rintro _ w32 H32
              refine wl_nil ?_
              refine wq_seq ?_
              refine wc_seq ?_
              refine wc_region ?_
              refine wl_val (r_assign rfl) (ltn rfl) ?_
              refine wl_nil ?_
              refine wq_seq ?_
              refine wc_ret ?_
              refine wq_end1 (.inl rfl) Tryz.results13 rfl ?_
              refine ⟨rfl, ?_⟩
              first
                | exact absurd (hw2.symm.trans hwh) (by decide)
                | exact absurd (hwh.symm.trans hw2) (by decide)
                | (rw [hEG]; exact Holds.mk_ed ok_e says_e H32.f11.f11.f11.f11.f11.f11.f11.f11.f11.f11.f11)
            · (try simp only [cmpS] at h14)
              have hEG := endGood_eq2 hs1e hon hrun h14
              refine wc_skip ?_
              refine wq_seq ?_
              refine wc_seq ?_
              refine wc_region ?_
              refine wl_val (r_assign rfl) (ltn rfl) ?_
              refine wl_nil ?_
              refine wq_seq ?_
              refine wc_ret ?_
              refine wq_end1 (.inl rfl) Tryz.results13 rfl ?_
              refine ⟨rfl, ?_⟩
              first
                | exact absurd (hw2.symm.trans hwh) (by decide)
                | exact absurd (hwh.symm.trans hw2) (by decide)
                | (rw [hEG]; exact Holds.mk_ed ok_e says_e H30.f11.f11.f11.f11.f11.f11.f11.f11.f11.f11.f11)
        · (try simp only [cmpS] at h11)
          have hw2 : s.whole = false := by simpa using h11
          have hrun : (s.typed && (!s.put.isEmpty || s.c.run)) = false := by first | exact absurd (hwh.symm.trans hw2) (by decide) | (rw [hty]; rfl)
          refine wl_no rfl rfl rfl (ltn rfl) ?_
          refine wl_no rfl rfl rfl (ltn rfl) ?_
          refine wl_nou rfl rfl (ltn rfl) ?_
          refine wl_nou rfl rfl (ltn rfl) ?_
          refine wl_nou rfl rfl (ltn rfl) ?_
          refine wl_nou rfl rfl (ltn rfl) ?_
          refine wl_nou rfl rfl (ltn rfl) ?_
          refine wl_no rfl rfl rfl (ltn rfl) ?_
          refine wl_val (r_pick_f rfl rfl) (ltn rfl) ?_
          refine wl_val (r_nil rfl) (ltn rfl) ?_
          refine wl_val (r_fieldA 0 Tryz.underlying66 rfl rfl Tryz.sizeOf62 (by decide) rfl (by first | exact Nat.zero_add _ | rfl)) (ltn rfl) ?_
          refine wl_val (r_fieldA 10 Tryz.underlying62 rfl rfl Tryz.sizeOf4 (by decide) rfl (by first | exact Nat.zero_add _ | rfl)) (ltn rfl) ?_
          refine wl_eff0 (e_storeL 10 (l' := [_, _, _, _, _, _, _, _, _, _, _, _, _, _, _, _, _, _, _, _, _, _, _, _, _, _, _, _, _, _, _, _, _, _]) HE_e Tryz.sizeOf4 rfl rfl (by first | rfl | assumption) rfl rfl) ?_
          rintro _ w33 H33
          refine wl_nil ?_
          refine wq_seq ?_
          refine wc_seq ?_
          refine wc_region ?_
          refine wl_val (r_move rfl) (ltn rfl) ?_
          refine wl_val (r_move rfl) (ltn rfl) ?_
          refine wl_val (r_nil rfl) (ltn rfl) ?_
          refine wl_val (r_fieldA 28 Tryz.underlying66 rfl rfl Tryz.sizeOf3 (by decide) rfl (by first | exact Nat.zero_add _ | rfl)) (ltn rfl) ?_
          refine wl_val (r_load (plain_of Tryz.underlying3 rfl) rfl (cell_of_blk (H33).get.2 rfl)) (ltn rfl) ?_
          refine wl_val (r_nil rfl) (ltn rfl) ?_
          refine wl_val (r_fieldA 0 Tryz.underlying66 rfl rfl Tryz.sizeOf62 (by decide) rfl (by first | exact Nat.zero_add _ | rfl)) (ltn rfl) ?_
          refine wl_val (r_fieldA 6 Tryz.underlying62 rfl rfl Tryz.sizeOf3 (by decide) rfl (by first | exact Nat.zero_add _ | rfl)) (ltn rfl) ?_
          refine wl_eff0 (e_storeL 6 (l' := [_, _, _, _, _, _, _, _, _, _, _, _, _, _, _, _, _, _, _, _, _, _, _, _, _, _, _, _, _, _, _, _, _, _]) H33 Tryz.sizeOf3 rfl rfl (by first | rfl | assumption) rfl rfl) ?_
          rintro _ w34 H34
          refine wl_nil ?_
          refine wq_seq ?_
          refine wc_seq ?_
          refine wc_seq ?_
          refine wc_region ?_
          refine wl_val (r_move rfl) (ltn rfl) ?_
          refine wl_val (r_nil rfl) (ltn rfl) ?_
          refine wl_val (r_fieldA 28 Tryz.underlying66 rfl rfl Tryz.sizeOf3 (by decide) rfl (by first | exact Nat.zero_add _ | rfl)) (ltn rfl) ?_
          refine wl_val (r_load (plain_of Tryz.underlying3 rfl) rfl (cell_of_blk (H34).get.2 rfl)) (ltn rfl) ?_
          refine wl_val (r_neq rfl rfl) (ltn rfl) ?_
          refine wl_nil ?_
          refine wq_seq ?_
          refine wc_cond rfl (fun h15 => ?_) (fun h15 => ?_)
          · (try simp only [cmpS] at h15)
            have hEG := endGood_eq hs1e hon hrun h15
            refine wc_region ?_
            refine wl_val (r_move rfl) (ltn rfl) ?_
            refine wl_val (r_move rfl) (ltn rfl) ?_
            refine wl_val (r_nil rfl) (ltn rfl) ?_
            refine wl_val (r_fieldA 0 Tryz.underlying66 rfl rfl Tryz.sizeOf62 (by decide) rfl (by first | exact Nat.zero_add _ | rfl)) (ltn rfl) ?_
            refine wl_val (r_fieldA 7 Tryz.underlying62 rfl rfl Tryz.sizeOf3 (by decide) rfl (by first | exact Nat.zero_add _ | rfl)) (ltn rfl) ?_
            refine wl_eff0 (e_storeL 7 (l' := [_, _, _, _, _, _, _, _, _, _, _, _, _, _, _, _, _, _, _, _, _, _, _, _, _, _, _, _, _, _, _, _, _, _]) H34 Tryz.sizeOf3 rfl rfl (by first | rfl | assumption) rfl rfl) ?_
            rintro _ w35 H35
            refine wl_val (r_nil rfl) (ltn rfl) ?_
            refine wl_val (r_fieldA 0 Tryz.underlying66 rfl rfl Tryz.sizeOf62 (by decide) rfl (by first | exact Nat.zero_add _ | rfl)) (ltn rfl) ?_
            refine wl_val (r_fieldA 8 Tryz.underlying62 rfl rfl Tryz.sizeOf3 (by decide) rfl (by first | exact Nat.zero_add _ | rfl)) (ltn rfl) ?_
            refine wl_eff0 (e_storeL 8 (l' := [_, _, _, _, _, _, _, _, _, _, _, _, _, _, _, _, _, _, _, _, _, _, _, _, _, _, _, _, _, _, _, _, _, _]) H35 Tryz.sizeOf3 rfl rfl (by first | rfl | assumption) rfl rfl) ?_
            rintro _ w36 H36
            refine wl_nil ?_
            refine wq_seq ?_
            refine wc_seq ?_
            refine wc_region ?_
            refine wl_val (r_assign rfl) (ltn rfl) ?_
            refine wl_nil ?_
            refine wq_seq ?_
            refine wc_ret ?_
            refine wq_end1 (.inl rfl) Tryz.results13 rfl ?_
            refine ⟨rfl, ?_⟩
            first
              | exact absurd (hw2.symm.trans hwh) (by decide)
              | exact absurd (hwh.symm.trans hw2) (by decide)
              | (rw [hEG]; exact Holds.mk_ed ok_e says_e H36.f11.f11.f11.f11.f11.f11.f11.f11.f11.f11.f11)
          · (try simp only [cmpS] at h15)
            have hEG := endGood_eq2 hs1e hon hrun h15
            refine wc_skip ?_
            refine wq_seq ?_
            refine wc_seq ?_
            refine wc_region ?_
            refine wl_val (r_assign rfl) (ltn rfl) ?_
            refine wl_nil ?_
            refine wq_seq ?_
            refine wc_ret ?_
            refine wq_end1 (.inl rfl) Tryz.results13 rfl ?_
            refine ⟨rfl, ?_⟩
            first
              | exact absurd (hw2.symm.trans hwh) (by decide)
              | exact absurd (hwh.symm.trans hw2) (by decide)
              | (rw [hEG]; exact Holds.mk_ed ok_e says_e H34.f11.f11.f11.f11.f11.f11.f11.f11.f11.f11.f11)
    · (try simp only [cmpS] at h4)
      have hty : s.typed = false := by unfold EdS.typed; rw [beq_false_of_ne h4]; rfl
      have hrun : (s.typed && (!s.put.isEmpty || s.c.run)) = false := by rw [hty]; rfl
      refine wd_no 6 rfl rfl rfl rfl (by kernel_rfl) (by kernel_rfl) hS12d6 (ltn rfl) ?_
      refine wd_no 7 rfl rfl rfl rfl (by kernel_rfl) (by kernel_rfl) hS12d6 (ltn rfl) ?_
      refine wd_no 8 rfl rfl rfl rfl (by kernel_rfl) (by kernel_rfl) hS12d6 (ltn rfl) ?_
      refine wd_no 9 rfl rfl rfl rfl (by kernel_rfl) (by kernel_rfl) hS12d6 (ltn rfl) ?_
      refine wd_takeT 10 rfl (by kernel_rfl) (by kernel_rfl) hS12d6 (fun _ => r_pick_f rfl rfl) (ltn rfl) ?_
      refine wd_takeT 11 rfl (by kernel_rfl) (by kernel_rfl) hS12d6 (fun _ => r_move rfl) (ltn rfl) ?_
      refine wd_takeT 12 rfl (by kernel_rfl) (by kernel_rfl) hS12d6 (fun _ => r_nil rfl) (ltn rfl) ?_
      refine wd_takeT 13 rfl (by kernel_rfl) (by kernel_rfl) hS12d6 (fun _ => r_fieldA 33 Tryz.underlying66 rfl rfl Tryz.sizeOf64 (by decide) rfl (by first | exact Nat.zero_add _ | rfl)) (ltn rfl) ?_
      refine wd_take 14 rfl (by kernel_rfl) (by kernel_rfl) hS12d6 (by decide) (fun W hW => r_load (plain_of Tryz.underlying64 rfl) rfl (cell_of_blk ((Kp.h hW)).get.2 rfl)) (ltn rfl) ?_
      refine wd_takeT 15 rfl (by kernel_rfl) (by kernel_rfl) hS12d6 (fun _ => r_lenS ((H12d6.f9).row_rd) Tryz.underlying64 rfl) (ltn rfl) ?_
      refine wd_takeT 16 rfl (by kernel_rfl) (by kernel_rfl) hS12d6 (fun _ => r_gtr rfl rfl) (ltn rfl) ?_
      refine wd_takeT 17 rfl (by kernel_rfl) (by kernel_rfl) hS12d6 (fun _ => r_assign rfl) (ltn rfl) ?_
      refine wd_takeT 18 rfl (by kernel_rfl) (by kernel_rfl) hS12d6 (fun _ => r_assign rfl) (ltn rfl) ?_
      refine wd_done (by kernel_rfl) ?_
      refine wq_seq ?_
      refine wc_seq ?_
      refine wc_region ?_
      refine wl_val (r_move rfl) (ltn rfl) ?_
      refine wl_val (r_move rfl) (ltn rfl) ?_
      refine wl_val (r_move rfl) (ltn rfl) ?_
      refine wl_no rfl rfl rfl (ltn rfl) ?_
      refine wl_no rfl rfl rfl (ltn rfl) ?_
      refine wl_no rfl rfl rfl (ltn rfl) ?_
      refine wl_no rfl rfl rfl (ltn rfl) ?_
      refine wl_no rfl rfl rfl (ltn rfl) ?_
      refine wl_val (r_pick_f rfl rfl) (ltn rfl) ?_
      have Hd37 := H12d6.f11.right
      have HW0 := Holds.was_no (c := s.was) (u := [u0_e, u1_e, u2_e, u3_e, u4_e, u5_e, u6_e, u7_e, u8_e, u9_e, ua_e]) Hd37
      obtain ⟨s1, hs1e, HS1⟩ : ∃ s1, s1 = s.endArg ∧ Holds w0 (w6.drew) (EdRep e s1 • F) := ⟨_, hs1, Holds.mk_ed (hs1 ▸ endArg_ok ok_e) says_e HW0.f11.f11.f11.f11.f11.f11.f11.f11.f11.f11⟩
      have hr1 : s1.c.run = s.c.run := by rw [hs1e]; unfold EdS.endArg; split <;> rfl
      refine wl_eff (e_call (r_call rfl Tryz.func53 rfl rfl) (ed_flush_ret HS1)) (ltn rfl) ?_
      rintro _ w38 H38
      obtain ⟨on, hon, HZ⟩ : ∃ on, (s.typed && s.c.run) = on ∧ Holds w0 w38 (EdRep e (s1.flushS on) • F) := ⟨_, by rw [hty]; rfl, H38⟩
      refine wl_nil ?_
      refine wq_seq ?_
      refine wc_seq ?_
      obtain ⟨pb_e, pr_e, pw_e, pt_e, pm_e, ph_e, bl_e, pv_e, es_e, u0_e, u1_e, u2_e, u3_e, u4_e, u5_e, u6_e, u7_e, u8_e, u9_e, ua_e, ok_e, says_e, plen_e, HE_e⟩ := (HZ).edO
      refine wc_region ?_
      refine wl_val (r_move rfl) (ltn rfl) ?_
      refine wl_val (r_move rfl) (ltn rfl) ?_
      refine wl_val (r_move rfl) (ltn rfl) ?_
      refine wl_no rfl rfl rfl (ltn rfl) ?_
      refine wl_no rfl rfl rfl (ltn rfl) ?_
      refine wl_nou rfl rfl (ltn rfl) ?_
      refine wl_nou rfl rfl (ltn rfl) ?_
      refine wl_nou rfl rfl (ltn rfl) ?_
      refine wl_nou rfl rfl (ltn rfl) ?_
      refine wl_nou rfl rfl (ltn rfl) ?_
      refine wl_no rfl rfl rfl (ltn rfl) ?_
      refine wl_val (r_pick_f rfl rfl) (ltn rfl) ?_
      refine wl_val (r_nil rfl) (ltn rfl) ?_
      refine wl_val (r_fieldA 0 Tryz.underlying66 rfl rfl Tryz.sizeOf62 (by decide) rfl (by first | exact Nat.zero_add _ | rfl)) (ltn rfl) ?_
      refine wl_val (r_fieldA 10 Tryz.underlying62 rfl rfl Tryz.sizeOf4 (by decide) rfl (by first | exact Nat.zero_add _ | rfl)) (ltn rfl) ?_
      refine wl_eff0 (e_storeL 10 (l' := [_, _, _, _, _, _, _, _, _, _, _, _, _, _, _, _, _, _, _, _, _, _, _, _, _, _, _, _, _, _, _, _, _, _]) HE_e Tryz.sizeOf4 rfl rfl (by first | rfl | assumption) rfl rfl) ?_
      rintro _ w40 H40
      refine wl_nil ?_
      refine wq_seq ?_
      refine wc_seq ?_
      refine wc_region ?_
      refine wl_val (r_move rfl) (ltn rfl) ?_
      refine wl_val (r_move rfl) (ltn rfl) ?_
      refine wl_val (r_nil rfl) (ltn rfl) ?_
      refine wl_val (r_fieldA 28 Tryz.underlying66 rfl rfl Tryz.sizeOf3 (by decide) rfl (by first | exact Nat.zero_add _ | rfl)) (ltn rfl) ?_
      refine wl_val (r_load (plain_of Tryz.underlying3 rfl) rfl (cell_of_blk (H40).get.2 rfl)) (ltn rfl) ?_
      refine wl_val (r_nil rfl) (ltn rfl) ?_
      refine wl_val (r_fieldA 0 Tryz.underlying66 rfl rfl Tryz.sizeOf62 (by decide) rfl (by first | exact Nat.zero_add _ | rfl)) (ltn rfl) ?_
      refine wl_val (r_fieldA 6 Tryz.underlying62 rfl rfl Tryz.sizeOf3 (by decide) rfl (by first | exact Nat.zero_add _ | rfl)) (ltn rfl) ?_
      refine wl_eff0 (e_storeL 6 (l' := [_, _, _, _, _, _, _, _, _, _, _, _, _, _, _, _, _, _, _, _, _, _, _, _, _, _, _, _, _, _, _, _, _, _]) H40 Tryz.sizeOf3 rfl rfl (by first | rfl | assumption) rfl rfl) ?_
      rintro _ w41 H41
      refine wl_nil ?_
      refine wq_seq ?_
      refine wc_seq ?_
      refine wc_seq ?_
      refine wc_region ?_
      refine wl_val (r_move rfl) (ltn rfl) ?_
      refine wl_val (r_nil rfl) (ltn rfl) ?_
      refine wl_val (r_fieldA 28 Tryz.underlying66 rfl rfl Tryz.sizeOf3 (by decide) rfl (by first | exact Nat.zero_add _ | rfl)) (ltn rfl) ?_
      refine wl_val (r_load (plain_of Tryz.underlying3 rfl) rfl (cell_of_blk (H41).get.2 rfl)) (ltn rfl) ?_
      refine wl_val (r_neq rfl rfl) (ltn rfl) ?_
      refine wl_nil ?_
      refine wq_seq ?_
      refine wc_cond rfl (fun h16 => ?_) (fun h16 => ?_)
      · (try simp only [cmpS] at h16)
        have hEG := endGood_eq hs1e hon hrun h16
        refine wc_region ?_
        refine wl_val (r_move rfl) (ltn rfl) ?_
        refine wl_val (r_move rfl) (ltn rfl) ?_
        refine wl_val (r_nil rfl) (ltn rfl) ?_
        refine wl_val (r_fieldA 0 Tryz.underlying66 rfl rfl Tryz.sizeOf62 (by decide) rfl (by first | exact Nat.zero_add _ | rfl)) (ltn rfl) ?_
        refine wl_val (r_fieldA 7 Tryz.underlying62 rfl rfl Tryz.sizeOf3 (by decide) rfl (by first | exact Nat.zero_add _ | rfl)) (ltn rfl) ?_
        refine wl_eff0 (e_storeL 7 (l' := [_, _, _, _, _, _, _, _, _, _, _, _, _, _, _, _, _, _, _, _, _, _, _, _, _, _, _, _, _, _, _, _, _, _]) H41 Tryz.sizeOf3 rfl rfl (by first | rfl | assumption) rfl rfl) ?_
        rintro _ w42 H42
        refine wl_val (r_nil rfl) (ltn rfl) ?_
        refine wl_val (r_fieldA 0 Tryz.underlying66 rfl rfl Tryz.sizeOf62 (by decide) rfl (by first | exact Nat.zero_add _ | rfl)) (ltn rfl) ?_
        refine wl_val (r_fieldA 8 Tryz.underlying62 rfl rfl Tryz.sizeOf3 (by decide) rfl (by first | exact Nat.zero_add _ | rfl)) (ltn rfl) ?_
        refine wl_eff0 (e_storeL 8 (l' := [_, _, _, _, _, _, _, _, _, _, _, _, _, _, _, _, _, _, _, _, _, _, _, _, _, _, _, _, _, _, _, _, _, _]) H42 Tryz.sizeOf3 rfl rfl (by first | rfl | assumption) rfl rfl) ?_
        rintro _ w43 H43
        refine wl_nil ?_
        refine wq_seq ?_
        refine wc_seq ?_
        refine wc_region ?_
        refine wl_val (r_assign rfl) (ltn rfl) ?_
        refine wl_nil ?_
        refine wq_seq ?_
        refine wc_ret ?_
        refine wq_end1 (.inl rfl) Tryz.results13 rfl ?_
        refine ⟨rfl, ?_⟩
        first
          | exact absurd (hw2.symm.trans hwh) (by decide)
          | exact absurd (hwh.symm.trans hw2) (by decide)
          | (rw [hEG]; exact Holds.mk_ed ok_e says_e H43.f11.f11.f11.f11.f11.f11.f11.f11.f11.f11.f11)
      · (try simp only [cmpS] at h16)
        have hEG := endGood_eq2 hs1e hon hrun h16
        refine wc_skip ?_
        refine wq_seq ?_
        refine wc_seq ?_
        refine wc_region ?_
        refine wl_val (r_assign rfl) (ltn rfl) ?_
        refine wl_nil ?_
        refine wq_seq ?_
        refine wc_ret ?_
        refine wq_end1 (.inl rfl) Tryz.results13 rfl ?_
        refine ⟨rfl, ?_⟩
        first
          | exact absurd (hw2.symm.trans hwh) (by decide)
          | exact absurd (hwh.symm.trans hw2) (by decide)
          | (rw [hEG]; exact Holds.mk_ed ok_e says_e H41.f11.f11.f11.f11.f11.f11.f11.f11.f11.f11.f11)
  · (try simp only [cmpS] at h2)
    have har : s.argues = true := by simpa using h2
    have hs1 : ({ s with inn := false } : EdS) = s.endArg := by unfold EdS.endArg; rw [if_pos har]
    refine wl_yes rfl rfl ?_
    refine wl_val (r_move rfl) (ltn rfl) ?_
    refine wl_yes rfl rfl ?_
    refine wl_val (r_neq rfl rfl) (ltn rfl) ?_
    refine wl_val (r_pick_f rfl rfl) (ltn rfl) ?_
    refine wl_nil ?_
    refine wq_seq ?_
    refine wc_cond rfl (fun h => by exfalso; (try simp only [cmpS] at h); simp at h) (fun h17 => ?_)
    (try simp only [cmpS] at h17)
    refine wc_skip ?_
    refine wq_seq ?_
    refine wc_seq ?_
    refine wc_seq ?_
    refine wc_region ?_
    refine wl_val (r_move rfl) (ltn rfl) ?_
    refine wl_val (r_neq rfl rfl) (ltn rfl) ?_
    refine wl_nil ?_
    refine wq_seq ?_
    refine wc_cond rfl (fun h => by exfalso; (try simp only [cmpS] at h); simp at h) (fun h18 => ?_)
    (try simp only [cmpS] at h18)
    refine wc_skip ?_
    refine wq_seq ?_
    refine wc_seq ?_
    have H12d43 := H3.drew
    have hS12d43 := Holds.kp (H12d43.f11.f11.f11.f11.f11.f11.f11.f11.f11.f11.f11)
    refine wd_beginK [3, 9, 14] hS12d43 (by kernel_rfl) (by kernel_rfl) rfl ?_
    refine wd_takeT 0 rfl (by kernel_rfl) (by kernel_rfl) hS12d43 (fun _ => r_move rfl) (ltn rfl) ?_
    refine wd_takeT 1 rfl (by kernel_rfl) (by kernel_rfl) hS12d43 (fun _ => r_nil rfl) (ltn rfl) ?_
    refine wd_takeT 2 rfl (by kernel_rfl) (by kernel_rfl) hS12d43 (fun _ => r_fieldA 28 Tryz.underlying66 rfl rfl Tryz.sizeOf3 (by decide) rfl (by first | exact Nat.zero_add _ | rfl)) (ltn rfl) ?_
    refine wd_take 3 rfl (by kernel_rfl) (by kernel_rfl) hS12d43 (by decide) (fun W hW => r_load (plain_of Tryz.underlying3 rfl) rfl (cell_of_blk ((Kp.h hW)).get.2 rfl)) (ltn rfl) ?_
    refine wd_takeT 4 rfl (by kernel_rfl) (by kernel_rfl) hS12d43 (fun _ => r_eql rfl rfl) (ltn rfl) ?_
    refine wd_split 5 rfl rfl (by kernel_rfl) (by kernel_rfl) hS12d43 (ltn rfl) (fun h19 => ?_) (fun h19 => ?_)
    · (try simp only [cmpS] at h19)
      have hc3 : s.cls = 3 := h19
      refine wd_takeT_yes 6 rfl rfl rfl (by kernel_rfl) (by kernel_rfl) hS12d43 (fun _ => r_move rfl) (ltn rfl) ?_
      refine wd_takeT_yes 7 rfl rfl rfl (by kernel_rfl) (by kernel_rfl) hS12d43 (fun _ => r_nil rfl) (ltn rfl) ?_
      refine wd_takeT_yes 8 rfl rfl rfl (by kernel_rfl) (by kernel_rfl) hS12d43 (fun _ => r_fieldA 32 Tryz.underlying66 rfl rfl Tryz.sizeOf4 (by decide) rfl (by first | exact Nat.zero_add _ | rfl)) (ltn rfl) ?_
      refine wd_take_yes 9 rfl rfl rfl (by kernel_rfl) (by kernel_rfl) hS12d43 (by decide) (fun W hW => r_load (plain_of Tryz.underlying4 rfl) rfl (cell_of_blk ((Kp.h hW)).get.2 rfl)) (ltn rfl) ?_
      refine wd_takeT 10 rfl (by kernel_rfl) (by kernel_rfl) hS12d43 (fun _ => r_pick_t rfl rfl) (ltn rfl) ?_
      refine wd_takeT 11 rfl (by kernel_rfl) (by kernel_rfl) hS12d43 (fun _ => r_move rfl) (ltn rfl) ?_
      refine wd_takeT 12 rfl (by kernel_rfl) (by kernel_rfl) hS12d43 (fun _ => r_nil rfl) (ltn rfl) ?_
      refine wd_takeT 13 rfl (by kernel_rfl) (by kernel_rfl) hS12d43 (fun _ => r_fieldA 33 Tryz.underlying66 rfl rfl Tryz.sizeOf64 (by decide) rfl (by first | exact Nat.zero_add _ | rfl)) (ltn rfl) ?_
      refine wd_take 14 rfl (by kernel_rfl) (by kernel_rfl) hS12d43 (by decide) (fun W hW => r_load (plain_of Tryz.underlying64 rfl) rfl (cell_of_blk ((Kp.h hW)).get.2 rfl)) (ltn rfl) ?_
      refine wd_takeT 15 rfl (by kernel_rfl) (by kernel_rfl) hS12d43 (fun _ => r_lenS ((H12d43.f9).row_rd) Tryz.underlying64 rfl) (ltn rfl) ?_
      refine wd_takeT 16 rfl (by kernel_rfl) (by kernel_rfl) hS12d43 (fun _ => r_gtr rfl rfl) (ltn rfl) ?_
      refine wd_takeT 17 rfl (by kernel_rfl) (by kernel_rfl) hS12d43 (fun _ => r_assign rfl) (ltn rfl) ?_
      refine wd_takeT 18 rfl (by kernel_rfl) (by kernel_rfl) hS12d43 (fun _ => r_assign rfl) (ltn rfl) ?_
      refine wd_done (by kernel_rfl) ?_
      refine wq_seq ?_
      refine wc_seq ?_
      refine wc_region ?_
      refine wl_val (r_move rfl) (ltn rfl) ?_
      refine wl_val (r_move rfl) (ltn rfl) ?_
      refine wl_split rfl (ltn rfl) (fun h20 => ?_) (fun h20 => ?_)
      · (try simp only [cmpS] at h20)
        have hwh : s.whole = true := h20
        have hty : s.typed = true := by unfold EdS.typed; rw [hc3, hwh]; rfl
        refine wl_yes rfl rfl ?_
        refine wl_val (r_move rfl) (ltn rfl) ?_
        refine wl_yes rfl rfl ?_
        refine wl_val (r_nil rfl) (ltn rfl) ?_
        refine wl_yes rfl rfl ?_
        refine wl_val (r_fieldA 0 Tryz.underlying66 rfl rfl Tryz.sizeOf62 (by decide) rfl (by first | exact Nat.zero_add _ | rfl)) (ltn rfl) ?_
        refine wl_yes rfl rfl ?_
        refine wl_val (r_fieldA 10 Tryz.underlying62 rfl rfl Tryz.sizeOf4 (by decide) rfl (by first | exact Nat.zero_add _ | rfl)) (ltn rfl) ?_
        refine wl_yes rfl rfl ?_
        refine wl_val (r_load (plain_of Tryz.underlying4 rfl) rfl (cell_of_blk (H12d43).get.2 rfl)) (ltn rfl) ?_
        refine wl_val (r_pick_t rfl rfl) (ltn rfl) ?_
        have Hd44 := H12d43.f11.right
        have HW0 := Holds.was_no (c := s.was) (u := [u0_e, u1_e, u2_e, u3_e, u4_e, u5_e, u6_e, u7_e, u8_e, u9_e, ua_e]) Hd44
        obtain ⟨s1, hs1e, HS1⟩ : ∃ s1, s1 = s.endArg ∧ Holds w0 (w3.drew) (EdRep e s1 • F) := ⟨_, hs1, Holds.mk_ed (hs1 ▸ endArg_ok ok_e) says_e HW0.f11.f11.f11.f11.f11.f11.f11.f11.f11.f11⟩
        have hr1 : s1.c.run = s.c.run := by rw [hs1e]; unfold EdS.endArg; split <;> rfl
        refine wl_eff (e_call (r_call rfl Tryz.func53 rfl rfl) (ed_flush_ret HS1)) (ltn rfl) ?_
        rintro _ w45 H45
        obtain ⟨on, hon, HZ⟩ : ∃ on, (s.typed && s.c.run) = on ∧ Holds w0 w45 (EdRep e (s1.flushS on) • F) := ⟨_, by rw [hty]; rfl, H45⟩
        refine wl_nil ?_
        refine wq_seq ?_
        refine wc_seq ?_
        obtain ⟨pb_e, pr_e, pw_e, pt_e, pm_e, ph_e, bl_e, pv_e, es_e, u0_e, u1_e, u2_e, u3_e, u4_e, u5_e, u6_e, u7_e, u8_e, u9_e, ua_e, ok_e, says_e, plen_e, HE_e⟩ := (HZ).edO
        refine wc_region ?_
        refine wl_val (r_move rfl) (ltn rfl) ?_
        refine wl_val (r_move rfl) (ltn rfl) ?_
        refine wl_split rfl (ltn rfl) (fun h21 => ?_) (fun h21 => ?_)
        · (try simp only [cmpS] at h21)
          have hw2 : s.whole = true := h21
          refine wl_yes rfl rfl ?_
          refine wl_val (r_move rfl) (ltn rfl) ?_
          refine wl_yes rfl rfl ?_
          refine wl_split rfl (ltn rfl) (fun h22 => ?_) (fun h22 => ?_)
          · (try simp only [cmpS] at h22)
            have hrun : (s.typed && (!s.put.isEmpty || s.c.run)) = true := by first | exact absurd (hw2.symm.trans hwh) (by decide) | (rw [put_empty, decide_eq_false (show ¬ s.put.length = 0 by omega), hty]; rfl)
            refine wl_no rfl rfl rfl (ltn rfl) ?_
            refine wl_no rfl rfl rfl (ltn rfl) ?_
            refine wl_no rfl rfl rfl (ltn rfl) ?_
            refine wl_no rfl rfl rfl (ltn rfl) ?_
            refine wl_no rfl rfl rfl (ltn rfl) ?_
            refine wl_yes rfl rfl ?_
            refine wl_val (r_pick_t rfl rfl) (ltn rfl) ?_
            refine wl_val (r_pick_t rfl rfl) (ltn rfl) ?_
            refine wl_val (r_nil rfl) (ltn rfl) ?_
            refine wl_val (r_fieldA 0 Tryz.underlying66 rfl rfl Tryz.sizeOf62 (by decide) rfl (by first | exact Nat.zero_add _ | rfl)) (ltn rfl) ?_
            refine wl_val (r_fieldA 10 Tryz.underlying62 rfl rfl Tryz.sizeOf4 (by decide) rfl (by first | exact Nat.zero_add _ | rfl)) (ltn rfl) ?_
            refine wl_eff0 (e_storeL 10 (l' := [_, _, _, _, _, _, _, _, _, _, _, _, _, _, _, _, _, _, _, _, _, _, _, _, _, _, _, _, _, _, _, _, _, _]) HE_e Tryz.sizeOf4 rfl rfl (by first | rfl | assumption) rfl rfl) ?_
            rintro _ w47 H47
            refine wl_nil ?_
            refine wq_seq ?_
            refine wc_seq ?_
            refine wc_region ?_
            refine wl_val (r_move rfl) (ltn rfl) ?_
            refine wl_val (r_move rfl) (ltn rfl) ?_
            refine wl_val (r_nil rfl) (ltn rfl) ?_
            refine wl_val (r_fieldA 28 Tryz.underlying66 rfl rfl Tryz.sizeOf3 (by decide) rfl (by first | exact Nat.zero_add _ | rfl)) (ltn rfl) ?_
            refine wl_val (r_load (plain_of Tryz.underlying3 rfl) rfl (cell_of_blk (H47).get.2 rfl)) (ltn rfl) ?_
            refine wl_val (r_nil rfl) (ltn rfl) ?_
            refine wl_val (r_fieldA 0 Tryz.underlying66 rfl rfl Tryz.sizeOf62 (by decide) rfl (by first | exact Nat.zero_add _ | rfl)) (ltn rfl) ?_
            refine wl_val (r_fieldA 6 Tryz.underlying62 rfl rfl Tryz.sizeOf3 (by decide) rfl (by first | exact Nat.zero_add _ | rfl)) (ltn rfl) ?_
            refine wl_eff0 (e_storeL 6 (l' := [_, _, _, _, _, _, _, _, _, _, _, _, _, _, _, _, _, _, _, _, _, _, _, _, _, _, _, _, _, _, _, _, _, _]) H47 Tryz.sizeOf3 rfl rfl (by first | rfl | assumption) rfl rfl) ?_
            rintro _ w48 H48
            refine wl_nil ?_
            refine wq_seq ?_
            refine wc_seq ?_
            refine wc_seq ?_
            refine wc_region ?_
            refine wl_val (r_move rfl) (ltn rfl) ?_
            refine wl_val (r_nil rfl) (ltn rfl) ?_
            refine wl_val (r_fieldA 28 Tryz.underlying66 rfl rfl Tryz.sizeOf3 (by decide) rfl (by first | exact Nat.zero_add _ | rfl)) (ltn rfl) ?_
            refine wl_val (r_load (plain_of Tryz.underlying3 rfl) rfl (cell_of_blk (H48).get.2 rfl)) (ltn rfl) ?_
            refine wl_val (r_neq rfl rfl) (ltn rfl) ?_
            refine wl_nil ?_
            refine wq_seq ?_
            refine wc_cond rfl (fun h23 => ?_) (fun h23 => ?_)
            · (try simp only [cmpS] at h23)
              have hEG := endGood_eq hs1e hon hrun h23
              refine wc_region ?_
              refine wl_val (r_move rfl) (ltn rfl) ?_
              refine wl_val (r_move rfl) (ltn rfl) ?_
              refine wl_val (r_nil rfl) (ltn rfl) ?_
              refine wl_val (r_fieldA 0 Tryz.underlying66 rfl rfl Tryz.sizeOf62 (by decide) rfl (by first | exact Nat.zero_add _ | rfl)) (ltn rfl) ?_
              refine wl_val (r_fieldA 7 Tryz.underlying62 rfl rfl Tryz.sizeOf3 (by decide) rfl (by first | exact Nat.zero_add _ | rfl)) (ltn rfl) ?_
              refine wl_eff0 (e_storeL 7 (l' := [_, _, _, _, _, _, _, _, _, _, _, _, _, _, _, _, _, _, _, _, _, _, _, _, _, _, _, _, _, _, _, _, _, _]) H48 Tryz.sizeOf3 rfl rfl (by first | rfl | assumption) rfl rfl) ?_
              rintro _ w49 H49
              refine wl_val (r_nil rfl) (ltn rfl) ?_
              refine wl_val (r_fieldA 0 Tryz.underlying66 rfl rfl Tryz.sizeOf62 (by decide) rfl (by first | exact Nat.zero_add _ | rfl)) (ltn rfl) ?_
              refine wl_val (r_fieldA 8 Tryz.underlying62 rfl rfl Tryz.sizeOf3 (by decide) rfl (by first | exact Nat.zero_add _ | rfl)) (ltn rfl) ?_
              refine wl_eff0 (e_storeL 8 (l' := [_, _, _, _, _, _, _, _, _, _, _, _, _, _, _, _, _, _, _, _, _, _, _, _, _, _, _, _, _, _, _, _, _, _]) H49 Tryz.sizeOf3 rfl rfl (by first | rfl | assumption) rfl rfl) ?_
              rintro _ w50 H50
              refine wl_nil ?_
              refine wq_seq ?_
              refine wc_seq ?_
              refine wc_region ?_
              refine wl_val (r_assign rfl) (ltn rfl) ?_
              refine wl_nil ?_
              refine wq_seq ?_
              refine wc_ret ?_
              refine wq_end1 (.inl rfl) Tryz.results13 rfl ?_
              refine ⟨rfl, ?_⟩
              first
                | exact absurd (hw2.symm.trans hwh) (by decide)
                | exact absurd (hwh.symm.trans hw2) (by decide)
                | (rw [hEG]; exact Holds.mk_ed ok_e says_e H50.f11.f11.f11.f11.f11.f11.f11.f11.f11.f11.f11)
            · (try simp only [cmpS] at h23)
              have hEG := endGood_eq2 hs1e hon hrun h23
              refine wc_skip ?_
              refine wq_seq ?_
              refine wc_seq ?_
              refine wc_region ?_
              refine wl_val (r_assign rfl) (ltn rfl) ?_
              refine wl_nil ?_
              refine wq_seq ?_
              refine wc_ret ?_
              refine wq_end1 (.inl rfl) Tryz.results13 rfl ?_
              refine ⟨rfl, ?_⟩
              first
                | exact absurd (hw2.symm.trans hwh) (by decide)
                | exact absurd (hwh.symm.trans hw2) (by decide)
                | (rw [hEG]; exact Holds.mk_ed ok_e says_e H48.f11.f11.f11.f11.f11.f11.f11.f11.f11.f11.f11)
          · (try simp only [cmpS] at h22)
            have hrun : (s.typed && (!s.put.isEmpty || s.c.run)) = (s1.flushS on).c.run := by first | exact absurd (hw2.symm.trans hwh) (by decide) | (rw [put_empty, decide_eq_true (show s.put.length = 0 by omega), hty, flushS_run, hr1]; rfl)
            refine wl_yes rfl rfl ?_
            refine wl_val (r_move rfl) (ltn rfl) ?_
            refine wl_yes rfl rfl ?_
            refine wl_val (r_nil rfl) (ltn rfl) ?_
            refine wl_yes rfl rfl ?_
            refine wl_val (r_fieldA 0 Tryz.underlying66 rfl rfl Tryz.sizeOf62 (by decide) rfl (by first | exact Nat.zero_add _ | rfl)) (ltn rfl) ?_
            refine wl_yes rfl rfl ?_
            refine wl_val (r_fieldA 10 Tryz.underlying62 rfl rfl Tryz.sizeOf4 (by decide) rfl (by first | exact Nat.zero_add _ | rfl)) (ltn rfl) ?_
            refine wl_yes rfl rfl ?_
            refine wl_val (r_load (plain_of Tryz.underlying4 rfl) rfl (cell_of_blk (HE_e).get.2 rfl)) (ltn rfl) ?_
            refine wl_yes rfl rfl ?_
            refine wl_val (r_pick_f rfl rfl) (ltn rfl) ?_
            refine wl_val (r_pick_t rfl rfl) (ltn rfl) ?_
            refine wl_val (r_nil rfl) (ltn rfl) ?_
            refine wl_val (r_fieldA 0 Tryz.underlying66 rfl rfl Tryz.sizeOf62 (by decide) rfl (by first | exact Nat.zero_add _ | rfl)) (ltn rfl) ?_
            refine wl_val (r_fieldA 10 Tryz.underlying62 rfl rfl Tryz.sizeOf4 (by decide) rfl (by first | exact Nat.zero_add _ | rfl)) (ltn rfl) ?_
            refine wl_eff0 (e_storeL 10 (l' := [_, _, _, _, _, _, _, _, _, _, _, _, _, _, _, _, _, _, _, _, _, _, _, _, _, _, _, _, _, _, _, _, _, _]) HE_e Tryz.sizeOf4 rfl rfl (by first | rfl | assumption) rfl rfl) ?_
            rintro _ w51 H51
            refine wl_nil ?_
            refine wq_seq ?_
            refine wc_seq ?_
            refine wc_region ?_
            refine wl_val (r_move rfl) (ltn rfl) ?_
            refine wl_val (r_move rfl) (ltn rfl) ?_
            refine wl_val (r_nil rfl) (ltn rfl) ?_
            refine wl_val (r_fieldA 28 Tryz.underlying66 rfl rfl Tryz.sizeOf3 (by decide) rfl (by first | exact Nat.zero_add _ | rfl)) (ltn rfl) ?_
            refine wl_val (r_load (plain_of Tryz.underlying3 rfl) rfl (cell_of_blk (H51).get.2 rfl)) (ltn rfl) ?_
            refine wl_val (r_nil rfl) (ltn rfl) ?_
            refine wl_val (r_fieldA 0 Tryz.underlying66 rfl rfl Tryz.sizeOf62 (by decide) rfl (by first | exact Nat.zero_add _ | rfl)) (ltn rfl) ?_
            refine wl_val (r_fieldA 6 Tryz.underlying62 rfl rfl Tryz.sizeOf3 (by decide) rfl (by first | exact Nat.zero_add _ | rfl)) (ltn rfl) ?_
            refine wl_eff0 (e_storeL 6 (l' := [_, _, _, _, _, _, _, _, _, _, _, _, _, _, _, _, _, _, _, _, _, _, _, _, _, _, _, _, _, _, _, _, _, _]) H51 Tryz.sizeOf3 rfl rfl (by first | rfl | assumption) rfl rfl) ?_
            rintro _ w52 H52
            refine wl_nil ?_
            refine wq_seq ?_
            refine wc_seq ?_
            refine wc_seq ?_
            refine wc_region ?_
            refine wl_val (r_move rfl) (ltn rfl) ?_
            refine wl_val (r_nil rfl) (ltn rfl) ?_
            refine wl_val (r_fieldA 28 Tryz.underlying66 rfl rfl Tryz.sizeOf3 (by decide) rfl (by first | exact Nat.zero_add _ | rfl)) (ltn rfl) ?_
            refine wl_val (r_load (plain_of Tryz.underlying3 rfl) rfl (cell_of_blk (H52).get.2 rfl)) (ltn rfl) ?_
            refine wl_val (r_neq rfl rfl) (ltn rfl) ?_
            refine wl_nil ?_
            refine wq_seq ?_
            refine wc_cond rfl (fun h24 => ?_) (fun h24 => ?_)
            · (try simp only [cmpS] at h24)
              have hEG := endGood_eq hs1e hon hrun h24
              refine wc_region ?_
              refine wl_val (r_move rfl) (ltn rfl) ?_
              refine wl_val (r_move rfl) (ltn rfl) ?_
              refine wl_val (r_nil rfl) (ltn rfl) ?_
              refine wl_val (r_fieldA 0 Tryz.underlying66 rfl rfl Tryz.sizeOf62 (by decide) rfl (by first | exact Nat.zero_add _ | rfl)) (ltn rfl) ?_
              refine wl_val (r_fieldA 7 Tryz.underlying62 rfl rfl Tryz.sizeOf3 (by decide) rfl (by first | exact Nat.zero_add _ | rfl)) (ltn rfl) ?_
              refine wl_eff0 (e_storeL 7 (l' := [_, _, _, _, _, _, _, _, _, _, _, _, _, _, _, _, _, _, _, _, _, _, _, _, _, _, _, _, _, _, _, _, _, _]) H52 Tryz.sizeOf3 rfl rfl (by first | rfl | assumption) rfl rfl) ?_
              rintro _ w53 H53
              refine wl_val (r_nil rfl) (ltn rfl) ?_
              refine wl_val (r_fieldA 0 Tryz.underlying66 rfl rfl Tryz.sizeOf62 (by decide) rfl (by first | exact Nat.zero_add _ | rfl)) (ltn rfl) ?_
              refine wl_val (r_fieldA 8 Tryz.underlying62 rfl rfl Tryz.sizeOf3 (by decide) rfl (by first | exact Nat.zero_add _ | rfl)) (ltn rfl) ?_
              refine wl_eff0 (e_storeL 8 (l' := [_, _, _, _, _, _, _, _, _, _, _, _, _, _, _, _, _, _, _, _, _, _, _, _, _, _, _, _, _, _, _, _, _, _]) H53 Tryz.sizeOf3 rfl rfl (by first | rfl | assumption) rfl rfl) ?_
              rintro _ w54 H54
              refine wl_nil ?_
              refine wq_seq ?_
              refine wc_seq ?_
              refine wc_region ?_
              refine wl_val (r_assign rfl) (ltn rfl) ?_
              refine wl_nil ?_
              refine wq_seq ?_
              refine wc_ret ?_
              refine wq_end1 (.inl rfl) Tryz.results13 rfl ?_
              refine ⟨rfl, ?_⟩
              first
                | exact absurd (hw2.symm.trans hwh) (by decide)
                | exact absurd (hwh.symm.trans hw2) (by decide)
                | (rw [hEG]; exact Holds.mk_ed ok_e says_e H54.f11.f11.f11.f11.f11.f11.f11.f11.f11.f11.f11)
            · (try simp only [cmpS] at h24)
              have hEG := endGood_eq2 hs1e hon hrun h24
              refine wc_skip ?_
              refine wq_seq ?_
              refine wc_seq ?_
              refine wc_region ?_
              refine wl_val (r_assign rfl) (ltn rfl) ?_
              refine wl_nil ?_
              refine wq_seq ?_
              refine wc_ret ?_
              refine wq_end1 (.inl rfl) Tryz.results13 rfl ?_
              refine ⟨rfl, ?_⟩
              first
                | exact absurd (hw2.symm.trans hwh) (by decide)
                | exact absurd (hwh.symm.trans hw2) (by decide)
                | (rw [hEG]; exact Holds.mk_ed ok_e says_e H52.f11.f11.f11.f11.f11.f11.f11.f11.f11.f11.f11)
        · (try simp only [cmpS] at h21)
          have hw2 : s.whole = false := by simpa using h21
          have hrun : (s.typed && (!s.put.isEmpty || s.c.run)) = false := by first | exact absurd (hwh.symm.trans hw2) (by decide) | (rw [hty]; rfl)
          refine wl_no rfl rfl rfl (ltn rfl) ?_
          refine wl_no rfl rfl rfl (ltn rfl) ?_
          refine wl_nou rfl rfl (ltn rfl) ?_
          refine wl_nou rfl rfl (ltn rfl) ?_
          refine wl_nou rfl rfl (ltn rfl) ?_
          refine wl_nou rfl rfl (ltn rfl) ?_
          refine wl_nou rfl rfl (ltn rfl) ?_
          refine wl_no rfl rfl rfl (ltn rfl) ?_
          refine wl_val (r_pick_f rfl rfl) (ltn rfl) ?_
          refine wl_val (r_nil rfl) (ltn rfl) ?_
          refine wl_val (r_fieldA 0 Tryz.underlying66 rfl rfl Tryz.sizeOf62 (by decide) rfl (by first | exact Nat.zero_add _ | rfl)) (ltn rfl) ?_
          refine wl_val (r_fieldA 10 Tryz.underlying62 rfl rfl Tryz.sizeOf4 (by decide) rfl (by first | exact Nat.zero_add _ | rfl)) (ltn rfl) ?_
          refine wl_eff0 (e_storeL 10 (l' := [_, _, _, _, _, _, _, _, _, _, _, _, _, _, _, _, _, _, _, _, _, _, _, _, _, _, _, _, _, _, _, _, _, _]) HE_e Tryz.sizeOf4 rfl rfl (by first | rfl | assumption) rfl rfl) ?_
          rintro _ w55 H55
          refine wl_nil ?_
          refine wq_seq ?_
          refine wc_seq ?_
          refine wc_region ?_
          refine wl_val (r_move rfl) (ltn rfl) ?_
          refine wl_val (r_move rfl) (ltn rfl) ?_
          refine wl_val (r_nil rfl) (ltn rfl) ?_
          refine wl_val (r_fieldA 28 Tryz.underlying66 rfl rfl Tryz.sizeOf3 (by decide) rfl (by first | exact Nat.zero_add _ | rfl)) (ltn rfl) ?_
          refine wl_val (r_load (plain_of Tryz.underlying3 rfl) rfl (cell_of_blk (H55).get.2 rfl)) (ltn rfl) ?_
          refine wl_val (r_nil rfl) (ltn rfl) ?_
          refine wl_val (r_fieldA 0 Tryz.underlying66 rfl rfl Tryz.sizeOf62 (by decide) rfl (by first | exact Nat.zero_add _ | rfl)) (ltn rfl) ?_
          refine wl_val (r_fieldA 6 Tryz.underlying62 rfl rfl Tryz.sizeOf3 (by decide) rfl (by first | exact Nat.zero_add _ | rfl)) (ltn rfl) ?_
          refine wl_eff0 (e_storeL 6 (l' := [_, _, _, _, _, _, _, _, _, _, _, _, _, _, _, _, _, _, _, _, _, _, _, _, _, _, _, _, _, _, _, _, _, _]) H55 Tryz.sizeOf3 rfl rfl (by first | rfl | assumption) rfl rfl) ?_
          rintro _ w56 H56
          refine wl_nil ?_
          refine wq_seq ?_
          refine wc_seq ?_
          refine wc_seq ?_
          refine wc_region ?_
          refine wl_val (r_move rfl) (ltn rfl) ?_
          refine wl_val (r_nil rfl) (ltn rfl) ?_
          refine wl_val (r_fieldA 28 Tryz.underlying66 rfl rfl Tryz.sizeOf3 (by decide) rfl (by first | exact Nat.zero_add _ | rfl)) (ltn rfl) ?_
          refine wl_val (r_load (plain_of Tryz.underlying3 rfl) rfl (cell_of_blk (H56).get.2 rfl)) (ltn rfl) ?_
          refine wl_val (r_neq rfl rfl) (ltn rfl) ?_
          refine wl_nil ?_
          refine wq_seq ?_
          refine wc_cond rfl (fun h25 => ?_) (fun h25 => ?_)
          · (try simp only [cmpS] at h25)
            have hEG := endGood_eq hs1e hon hrun h25
            refine wc_region ?_
            refine wl_val (r_move rfl) (ltn rfl) ?_
            refine wl_val (r_move rfl) (ltn rfl) ?_
            refine wl_val (r_nil rfl) (ltn rfl) ?_
            refine wl_val (r_fieldA 0 Tryz.underlying66 rfl rfl Tryz.sizeOf62 (by decide) rfl (by first | exact Nat.zero_add _ | rfl)) (ltn rfl) ?_
            refine wl_val (r_fieldA 7 Tryz.underlying62 rfl rfl Tryz.sizeOf3 (by decide) rfl (by first | exact Nat.zero_add _ | rfl)) (ltn rfl) ?_
            refine wl_eff0 (e_storeL 7 (l' := [_, _, _, _, _, _, _, _, _, _, _, _, _, _, _, _, _, _, _, _, _, _, _, _, _, _, _, _, _, _, _, _, _, _]) H56 Tryz.sizeOf3 rfl rfl (by first | rfl | assumption) rfl rfl) ?_
            rintro _ w57 H57
            refine wl_val (r_nil rfl) (ltn rfl) ?_
            refine wl_val (r_fieldA 0 Tryz.underlying66 rfl rfl Tryz.sizeOf62 (by decide) rfl (by first | exact Nat.zero_add _ | rfl)) (ltn rfl) ?_
            refine wl_val (r_fieldA 8 Tryz.underlying62 rfl rfl Tryz.sizeOf3 (by decide) rfl (by first | exact Nat.zero_add _ | rfl)) (ltn rfl) ?_
            refine wl_eff0 (e_storeL 8 (l' := [_, _, _, _, _, _, _, _, _, _, _, _, _, _, _, _, _, _, _, _, _, _, _, _, _, _, _, _, _, _, _, _, _, _]) H57 Tryz.sizeOf3 rfl rfl (by first | rfl | assumption) rfl rfl) ?_
            rintro _ w58 H58
            refine wl_nil ?_
            refine wq_seq ?_
            refine wc_seq ?_
            refine wc_region ?_
            refine wl_val (r_assign rfl) (ltn rfl) ?_
            refine wl_nil ?_
            refine wq_seq ?_
            refine wc_ret ?_
            refine wq_end1 (.inl rfl) Tryz.results13 rfl ?_
            refine ⟨rfl, ?_⟩
            first
              | exact absurd (hw2.symm.trans hwh) (by decide)
              | exact absurd (hwh.symm.trans hw2) (by decide)
              | (rw [hEG]; exact Holds.mk_ed ok_e says_e H58.f11.f11.f11.f11.f11.f11.f11.f11.f11.f11.f11)
          · (try simp only [cmpS] at h25)
            have hEG := endGood_eq2 hs1e hon hrun h25
            refine wc_skip ?_
            refine wq_seq ?_
            refine wc_seq ?_
            refine wc_region ?_
            refine wl_val (r_assign rfl) (ltn rfl) ?_
            refine wl_nil ?_
            refine wq_seq ?_
            refine wc_ret ?_
            refine wq_end1 (.inl rfl) Tryz.results13 rfl ?_
            refine ⟨rfl, ?_⟩
            first
              | exact absurd (hw2.symm.trans hwh) (by decide)
              | exact absurd (hwh.symm.trans hw2) (by decide)
              | (rw [hEG]; exact Holds.mk_ed ok_e says_e H56.f11.f11.f11.f11.f11.f11.f11.f11.f11.f11.f11)
      · (try simp only [cmpS] at h20)
        have hwh : s.whole = false := by simpa using h20
        have hty : s.typed = false := by unfold EdS.typed; rw [hc3, hwh]; rfl
        have hrun : (s.typed && (!s.put.isEmpty || s.c.run)) = false := by rw [hty]; rfl
        refine wl_no rfl rfl rfl (ltn rfl) ?_
        refine wl_no rfl rfl rfl (ltn rfl) ?_
        refine wl_no rfl rfl rfl (ltn rfl) ?_
        refine wl_no rfl rfl rfl (ltn rfl) ?_
        refine wl_no rfl rfl rfl (ltn rfl) ?_
        refine wl_val (r_pick_f rfl rfl) (ltn rfl) ?_
        have Hd59 := H12d43.f11.right
        have HW0 := Holds.was_no (c := s.was) (u := [u0_e, u1_e, u2_e, u3_e, u4_e, u5_e, u6_e, u7_e, u8_e, u9_e, ua_e]) Hd59
        obtain ⟨s1, hs1e, HS1⟩ : ∃ s1, s1 = s.endArg ∧ Holds w0 (w3.drew) (EdRep e s1 • F) := ⟨_, hs1, Holds.mk_ed (hs1 ▸ endArg_ok ok_e) says_e HW0.f11.f11.f11.f11.f11.f11.f11.f11.f11.f11⟩
        have hr1 : s1.c.run = s.c.run := by rw [hs1e]; unfold EdS.endArg; split <;> rfl
        refine wl_eff (e_call (r_call rfl Tryz.func53 rfl rfl) (ed_flush_ret HS1)) (ltn rfl) ?_
        rintro _ w60 H60
        obtain ⟨on, hon, HZ⟩ : ∃ on, (s.typed && s.c.run) = on ∧ Holds w0 w60 (EdRep e (s1.flushS on) • F) := ⟨_, by rw [hty]; rfl, H60⟩
        refine wl_nil ?_
        refine wq_seq ?_
        refine wc_seq ?_
        obtain ⟨pb_e, pr_e, pw_e, pt_e, pm_e, ph_e, bl_e, pv_e, es_e, u0_e, u1_e, u2_e, u3_e, u4_e, u5_e, u6_e, u7_e, u8_e, u9_e, ua_e, ok_e, says_e, plen_e, HE_e⟩ := (HZ).edO
        refine wc_region ?_
        refine wl_val (r_move rfl) (ltn rfl) ?_
        refine wl_val (r_move rfl) (ltn rfl) ?_
        refine wl_split rfl (ltn rfl) (fun h26 => ?_) (fun h26 => ?_)
        · (try simp only [cmpS] at h26)
          have hw2 : s.whole = true := h26
          refine wl_yes rfl rfl ?_
          refine wl_val (r_move rfl) (ltn rfl) ?_
          refine wl_yes rfl rfl ?_
          refine wl_split rfl (ltn rfl) (fun h27 => ?_) (fun h27 => ?_)
          · (try simp only [cmpS] at h27)
            have hrun : (s.typed && (!s.put.isEmpty || s.c.run)) = true := by first | exact absurd (hw2.symm.trans hwh) (by decide) | (rw [put_empty, decide_eq_false (show ¬ s.put.length = 0 by omega), hty]; rfl)
            refine wl_no rfl rfl rfl (ltn rfl) ?_
            refine wl_no rfl rfl rfl (ltn rfl) ?_
            refine wl_no rfl rfl rfl (ltn rfl) ?_
            refine wl_no rfl rfl rfl (ltn rfl) ?_
            refine wl_no rfl rfl rfl (ltn rfl) ?_
            refine wl_yes rfl rfl ?_
            refine wl_val (r_pick_t rfl rfl) (ltn rfl) ?_
            refine wl_val (r_pick_t rfl rfl) (ltn rfl) ?_
            refine wl_val (r_nil rfl) (ltn rfl) ?_
            refine wl_val (r_fieldA 0 Tryz.underlying66 rfl rfl Tryz.sizeOf62 (by decide) rfl (by first | exact Nat.zero_add _ | rfl)) (ltn rfl) ?_
            refine wl_val (r_fieldA 10 Tryz.underlying62 rfl rfl Tryz.sizeOf4 (by decide) rfl (by first | exact Nat.zero_add _ | rfl)) (ltn rfl) ?_
            refine wl_eff0 (e_storeL 10 (l' := [_, _, _, _, _, _, _, _, _, _, _, _, _, _, _, _, _, _, _, _, _, _, _, _, _, _, _, _, _, _, _, _, _, _]) HE_e Tryz.sizeOf4 rfl rfl (by first | rfl | assumption) rfl rfl) ?_
            rintro _ w62 H62
            refine wl_nil ?_
            refine wq_seq ?_
            refine wc_seq ?_
            refine wc_region ?_
            refine wl_val (r_move rfl) (ltn rfl) ?_
            refine wl_val (r_move rfl) (ltn rfl) ?_
            refine wl_val (r_nil rfl) (ltn rfl) ?_
            refine wl_val (r_fieldA 28 Tryz.underlying66 rfl rfl Tryz.sizeOf3 (by decide) rfl (by first | exact Nat.zero_add _ | rfl)) (ltn rfl) ?_
            refine wl_val (r_load (plain_of Tryz.underlying3 rfl) rfl (cell_of_blk (H62).get.2 rfl)) (ltn rfl) ?_
            refine wl_val (r_nil rfl) (ltn rfl) ?_
            refine wl_val (r_fieldA 0 Tryz.underlying66 rfl rfl Tryz.sizeOf62 (by decide) rfl (by first | exact Nat.zero_add _ | rfl)) (ltn rfl) ?_
            refine wl_val (r_fieldA 6 Tryz.underlying62 rfl rfl Tryz.sizeOf3 (by decide) rfl (by first | exact Nat.zero_add _ | rfl)) (ltn rfl) ?_
            refine wl_eff0 (e_storeL 6 (l' := [_, _, _, _, _, _, _, _, _, _, _, _, _, _, _, _, _, _, _, _, _, _, _, _, _, _, _, _, _, _, _, _, _, _]) H62 Tryz.sizeOf3 rfl rfl (by first | rfl | assumption) rfl rfl) ?_
            rintro _ w63 H63
            refine wl_nil ?_
            refine wq_seq ?_
            refine wc_seq ?_
            refine wc_seq ?_
            refine wc_region ?_
            refine wl_val (r_move rfl) (ltn rfl) ?_
            refine wl_val (r_nil rfl) (ltn rfl) ?_
            refine wl_val (r_fieldA 28 Tryz.underlying66 rfl rfl Tryz.sizeOf3 (by decide) rfl (by first | exact Nat.zero_add _ | rfl)) (ltn rfl) ?_
            refine wl_val (r_load (plain_of Tryz.underlying3 rfl) rfl (cell_of_blk (H63).get.2 rfl)) (ltn rfl) ?_
            refine wl_val (r_neq rfl rfl) (ltn rfl) ?_
            refine wl_nil ?_
            refine wq_seq ?_
            refine wc_cond rfl (fun h28 => ?_) (fun h28 => ?_)
            · (try simp only [cmpS] at h28)
              have hEG := endGood_eq hs1e hon hrun h28
              refine wc_region ?_
              refine wl_val (r_move rfl) (ltn rfl) ?_
              refine wl_val (r_move rfl) (ltn rfl) ?_
              refine wl_val (r_nil rfl) (ltn rfl) ?_
              refine wl_val (r_fieldA 0 Tryz.underlying66 rfl rfl Tryz.sizeOf62 (by decide) rfl (by first | exact Nat.zero_add _ | rfl)) (ltn rfl) ?_
              refine wl_val (r_fieldA 7 Tryz.underlying62 rfl rfl Tryz.sizeOf3 (by decide) rfl (by first | exact Nat.zero_add _ | rfl)) (ltn rfl) ?_
              refine wl_eff0 (e_storeL 7 (l' := [_, _, _, _, _, _, _, _, _, _, _, _, _, _, _, _, _, _, _, _, _, _, _, _, _, _, _, _, _, _, _, _, _, _]) H63 Tryz.sizeOf3 rfl rfl (by first | rfl | assumption) rfl rfl) ?_
              rintro _ w64 H64
              refine wl_val (r_nil rfl) (ltn rfl) ?_
              refine wl_val (r_fieldA 0 Tryz.underlying66 rfl rfl Tryz.sizeOf62 (by decide) rfl (by first | exact Nat.zero_add _ | rfl)) (ltn rfl) ?_
              refine wl_val (r_fieldA 8 Tryz.underlying62 rfl rfl Tryz.sizeOf3 (by decide) rfl (by first | exact Nat.zero_add _ | rfl)) (ltn rfl) ?_
              refine wl_eff0 (e_storeL 8 (l' := [_, _, _, _, _, _, _, _, _, _, _, _, _, _, _, _, _, _, _, _, _, _, _, _, _, _, _, _, _, _, _, _, _, _]) H64 Tryz.sizeOf3 rfl rfl (by first | rfl | assumption) rfl rfl) ?_
              rintro _ w65 H65
              refine wl_nil ?_
              refine wq_seq ?_
              refine wc_seq ?_
              refine wc_region ?_
              refine wl_val (r_assign rfl) (ltn rfl) ?_
              refine wl_nil ?_
              refine wq_seq ?_
              refine wc_ret ?_
              refine wq_end1 (.inl rfl) Tryz.results13 rfl ?_
              refine ⟨rfl, ?_⟩
              first
                | exact absurd (hw2.symm.trans hwh) (by decide)
                | exact absurd (hwh.symm.trans hw2) (by decide)
                | (rw [hEG]; exact Holds.mk_ed ok_e says_e H65.f11.f11.f11.f11.f11.f11.f11.f11.f11.f11.f11)
            · (try simp only [cmpS] at h28)
              have hEG := endGood_eq2 hs1e hon hrun h28
              refine wc_skip ?_
              refine wq_seq ?_
              refine wc_seq ?_
              refine wc_region ?_
              refine wl_val (r_assign rfl) (ltn rfl) ?_
              refine wl_nil ?_
              refine wq_seq ?_
              refine wc_ret ?_
              refine wq_end1 (.inl rfl) Tryz.results13 rfl ?_
              refine ⟨rfl, ?_⟩
              first
                | exact absurd (hw2.symm.trans hwh) (by decide)
                | exact absurd (hwh.symm.trans hw2) (by decide)
                | (rw [hEG]; exact Holds.mk_ed ok_e says_e H63.f11.f11.f11.f11.f11.f11.f11.f11.f11.f11.f11)
          · (try simp only [cmpS] at h27)
            have hrun : (s.typed && (!s.put.isEmpty || s.c.run)) = (s1.flushS on).c.run := by first | exact absurd (hw2.symm.trans hwh) (by decide) | (rw [put_empty, decide_eq_true (show s.put.length = 0 by omega), hty, flushS_run, hr1]; rfl)
            refine wl_yes rfl rfl ?_
            refine wl_val (r_move rfl) (ltn rfl) ?_
            refine wl_yes rfl rfl ?_
            refine wl_val (r_nil rfl) (ltn rfl) ?_
            refine wl_yes rfl rfl ?_
            refine wl_val (r_fieldA 0 Tryz.underlying66 rfl rfl Tryz.sizeOf62 (by decide) rfl (by first | exact Nat.zero_add _ | rfl)) (ltn rfl) ?_
            refine wl_yes rfl rfl ?_
            refine wl_val (r_fieldA 10 Tryz.underlying62 rfl rfl Tryz.sizeOf4 (by decide) rfl (by first | exact Nat.zero_add _ | rfl)) (ltn rfl) ?_
            refine wl_yes rfl rfl ?_
            refine wl_val (r_load (plain_of Tryz.underlying4 rfl) rfl (cell_of_blk (HE_e).get.2 rfl)) (ltn rfl) ?_
            refine wl_yes rfl rfl ?_
            refine wl_val (r_pick_f rfl rfl) (ltn rfl) ?_
            refine wl_val (r_pick_t rfl rfl) (ltn rfl) ?_
            refine wl_val (r_nil rfl) (ltn rfl) ?_
            refine wl_val (r_fieldA 0 Tryz.underlying66 rfl rfl Tryz.sizeOf62 (by decide) rfl (by first | exact Nat.zero_add _ | rfl)) (ltn rfl) ?_
            refine wl_val (r_fieldA 10 Tryz.underlying62 rfl rfl Tryz.sizeOf4 (by decide) rfl (by first | exact Nat.zero_add _ | rfl)) (ltn rfl) ?_
            refine wl_eff0 (e_storeL 10 (l' := [_, _, _, _, _, _, _, _, _, _, _, _, _, _, _, _, _, _, _, _, _, _, _, _, _, _, _, _, _, _, _, _, _, _]) HE_e Tryz.sizeOf4 rfl rfl (by first | rfl | assumption) rfl rfl) ?_
            rintro _ w66 H66
            refine wl_nil ?_
            refine wq_seq ?_
            refine wc_seq ?_
            refine wc_region ?_
            refine wl_val (r_move rfl) (ltn rfl) ?_
            refine wl_val (r_move rfl) (ltn rfl) ?_
            refine wl_val (r_nil rfl) (ltn rfl) ?_
            refine wl_val (r_fieldA 28 Tryz.underlying66 rfl rfl Tryz.sizeOf3 (by decide) rfl (by first | exact Nat.zero_add _ | rfl)) (ltn rfl) ?_
            refine wl_val (r_load (plain_of Tryz.underlying3 rfl) rfl (cell_of_blk (H66).get.2 rfl)) (ltn rfl) ?_
            refine wl_val (r_nil rfl) (ltn rfl) ?_
            refine wl_val (r_fieldA 0 Tryz.underlying66 rfl rfl Tryz.sizeOf62 (by decide) rfl (by first | exact Nat.zero_add _ | rfl)) (ltn rfl) ?_
            refine wl_val (r_fieldA 6 Tryz.underlying62 rfl rfl Tryz.sizeOf3 (by decide) rfl (by first | exact Nat.zero_add _ | rfl)) (ltn rfl) ?_
            refine wl_eff0 (e_storeL 6 (l' := [_, _, _, _, _, _, _, _, _, _, _, _, _, _, _, _, _, _, _, _, _, _, _, _, _, _, _, _, _, _, _, _, _, _]) H66 Tryz.sizeOf3 rfl rfl (by first | rfl | assumption) rfl rfl) ?_
            rintro _ w67 H67
            refine wl_nil ?_
            refine wq_seq ?_
            refine wc_seq ?_
            refine wc_seq ?_
            refine wc_region ?_
            refine wl_val (r_move rfl) (ltn rfl) ?_
            refine wl_val (r_nil rfl) (ltn rfl) ?_
            refine wl_val (r_fieldA 28 Tryz.underlying66 rfl rfl Tryz.sizeOf3 (by decide) rfl (by first | exact Nat.zero_add _ | rfl)) (ltn rfl) ?_
            refine wl_val (r_load (plain_of Tryz.underlying3 rfl) rfl (cell_of_blk (H67).get.2 rfl)) (ltn rfl) ?_
            refine wl_val (r_neq rfl rfl) (ltn rfl) ?_
            refine wl_nil ?_
            refine wq_seq ?_
            refine wc_cond rfl (fun h29 => ?_) (fun h29 => ?_)
            · (try simp only [cmpS] at h29)
              have hEG := endGood_eq hs1e hon hrun h29
              refine wc_region ?_
              refine wl_val (r_move rfl) (ltn rfl) ?_
              refine wl_val (r_move rfl) (ltn rfl) ?_
              refine wl_val (r_nil rfl) (ltn rfl) ?_
              refine wl_val (r_fieldA 0 Tryz.underlying66 rfl rfl Tryz.sizeOf62 (by decide) rfl (by first | exact Nat.zero_add _ | rfl)) (ltn rfl) ?_
              refine wl_val (r_fieldA 7 Tryz.underlying62 rfl rfl Tryz.sizeOf3 (by decide) rfl (by first | exact Nat.zero_add _ | rfl)) (ltn rfl) ?_
              refine wl_eff0 (e_storeL 7 (l' := [_, _, _, _, _, _, _, _, _, _, _, _, _, _, _, _, _, _, _, _, _, _, _, _, _, _, _, _, _, _, _, _, _, _]) H67 Tryz.sizeOf3 rfl rfl (by first | rfl | assumption) rfl rfl) ?_
              rintro _ w68 H68
              refine wl_val (r_nil rfl) (ltn rfl) ?_
              refine wl_val (r_fieldA 0 Tryz.underlying66 rfl rfl Tryz.sizeOf62 (by decide) rfl (by first | exact Nat.zero_add _ | rfl)) (ltn rfl) ?_
              refine wl_val (r_fieldA 8 Tryz.underlying62 rfl rfl Tryz.sizeOf3 (by decide) rfl (by first | exact Nat.zero_add _ | rfl)) (ltn rfl) ?_
              refine wl_eff0 (e_storeL 8 (l' := [_, _, _, _, _, _, _, _, _, _, _, _, _, _, _, _, _, _, _, _, _, _, _, _, _, _, _, _, _, _, _, _, _, _]) H68 Tryz.sizeOf3 rfl rfl (by first | rfl | assumption) rfl rfl) ?_
              rintro _ w69 H69
              refine wl_nil ?_
              refine wq_seq ?_
              refine wc_seq ?_
              refine wc_region ?_
              refine wl_val (r_assign rfl) (ltn rfl) ?_
              refine wl_nil ?_
              refine wq_seq ?_
              refine wc_ret ?_
              refine wq_end1 (.inl rfl) Tryz.results13 rfl ?_
              refine ⟨rfl, ?_⟩
              first
                | exact absurd (hw2.symm.trans hwh) (by decide)
                | exact absurd (hwh.symm.trans hw2) (by decide)
                | (rw [hEG]; exact Holds.mk_ed ok_e says_e H69.f11.f11.f11.f11.f11.f11.f11.f11.f11.f11.f11)
            · (try simp only [cmpS] at h29)
              have hEG := endGood_eq2 hs1e hon hrun h29
              refine wc_skip ?_
              refine wq_seq ?_
              refine wc_seq ?_
              refine wc_region ?_
              refine wl_val (r_assign rfl) (ltn rfl) ?_
              refine wl_nil ?_
              refine wq_seq ?_
              refine wc_ret ?_
              refine wq_end1 (.inl rfl) Tryz.results13 rfl ?_
              refine ⟨rfl, ?_⟩
              first
                | exact absurd (hw2.symm.trans hwh) (by decide)
                | exact absurd (hwh.symm.trans hw2) (by decide)
                | (rw [hEG]; exact Holds.mk_ed ok_e says_e H67.f11.f11.f11.f11.f11.f11.f11.f11.f11.f11.f11)
        · (try simp only [cmpS] at h26)
          have hw2 : s.whole = false := by simpa using h26
          have hrun : (s.typed && (!s.put.isEmpty || s.c.run)) = false := by first | exact absurd (hwh.symm.trans hw2) (by decide) | (rw [hty]; rfl)
          refine wl_no rfl rfl rfl (ltn rfl) ?_
          refine wl_no rfl rfl rfl (ltn rfl) ?_
          refine wl_nou rfl rfl (ltn rfl) ?_
          refine wl_nou rfl rfl (ltn rfl) ?_
          refine wl_nou rfl rfl (ltn rfl) ?_
          refine wl_nou rfl rfl (ltn rfl) ?_
          refine wl_nou rfl rfl (ltn rfl) ?_
          refine wl_no rfl rfl rfl (ltn rfl) ?_
          refine wl_val (r_pick_f rfl rfl) (ltn rfl) ?_
          refine wl_val (r_nil rfl) (ltn rfl) ?_
          refine wl_val (r_fieldA 0 Tryz.underlying66 rfl rfl Tryz.sizeOf62 (by decide) rfl (by first | exact Nat.zero_add _ | rfl)) (ltn rfl) ?_
          refine wl_val (r_fieldA 10 Tryz.underlying62 rfl rfl Tryz.sizeOf4 (by decide) rfl (by first | exact Nat.zero_add _ | rfl)) (ltn rfl) ?_
          refine wl_eff0 (e_storeL 10 (l' := [_, _, _, _, _, _, _, _, _, _, _, _, _, _, _, _, _, _, _, _, _, _, _, _, _, _, _, _, _, _, _, _, _, _]) HE_e Tryz.sizeOf4 rfl rfl (by first | rfl | assumption) rfl rfl) ?_
          rintro _ w70 H70
          refine wl_nil ?_
          refine wq_seq ?_
          refine wc_seq ?_
          refine wc_region ?_
          refine wl_val (r_move rfl) (ltn rfl) ?_
          refine wl_val (r_move rfl) (ltn rfl) ?_
          refine wl_val (r_nil rfl) (ltn rfl) ?_
          refine wl_val (r_fieldA 28 Tryz.underlying66 rfl rfl Tryz.sizeOf3 (by decide) rfl (by first | exact Nat.zero_add _ | rfl)) (ltn rfl) ?_
          refine wl_val (r_load (plain_of Tryz.underlying3 rfl) rfl (cell_of_blk (H70).get.2 rfl)) (ltn rfl) ?_
          refine wl_val (r_nil rfl) (ltn rfl) ?_
          refine wl_val (r_fieldA 0 Tryz.underlying66 rfl rfl Tryz.sizeOf62 (by decide) rfl (by first | exact Nat.zero_add _ | rfl)) (ltn rfl) ?_
          refine wl_val (r_fieldA 6 Tryz.underlying62 rfl rfl Tryz.sizeOf3 (by decide) rfl (by first | exact Nat.zero_add _ | rfl)) (ltn rfl) ?_
          refine wl_eff0 (e_storeL 6 (l' := [_, _, _, _, _, _, _, _, _, _, _, _, _, _, _, _, _, _, _, _, _, _, _, _, _, _, _, _, _, _, _, _, _, _]) H70 Tryz.sizeOf3 rfl rfl (by first | rfl | assumption) rfl rfl) ?_
          rintro _ w71 H71
          refine wl_nil ?_
          refine wq_seq ?_
          refine wc_seq ?_
          refine wc_seq ?_
          refine wc_region ?_
          refine wl_val (r_move rfl) (ltn rfl) ?_
          refine wl_val (r_nil rfl) (ltn rfl) ?_
          refine wl_val (r_fieldA 28 Tryz.underlying66 rfl rfl Tryz.sizeOf3 (by decide) rfl (by first | exact Nat.zero_add _ | rfl)) (ltn rfl) ?_
          refine wl_val (r_load (plain_of Tryz.underlying3 rfl) rfl (cell_of_blk (H71).get.2 rfl)) (ltn rfl) ?_
          refine wl_val (r_neq rfl rfl) (ltn rfl) ?_
          refine wl_nil ?_
          refine wq_seq ?_
          refine wc_cond rfl (fun h30 => ?_) (fun h30 => ?_)
          · (try simp only [cmpS] at h30)
            have hEG := endGood_eq hs1e hon hrun h30
            refine wc_region ?_
            refine wl_val (r_move rfl) (ltn rfl) ?_
            refine wl_val (r_move rfl) (ltn rfl) ?_
            refine wl_val (r_nil rfl) (ltn rfl) ?_
            refine wl_val (r_fieldA 0 Tryz.underlying66 rfl rfl Tryz.sizeOf62 (by decide) rfl (by first | exact Nat.zero_add _ | rfl)) (ltn rfl) ?_
            refine wl_val (r_fieldA 7 Tryz.underlying62 rfl rfl Tryz.sizeOf3 (by decide) rfl (by first | exact Nat.zero_add _ | rfl)) (ltn rfl) ?_
            refine wl_eff0 (e_storeL 7 (l' := [_, _, _, _, _, _, _, _, _, _, _, _, _, _, _, _, _, _, _, _, _, _, _, _, _, _, _, _, _, _, _, _, _, _]) H71 Tryz.sizeOf3 rfl rfl (by first | rfl | assumption) rfl rfl) ?_
            rintro _ w72 H72
            refine wl_val (r_nil rfl) (ltn rfl) ?_
            refine wl_val (r_fieldA 0 Tryz.underlying66 rfl rfl Tryz.sizeOf62 (by decide) rfl (by first | exact Nat.zero_add _ | rfl)) (ltn rfl) ?_
            refine wl_val (r_fieldA 8 Tryz.underlying62 rfl rfl Tryz.sizeOf3 (by decide) rfl (by first | exact Nat.zero_add _ | rfl)) (ltn rfl) ?_
            refine wl_eff0 (e_storeL 8 (l' := [_, _, _, _, _, _, _, _, _, _, _, _, _, _, _, _, _, _, _, _, _, _, _, _, _, _, _, _, _, _, _, _, _, _]) H72 Tryz.sizeOf3 rfl rfl (by first | rfl | assumption) rfl rfl) ?_
            rintro _ w73 H73
            refine wl_nil ?_
            refine wq_seq ?_
            refine wc_seq ?_
            refine wc_region ?_
            refine wl_val (r_assign rfl) (ltn rfl) ?_
            refine wl_nil ?_
            refine wq_seq ?_
            refine wc_ret ?_
            refine wq_end1 (.inl rfl) Tryz.results13 rfl ?_
            refine ⟨rfl, ?_⟩
            first
              | exact absurd (hw2.symm.trans hwh) (by decide)
              | exact absurd (hwh.symm.trans hw2) (by decide)
              | (rw [hEG]; exact Holds.mk_ed ok_e says_e H73.f11.f11.f11.f11.f11.f11.f11.f11.f11.f11.f11)
          · (try simp only [cmpS] at h30)
            have hEG := endGood_eq2 hs1e hon hrun h30
            refine wc_skip ?_
            refine wq_seq ?_
            refine wc_seq ?_
            refine wc_region ?_
            refine wl_val (r_assign rfl) (ltn rfl) ?_
            refine wl_nil ?_
            refine wq_seq ?_
            refine wc_ret ?_
            refine wq_end1 (.inl rfl) Tryz.results13 rfl ?_
            refine ⟨rfl, ?_⟩
            first
              | exact absurd (hw2.symm.trans hwh) (by decide)
              | exact absurd (hwh.symm.trans hw2) (by decide)
              | (rw [hEG]; exact Holds.mk_ed ok_e says_e H71.f11.f11.f11.f11.f11.f11.f11.f11.f11.f11.f11)
    · (try simp only [cmpS] at h19)
      have hty : s.typed = false := by unfold EdS.typed; rw [beq_false_of_ne h19]; rfl
      have hrun : (s.typed && (!s.put.isEmpty || s.c.run)) = false := by rw [hty]; rfl
      refine wd_no 6 rfl rfl rfl rfl (by kernel_rfl) (by kernel_rfl) hS12d43 (ltn rfl) ?_
      refine wd_no 7 rfl rfl rfl rfl (by kernel_rfl) (by kernel_rfl) hS12d43 (ltn rfl) ?_
      refine wd_no 8 rfl rfl rfl rfl (by kernel_rfl) (by kernel_rfl) hS12d43 (ltn rfl) ?_
      refine wd_no 9 rfl rfl rfl rfl (by kernel_rfl) (by kernel_rfl) hS12d43 (ltn rfl) ?_
      refine wd_takeT 10 rfl (by kernel_rfl) (by kernel_rfl) hS12d43 (fun _ => r_pick_f rfl rfl) (ltn rfl) ?_
      refine wd_takeT 11 rfl (by kernel_rfl) (by kernel_rfl) hS12d43 (fun _ => r_move rfl) (ltn rfl) ?_
      refine wd_takeT 12 rfl (by kernel_rfl) (by kernel_rfl) hS12d43 (fun _ => r_nil rfl) (ltn rfl) ?_
      refine wd_takeT 13 rfl (by kernel_rfl) (by kernel_rfl) hS12d43 (fun _ => r_fieldA 33 Tryz.underlying66 rfl rfl Tryz.sizeOf64 (by decide) rfl (by first | exact Nat.zero_add _ | rfl)) (ltn rfl) ?_
      refine wd_take 14 rfl (by kernel_rfl) (by kernel_rfl) hS12d43 (by decide) (fun W hW => r_load (plain_of Tryz.underlying64 rfl) rfl (cell_of_blk ((Kp.h hW)).get.2 rfl)) (ltn rfl) ?_
      refine wd_takeT 15 rfl (by kernel_rfl) (by kernel_rfl) hS12d43 (fun _ => r_lenS ((H12d43.f9).row_rd) Tryz.underlying64 rfl) (ltn rfl) ?_
      refine wd_takeT 16 rfl (by kernel_rfl) (by kernel_rfl) hS12d43 (fun _ => r_gtr rfl rfl) (ltn rfl) ?_
      refine wd_takeT 17 rfl (by kernel_rfl) (by kernel_rfl) hS12d43 (fun _ => r_assign rfl) (ltn rfl) ?_
      refine wd_takeT 18 rfl (by kernel_rfl) (by kernel_rfl) hS12d43 (fun _ => r_assign rfl) (ltn rfl) ?_
      refine wd_done (by kernel_rfl) ?_
      refine wq_seq ?_
      refine wc_seq ?_
      refine wc_region ?_
      refine wl_val (r_move rfl) (ltn rfl) ?_
      refine wl_val (r_move rfl) (ltn rfl) ?_
      refine wl_val (r_move rfl) (ltn rfl) ?_
      refine wl_no rfl rfl rfl (ltn rfl) ?_
      refine wl_no rfl rfl rfl (ltn rfl) ?_
      refine wl_no rfl rfl rfl (ltn rfl) ?_
      refine wl_no rfl rfl rfl (ltn rfl) ?_
      refine wl_no rfl rfl rfl (ltn rfl) ?_
      refine wl_val (r_pick_f rfl rfl) (ltn rfl) ?_
      have Hd74 := H12d43.f11.right
      have HW0 := Holds.was_no (c := s.was) (u := [u0_e, u1_e, u2_e, u3_e, u4_e, u5_e, u6_e, u7_e, u8_e, u9_e, ua_e]) Hd74
      obtain ⟨s1, hs1e, HS1⟩ : ∃ s1, s1 = s.endArg ∧ Holds w0 (w3.drew) (EdRep e s1 • F) := ⟨_, hs1, Holds.mk_ed (hs1 ▸ endArg_ok ok_e) says_e HW0.f11.f11.f11.f11.f11.f11.f11.f11.f11.f11⟩
      have hr1 : s1.c.run = s.c.run := by rw [hs1e]; unfold EdS.endArg; split <;> rfl
      refine wl_eff (e_call (r_call rfl Tryz.func53 rfl rfl) (ed_flush_ret HS1)) (ltn rfl) ?_
      rintro _ w75 H75
      obtain ⟨on, hon, HZ⟩ : ∃ on, (s.typed && s.c.run) = on ∧ Holds w0 w75 (EdRep e (s1.flushS on) • F) := ⟨_, by rw [hty]; rfl, H75⟩
      refine wl_nil ?_
      refine wq_seq ?_
      refine wc_seq ?_
      obtain ⟨pb_e, pr_e, pw_e, pt_e, pm_e, ph_e, bl_e, pv_e, es_e, u0_e, u1_e, u2_e, u3_e, u4_e, u5_e, u6_e, u7_e, u8_e, u9_e, ua_e, ok_e, says_e, plen_e, HE_e⟩ := (HZ).edO
      refine wc_region ?_
      refine wl_val (r_move rfl) (ltn rfl) ?_
      refine wl_val (r_move rfl) (ltn rfl) ?_
      refine wl_val (r_move rfl) (ltn rfl) ?_
      refine wl_no rfl rfl rfl (ltn rfl) ?_
      refine wl_no rfl rfl rfl (ltn rfl) ?_
      refine wl_nou rfl rfl (ltn rfl) ?_
      refine wl_nou rfl rfl (ltn rfl) ?_
      refine wl_nou rfl rfl (ltn rfl) ?_
      refine wl_nou rfl rfl (ltn rfl) ?_
      refine wl_nou rfl rfl (ltn rfl) ?_
      refine wl_no rfl rfl rfl (ltn rfl) ?_
      refine wl_val (r_pick_f rfl rfl) (ltn rfl) ?_
      refine wl_val (r_nil rfl) (ltn rfl) ?_
      refine wl_val (r_fieldA 0 Tryz.underlying66 rfl rfl Tryz.sizeOf62 (by decide) rfl (by first | exact Nat.zero_add _ | rfl)) (ltn rfl) ?_
      refine wl_val (r_fieldA 10 Tryz.underlying62 rfl rfl Tryz.sizeOf4 (by decide) rfl (by first | exact Nat.zero_add _ | rfl)) (ltn rfl) ?_
      refine wl_eff0 (e_storeL 10 (l' := [_, _, _, _, _, _, _, _, _, _, _, _, _, _, _, _, _, _, _, _, _, _, _, _, _, _, _, _, _, _, _, _, _, _]) HE_e Tryz.sizeOf4 rfl rfl (by first | rfl | assumption) rfl rfl) ?_
      rintro _ w77 H77
      refine wl_nil ?_
      refine wq_seq ?_
      refine wc_seq ?_
      refine wc_region ?_
      refine wl_val (r_move rfl) (ltn rfl) ?_
      refine wl_val (r_move rfl) (ltn rfl) ?_
      refine wl_val (r_nil rfl) (ltn rfl) ?_
      refine wl_val (r_fieldA 28 Tryz.underlying66 rfl rfl Tryz.sizeOf3 (by decide) rfl (by first | exact Nat.zero_add _ | rfl)) (ltn rfl) ?_
      refine wl_val (r_load (plain_of Tryz.underlying3 rfl) rfl (cell_of_blk (H77).get.2 rfl)) (ltn rfl) ?_
      refine wl_val (r_nil rfl) (ltn rfl) ?_
      refine wl_val (r_fieldA 0 Tryz.underlying66 rfl rfl Tryz.sizeOf62 (by decide) rfl (by first | exact Nat.zero_add _ | rfl)) (ltn rfl) ?_
      refine wl_val (r_fieldA 6 Tryz.underlying62 rfl rfl Tryz.sizeOf3 (by decide) rfl (by first | exact Nat.zero_add _ | rfl)) (ltn rfl) ?_
      refine wl_eff0 (e_storeL 6 (l' := [_, _, _, _, _, _, _, _, _, _, _, _, _, _, _, _, _, _, _, _, _, _, _, _, _, _, _, _, _, _, _, _, _, _]) H77 Tryz.sizeOf3 rfl rfl (by first | rfl | assumption) rfl rfl) ?_
      rintro _ w78 H78
      refine wl_nil ?_
      refine wq_seq ?_
      refine wc_seq ?_
      refine wc_seq ?_
      refine wc_region ?_
      refine wl_val (r_move rfl) (ltn rfl) ?_
      refine wl_val (r_nil rfl) (ltn rfl) ?_
      refine wl_val (r_fieldA 28 Tryz.underlying66 rfl rfl Tryz.sizeOf3 (by decide) rfl (by first | exact Nat.zero_add _ | rfl)) (ltn rfl) ?_
      refine wl_val (r_load (plain_of Tryz.underlying3 rfl) rfl (cell_of_blk (H78).get.2 rfl)) (ltn rfl) ?_
      refine wl_val (r_neq rfl rfl) (ltn rfl) ?_
      refine wl_nil ?_
      refine wq_seq ?_
      refine wc_cond rfl (fun h31 => ?_) (fun h31 => ?_)
      · (try simp only [cmpS] at h31)
        have hEG := endGood_eq hs1e hon hrun h31
        refine wc_region ?_
        refine wl_val (r_move rfl) (ltn rfl) ?_
        refine wl_val (r_move rfl) (ltn rfl) ?_
        refine wl_val (r_nil rfl) (ltn rfl) ?_
        refine wl_val (r_fieldA 0 Tryz.underlying66 rfl rfl Tryz.sizeOf62 (by decide) rfl (by first | exact Nat.zero_add _ | rfl)) (ltn rfl) ?_
        refine wl_val (r_fieldA 7 Tryz.underlying62 rfl rfl Tryz.sizeOf3 (by decide) rfl (by first | exact Nat.zero_add _ | rfl)) (ltn rfl) ?_
        refine wl_eff0 (e_storeL 7 (l' := [_, _, _, _, _, _, _, _, _, _, _, _, _, _, _, _, _, _, _, _, _, _, _, _, _, _, _, _, _, _, _, _, _, _]) H78 Tryz.sizeOf3 rfl rfl (by first | rfl | assumption) rfl rfl) ?_
        rintro _ w79 H79
        refine wl_val (r_nil rfl) (ltn rfl) ?_
        refine wl_val (r_fieldA 0 Tryz.underlying66 rfl rfl Tryz.sizeOf62 (by decide) rfl (by first | exact Nat.zero_add _ | rfl)) (ltn rfl) ?_
        refine wl_val (r_fieldA 8 Tryz.underlying62 rfl rfl Tryz.sizeOf3 (by decide) rfl (by first | exact Nat.zero_add _ | rfl)) (ltn rfl) ?_
        refine wl_eff0 (e_storeL 8 (l' := [_, _, _, _, _, _, _, _, _, _, _, _, _, _, _, _, _, _, _, _, _, _, _, _, _, _, _, _, _, _, _, _, _, _]) H79 Tryz.sizeOf3 rfl rfl (by first | rfl | assumption) rfl rfl) ?_
        rintro _ w80 H80
        refine wl_nil ?_
        refine wq_seq ?_
        refine wc_seq ?_
        refine wc_region ?_
        refine wl_val (r_assign rfl) (ltn rfl) ?_
        refine wl_nil ?_
        refine wq_seq ?_
        refine wc_ret ?_
        refine wq_end1 (.inl rfl) Tryz.results13 rfl ?_
        refine ⟨rfl, ?_⟩
        first
          | exact absurd (hw2.symm.trans hwh) (by decide)
          | exact absurd (hwh.symm.trans hw2) (by decide)
          | (rw [hEG]; exact Holds.mk_ed ok_e says_e H80.f11.f11.f11.f11.f11.f11.f11.f11.f11.f11.f11)
      · (try simp only [cmpS] at h31)
        have hEG := endGood_eq2 hs1e hon hrun h31
        refine wc_skip ?_
        refine wq_seq ?_
        refine wc_seq ?_
        refine wc_region ?_
        refine wl_val (r_assign rfl) (ltn rfl) ?_
        refine wl_nil ?_
        refine wq_seq ?_
        refine wc_ret ?_
        refine wq_end1 (.inl rfl) Tryz.results13 rfl ?_
        refine ⟨rfl, ?_⟩
        first
          | exact absurd (hw2.symm.trans hwh) (by decide)
          | exact absurd (hwh.symm.trans hw2) (by decide)
          | (rw [hEG]; exact Holds.mk_ed ok_e says_e H78.f11.f11.f11.f11.f11.f11.f11.f11.f11.f11.f11)
theorem endBad_eq {s : EdS} {x : Int} (hin : s.inn = true) (hx : x ≠ 0) : s.endS x = s.endBad ∧ s.endE x = x := by
  unfold EdS.endS EdS.endE
  rw [if_pos hin, if_neg hx, if_pos hin]; exact ⟨rfl, rfl⟩
theorem bad_ok {s : EdS} (h : EdSOk s) (hin : s.inn = true) : EdSOk s.endBad := by
  obtain ⟨h1, h2, h3⟩ := h.2.1 hin
  exact ⟨h1, fun h => Bool.noConfusion h, ⟨by show (-1 : Int) ≤ -1; decide, by show (-1 : Int) ≤ 1000000; decide⟩, by simp [EdS.endBad], h2, h3⟩
theorem ed_end_bad (hin : s.inn = true) (hx : x ≠ 0) (H : Holds w0 w (EdRep e s • F)) : Ret Tryz.prog 13 #[.pointer (some ⟨e, 0, none⟩), .int .i64 x] w fun v w' => v = .int .i64 x ∧ Holds w0 w' (EdRep e s.endBad • F) := by
  have hpe : s.partE = 0 := by unfold EdS.partE; rw [if_pos hin]
  refine ret_enter Tryz.func13 rfl Tryz.ntmps13 (Nat.le_of_ble_eq_true rfl) ?_
  dsimp only [slots0, Nat.reduceAdd]
  refine wc_seq ?_
  refine wc_region ?_
  refine wl_val (r_assign rfl) (ltn rfl) ?_
  refine wl_nil ?_
  refine wq_seq ?_
  refine wc_seq ?_
  refine wc_seq ?_
  refine wc_region ?_
  refine wl_val (r_move rfl) (ltn rfl) ?_
  refine wl_eff (e_call (r_call rfl Tryz.func51 rfl rfl) (ed_part_ret H)) (ltn rfl) ?_
  rintro _ _ ⟨rfl, rfl⟩
  refine wl_val (r_assign rfl) (ltn rfl) ?_
  refine wl_nil ?_
  refine wq_seq ?_
  refine wc_seq ?_
  refine wc_region ?_
  refine wl_val (r_move rfl) (ltn rfl) ?_
  refine wl_val (r_neq rfl rfl) (ltn rfl) ?_
  refine wl_nil ?_
  refine wq_seq ?_
  refine wc_cond rfl (fun h => by exfalso; (try simp only [cmpS] at h); exact h hpe) (fun h1 => ?_)
  (try simp only [cmpS] at h1)
  refine wc_skip ?_
  refine wq_seq ?_
  refine wc_seq ?_
  obtain ⟨pb_e, pr_e, pw_e, pt_e, pm_e, ph_e, bl_e, pv_e, es_e, u0_e, u1_e, u2_e, u3_e, u4_e, u5_e, u6_e, u7_e, u8_e, u9_e, ua_e, ok_e, says_e, plen_e, HE_e⟩ := (H).edO
  have HI := HE_e
  rw [hin] at HI
  obtain ⟨qb, qr, qw, qt, qm, hu, HW⟩ := (HI.f11).was
  simp only [coreL, List.cons.injEq, and_true] at hu
  obtain ⟨rfl, rfl, rfl, rfl, rfl, rfl, rfl, rfl, rfl, rfl, rfl⟩ := hu
  refine wc_region ?_
  refine wl_val (r_move rfl) (ltn rfl) ?_
  refine wl_val (r_nil rfl) (ltn rfl) ?_
  refine wl_val (r_fieldA 16 Tryz.underlying66 rfl rfl Tryz.sizeOf4 (by decide) rfl (by first | exact Nat.zero_add _ | rfl)) (ltn rfl) ?_
  refine wl_eff0 (e_storeL 16 (l' := [_, _, _, _, _, _, _, _, _, _, _, _, _, _, _, _, _, _, _, _, _, _, _, _, _, _, _, _, _, _, _, _, _, _]) HW.f6 Tryz.sizeOf4 rfl rfl (by first | rfl | assumption) rfl rfl) ?_
  rintro _ w3 H3
  refine wl_nil ?_
  refine wq_seq ?_
  refine wc_seq ?_
  refine wc_seq ?_
  refine wc_region ?_
  refine wl_val (r_move rfl) (ltn rfl) ?_
  refine wl_val (r_nil rfl) (ltn rfl) ?_
  refine wl_val (r_fieldA 31 Tryz.underlying66 rfl rfl Tryz.sizeOf4 (by decide) rfl (by first | exact Nat.zero_add _ | rfl)) (ltn rfl) ?_
  refine wl_val (r_load (plain_of Tryz.underlying4 rfl) rfl (cell_of_blk (H3).get.2 rfl)) (ltn rfl) ?_
  refine wl_val (r_not rfl) (ltn rfl) ?_
  refine wl_split rfl (ltn rfl) (fun h2 => ?_) (fun h2 => ?_)
  · (try simp only [cmpS] at h2)
    refine wl_no rfl rfl rfl (ltn rfl) ?_
    refine wl_no rfl rfl rfl (ltn rfl) ?_
    refine wl_val (r_pick_t rfl rfl) (ltn rfl) ?_
    refine wl_nil ?_
    refine wq_seq ?_
    refine wc_cond_t rfl ?_
    refine wc_region ?_
    refine wl_val (r_move rfl) (ltn rfl) ?_
    refine wl_val (r_move rfl) (ltn rfl) ?_
    refine wl_val (r_move rfl) (ltn rfl) ?_
    refine wl_val (r_nil rfl) (ltn rfl) ?_
    refine wl_val (r_fieldA 13 Tryz.underlying66 rfl rfl Tryz.sizeOf4 (by decide) rfl (by first | exact Nat.zero_add _ | rfl)) (ltn rfl) ?_
    refine wl_eff0 (e_storeL 13 (l' := [_, _, _, _, _, _, _, _, _, _, _, _, _, _, _, _, _, _, _, _, _, _, _, _, _, _, _, _, _, _, _, _, _, _]) H3 Tryz.sizeOf4 rfl rfl (by first | rfl | assumption) rfl rfl) ?_
    rintro _ w4 H4
    refine wl_val (r_nil rfl) (ltn rfl) ?_
    refine wl_val (r_fieldA 14 Tryz.underlying66 rfl rfl Tryz.sizeOf4 (by decide) rfl (by first | exact Nat.zero_add _ | rfl)) (ltn rfl) ?_
    refine wl_eff0 (e_storeL 14 (l' := [_, _, _, _, _, _, _, _, _, _, _, _, _, _, _, _, _, _, _, _, _, _, _, _, _, _, _, _, _, _, _, _, _, _]) H4 Tryz.sizeOf4 rfl rfl (by first | rfl | assumption) rfl rfl) ?_
    rintro _ w5 H5
    refine wl_val (r_nil rfl) (ltn rfl) ?_
    refine wl_val (r_fieldA 15 Tryz.underlying66 rfl rfl Tryz.sizeOf3 (by decide) rfl (by first | exact Nat.zero_add _ | rfl)) (ltn rfl) ?_
    refine wl_eff0 (e_storeL 15 (l' := [_, _, _, _, _, _, _, _, _, _, _, _, _, _, _, _, _, _, _, _, _, _, _, _, _, _, _, _, _, _, _, _, _, _]) H5 Tryz.sizeOf3 rfl rfl (by first | rfl | assumption) rfl rfl) ?_
    rintro _ w6 H6
    refine wl_nil ?_
    refine wq_seq ?_
    refine wc_seq ?_
    refine wc_seq ?_
    refine wc_region ?_
    refine wl_val (r_move rfl) (ltn rfl) ?_
    refine wl_val (r_neq rfl rfl) (ltn rfl) ?_
    refine wl_nil ?_
    refine wq_seq ?_
    refine wc_cond rfl (fun h3 => ?_) (fun h => by exfalso; (try simp only [cmpS] at h); exact hx h)
    (try simp only [cmpS] at h3)
    refine wc_seq ?_
    refine wc_region ?_
    refine wl_val (r_move rfl) (ltn rfl) ?_
    refine wl_val (r_move rfl) (ltn rfl) ?_
    refine wl_val (r_nil rfl) (ltn rfl) ?_
    refine wl_val (r_fieldA 17 Tryz.underlying66 rfl rfl Tryz.sizeOf62 (by decide) rfl (by first | exact Nat.zero_add _ | rfl)) (ltn rfl) ?_
    refine wl_val (r_load_part 17 (xs := [_, _, _, _, _, _, _, _, _, _, _]) Tryz.underlying62 rfl Tryz.sizeOf62 rfl rfl (H6).get.2 rfl) (ltn rfl) ?_
    refine wl_val (r_nil rfl) (ltn rfl) ?_
    refine wl_val (r_fieldA 0 Tryz.underlying66 rfl rfl Tryz.sizeOf62 (by decide) rfl (by first | exact Nat.zero_add _ | rfl)) (ltn rfl) ?_
    refine wl_eff0 (e_storePL 0 (l' := [_, _, _, _, _, _, _, _, _, _, _, _, _, _, _, _, _, _, _, _, _, _, _, _, _, _, _, _, _, _, _, _, _, _]) (us := [_, _, _, _, _, _, _, _, _, _, _]) H6 Tryz.sizeOf62 rfl rfl rfl (ones_cons (by first | rfl | assumption) (ones_cons (by first | rfl | assumption) (ones_cons (by first | rfl | assumption) (ones_cons (by first | rfl | assumption) (ones_cons (by first | rfl | assumption) (ones_cons (by first | rfl | assumption) (ones_cons (by first | rfl | assumption) (ones_cons (by first | rfl | assumption) (ones_cons (by first | rfl | assumption) (ones_cons (by first | rfl | assumption) (ones_cons (by first | rfl | assumption) ones_nil))))))))))) rfl rfl) ?_
    rintro _ w7 H7
    refine wl_nil ?_
    refine wq_seq ?_
    refine wc_seq ?_
    refine wc_region ?_
    refine wl_val (r_move rfl) (ltn rfl) ?_
    refine wl_val (r_nil rfl) (ltn rfl) ?_
    refine wl_val (r_fieldA 12 Tryz.underlying66 rfl rfl Tryz.sizeOf63 (by decide) rfl (by first | exact Nat.zero_add _ | rfl)) (ltn rfl) ?_
    refine wl_val (r_load (plain_of Tryz.underlying63 rfl) rfl (cell_of_blk (H7).get.2 rfl)) (ltn rfl) ?_
    refine wl_eff (e_call (r_call rfl Tryz.func52 rfl rfl) (atom_add_ret H7.f13)) (ltn rfl) ?_
    rintro _ w8 ⟨rfl, H8⟩
    refine wl_nil ?_
    refine wq_seq ?_
    refine wc_seq ?_
    refine wc_region ?_
    refine wl_val (r_move rfl) (ltn rfl) ?_
    refine wl_val (r_move rfl) (ltn rfl) ?_
    refine wl_val (r_move rfl) (ltn rfl) ?_
    refine wl_val (r_move rfl) (ltn rfl) ?_
    refine wl_val (r_nil rfl) (ltn rfl) ?_
    refine wl_val (r_fieldA 0 Tryz.underlying66 rfl rfl Tryz.sizeOf62 (by decide) rfl (by first | exact Nat.zero_add _ | rfl)) (ltn rfl) ?_
    refine wl_val (r_fieldA 6 Tryz.underlying62 rfl rfl Tryz.sizeOf3 (by decide) rfl (by first | exact Nat.zero_add _ | rfl)) (ltn rfl) ?_
    refine wl_eff0 (e_storeL 6 (l' := [_, _, _, _, _, _, _, _, _, _, _, _, _, _, _, _, _, _, _, _, _, _, _, _, _, _, _, _, _, _, _, _, _, _]) H8.f2 Tryz.sizeOf3 rfl rfl (by first | rfl | assumption) rfl rfl) ?_
    rintro _ w9 H9
    refine wl_val (r_nil rfl) (ltn rfl) ?_
    refine wl_val (r_fieldA 0 Tryz.underlying66 rfl rfl Tryz.sizeOf62 (by decide) rfl (by first | exact Nat.zero_add _ | rfl)) (ltn rfl) ?_
    refine wl_val (r_fieldA 7 Tryz.underlying62 rfl rfl Tryz.sizeOf3 (by decide) rfl (by first | exact Nat.zero_add _ | rfl)) (ltn rfl) ?_
    refine wl_eff0 (e_storeL 7 (l' := [_, _, _, _, _, _, _, _, _, _, _, _, _, _, _, _, _, _, _, _, _, _, _, _, _, _, _, _, _, _, _, _, _, _]) H9 Tryz.sizeOf3 rfl rfl (by first | rfl | assumption) rfl rfl) ?_
    rintro _ w10 H10
    refine wl_val (r_nil rfl) (ltn rfl) ?_
    refine wl_val (r_fieldA 0 Tryz.underlying66 rfl rfl Tryz.sizeOf62 (by decide) rfl (by first | exact Nat.zero_add _ | rfl)) (ltn rfl) ?_
    refine wl_val (r_fieldA 8 Tryz.underlying62 rfl rfl Tryz.sizeOf3 (by decide) rfl (by first | exact Nat.zero_add _ | rfl)) (ltn rfl) ?_
    refine wl_eff0 (e_storeL 8 (l' := [_, _, _, _, _, _, _, _, _, _, _, _, _, _, _, _, _, _, _, _, _, _, _, _, _, _, _, _, _, _, _, _, _, _]) H10 Tryz.sizeOf3 rfl rfl (by first | rfl | assumption) rfl rfl) ?_
    rintro _ w11 H11
    refine wl_val (r_nil rfl) (ltn rfl) ?_
    refine wl_val (r_fieldA 33 Tryz.underlying66 rfl rfl Tryz.sizeOf64 (by decide) rfl (by first | exact Nat.zero_add _ | rfl)) (ltn rfl) ?_
    refine wl_eff0 (e_storeL 33 (l' := [_, _, _, _, _, _, _, _, _, _, _, _, _, _, _, _, _, _, _, _, _, _, _, _, _, _, _, _, _, _, _, _, _, _]) H11 Tryz.sizeOf64 rfl rfl (by first | rfl | assumption) rfl rfl) ?_
    rintro _ w12 H12
    refine wl_nil ?_
    refine wq_seq ?_
    refine wc_seq ?_
    refine wc_region ?_
    refine wl_val (r_move rfl) (ltn rfl) ?_
    refine wl_val (r_assign rfl) (ltn rfl) ?_
    refine wl_nil ?_
    refine wq_seq ?_
    refine wc_ret ?_
    refine wq_then_ret ?_
    refine wq_end1 (.inl rfl) Tryz.results13 rfl ?_
    exact ⟨rfl, Holds.mk_edN (s := s.endBad) (bad_ok ok_e hin) rfl rfl H12.f8.right.f8.right.f8.right.f8.right.f8.right.f9.right.f9.right.f2.f8.f8.f8.f8.f8.f8.f8⟩
  · (try simp only [cmpS] at h2)
    refine wl_yes rfl rfl ?_
    refine wl_val (r_move rfl) (ltn rfl) ?_
    refine wl_yes rfl rfl ?_
    refine wl_val (r_neq rfl rfl) (ltn rfl) ?_
    refine wl_val (r_pick_f rfl rfl) (ltn rfl) ?_
    refine wl_nil ?_
    refine wq_seq ?_
    refine wc_cond rfl (fun h4 => ?_) (fun h => by exfalso; (try simp only [cmpS] at h); exact hx h)
    (try simp only [cmpS] at h4)
    refine wc_region ?_
    refine wl_val (r_move rfl) (ltn rfl) ?_
    refine wl_val (r_move rfl) (ltn rfl) ?_
    refine wl_val (r_move rfl) (ltn rfl) ?_
    refine wl_val (r_nil rfl) (ltn rfl) ?_
    refine wl_val (r_fieldA 13 Tryz.underlying66 rfl rfl Tryz.sizeOf4 (by decide) rfl (by first | exact Nat.zero_add _ | rfl)) (ltn rfl) ?_
    refine wl_eff0 (e_storeL 13 (l' := [_, _, _, _, _, _, _, _, _, _, _, _, _, _, _, _, _, _, _, _, _, _, _, _, _, _, _, _, _, _, _, _, _, _]) H3 Tryz.sizeOf4 rfl rfl (by first | rfl | assumption) rfl rfl) ?_
    rintro _ w13 H13
    refine wl_val (r_nil rfl) (ltn rfl) ?_
    refine wl_val (r_fieldA 14 Tryz.underlying66 rfl rfl Tryz.sizeOf4 (by decide) rfl (by first | exact Nat.zero_add _ | rfl)) (ltn rfl) ?_
    refine wl_eff0 (e_storeL 14 (l' := [_, _, _, _, _, _, _, _, _, _, _, _, _, _, _, _, _, _, _, _, _, _, _, _, _, _, _, _, _, _, _, _, _, _]) H13 Tryz.sizeOf4 rfl rfl (by first | rfl | assumption) rfl rfl) ?_
    rintro _ w14 H14
    refine wl_val (r_nil rfl) (ltn rfl) ?_
    refine wl_val (r_fieldA 15 Tryz.underlying66 rfl rfl Tryz.sizeOf3 (by decide) rfl (by first | exact Nat.zero_add _ | rfl)) (ltn rfl) ?_
    refine wl_eff0 (e_storeL 15 (l' := [_, _, _, _, _, _, _, _, _, _, _, _, _, _, _, _, _, _, _, _, _, _, _, _, _, _, _, _, _, _, _, _, _, _]) H14 Tryz.sizeOf3 rfl rfl (by first | rfl | assumption) rfl rfl) ?_
    rintro _ w15 H15
    refine wl_nil ?_
    refine wq_seq ?_
    refine wc_seq ?_
    refine wc_seq ?_
    refine wc_region ?_
    refine wl_val (r_move rfl) (ltn rfl) ?_
    refine wl_val (r_neq rfl rfl) (ltn rfl) ?_
    refine wl_nil ?_
    refine wq_seq ?_
    refine wc_cond rfl (fun h5 => ?_) (fun h => by exfalso; (try simp only [cmpS] at h); exact hx h)
    (try simp only [cmpS] at h5)
    refine wc_seq ?_
    refine wc_region ?_
    refine wl_val (r_move rfl) (ltn rfl) ?_
    refine wl_val (r_move rfl) (ltn rfl) ?_
    refine wl_val (r_nil rfl) (ltn rfl) ?_
    refine wl_val (r_fieldA 17 Tryz.underlying66 rfl rfl Tryz.sizeOf62 (by decide) rfl (by first | exact Nat.zero_add _ | rfl)) (ltn rfl) ?_
    refine wl_val (r_load_part 17 (xs := [_, _, _, _, _, _, _, _, _, _, _]) Tryz.underlying62 rfl Tryz.sizeOf62 rfl rfl (H15).get.2 rfl) (ltn rfl) ?_
    refine wl_val (r_nil rfl) (ltn rfl) ?_
    refine wl_val (r_fieldA 0 Tryz.underlying66 rfl rfl Tryz.sizeOf62 (by decide) rfl (by first | exact Nat.zero_add _ | rfl)) (ltn rfl) ?_
    refine wl_eff0 (e_storePL 0 (l' := [_, _, _, _, _, _, _, _, _, _, _, _, _, _, _, _, _, _, _, _, _, _, _, _, _, _, _, _, _, _, _, _, _, _]) (us := [_, _, _, _, _, _, _, _, _, _, _]) H15 Tryz.sizeOf62 rfl rfl rfl (ones_cons (by first | rfl | assumption) (ones_cons (by first | rfl | assumption) (ones_cons (by first | rfl | assumption) (ones_cons (by first | rfl | assumption) (ones_cons (by first | rfl | assumption) (ones_cons (by first | rfl | assumption) (ones_cons (by first | rfl | assumption) (ones_cons (by first | rfl | assumption) (ones_cons (by first | rfl | assumption) (ones_cons (by first | rfl | assumption) (ones_cons (by first | rfl | assumption) ones_nil))))))))))) rfl rfl) ?_
    rintro _ w16 H16
    refine wl_nil ?_
    refine wq_seq ?_
    refine wc_seq ?_
    refine wc_region ?_
    refine wl_val (r_move rfl) (ltn rfl) ?_
    refine wl_val (r_nil rfl) (ltn rfl) ?_
    refine wl_val (r_fieldA 12 Tryz.underlying66 rfl rfl Tryz.sizeOf63 (by decide) rfl (by first | exact Nat.zero_add _ | rfl)) (ltn rfl) ?_
    refine wl_val (r_load (plain_of Tryz.underlying63 rfl) rfl (cell_of_blk (H16).get.2 rfl)) (ltn rfl) ?_
    refine wl_eff (e_call (r_call rfl Tryz.func52 rfl rfl) (atom_add_ret H16.f13)) (ltn rfl) ?_
    rintro _ w17 ⟨rfl, H17⟩
    refine wl_nil ?_
    refine wq_seq ?_
    refine wc_seq ?_
    refine wc_region ?_
    refine wl_val (r_move rfl) (ltn rfl) ?_
    refine wl_val (r_move rfl) (ltn rfl) ?_
    refine wl_val (r_move rfl) (ltn rfl) ?_
    refine wl_val (r_move rfl) (ltn rfl) ?_
    refine wl_val (r_nil rfl) (ltn rfl) ?_
    refine wl_val (r_fieldA 0 Tryz.underlying66 rfl rfl Tryz.sizeOf62 (by decide) rfl (by first | exact Nat.zero_add _ | rfl)) (ltn rfl) ?_
    refine wl_val (r_fieldA 6 Tryz.underlying62 rfl rfl Tryz.sizeOf3 (by decide) rfl (by first | exact Nat.zero_add _ | rfl)) (ltn rfl) ?_
    refine wl_eff0 (e_storeL 6 (l' := [_, _, _, _, _, _, _, _, _, _, _, _, _, _, _, _, _, _, _, _, _, _, _, _, _, _, _, _, _, _, _, _, _, _]) H17.f2 Tryz.sizeOf3 rfl rfl (by first | rfl | assumption) rfl rfl) ?_
    rintro _ w18 H18
    refine wl_val (r_nil rfl) (ltn rfl) ?_
    refine wl_val (r_fieldA 0 Tryz.underlying66 rfl rfl Tryz.sizeOf62 (by decide) rfl (by first | exact Nat.zero_add _ | rfl)) (ltn rfl) ?_
    refine wl_val (r_fieldA 7 Tryz.underlying62 rfl rfl Tryz.sizeOf3 (by decide) rfl (by first | exact Nat.zero_add _ | rfl)) (ltn rfl) ?_
    refine wl_eff0 (e_storeL 7 (l' := [_, _, _, _, _, _, _, _, _, _, _, _, _, _, _, _, _, _, _, _, _, _, _, _, _, _, _, _, _, _, _, _, _, _]) H18 Tryz.sizeOf3 rfl rfl (by first | rfl | assumption) rfl rfl) ?_
    rintro _ w19 H19
    refine wl_val (r_nil rfl) (ltn rfl) ?_
    refine wl_val (r_fieldA 0 Tryz.underlying66 rfl rfl Tryz.sizeOf62 (by decide) rfl (by first | exact Nat.zero_add _ | rfl)) (ltn rfl) ?_
    refine wl_val (r_fieldA 8 Tryz.underlying62 rfl rfl Tryz.sizeOf3 (by decide) rfl (by first | exact Nat.zero_add _ | rfl)) (ltn rfl) ?_
    refine wl_eff0 (e_storeL 8 (l' := [_, _, _, _, _, _, _, _, _, _, _, _, _, _, _, _, _, _, _, _, _, _, _, _, _, _, _, _, _, _, _, _, _, _]) H19 Tryz.sizeOf3 rfl rfl (by first | rfl | assumption) rfl rfl) ?_
    rintro _ w20 H20
    refine wl_val (r_nil rfl) (ltn rfl) ?_
    refine wl_val (r_fieldA 33 Tryz.underlying66 rfl rfl Tryz.sizeOf64 (by decide) rfl (by first | exact Nat.zero_add _ | rfl)) (ltn rfl) ?_
    refine wl_eff0 (e_storeL 33 (l' := [_, _, _, _, _, _, _, _, _, _, _, _, _, _, _, _, _, _, _, _, _, _, _, _, _, _, _, _, _, _, _, _, _, _]) H20 Tryz.sizeOf64 rfl rfl (by first | rfl | assumption) rfl rfl) ?_
    rintro _ w21 H21
    refine wl_nil ?_
    refine wq_seq ?_
    refine wc_seq ?_
    refine wc_region ?_
    refine wl_val (r_move rfl) (ltn rfl) ?_
    refine wl_val (r_assign rfl) (ltn rfl) ?_
    refine wl_nil ?_
    refine wq_seq ?_
    refine wc_ret ?_
    refine wq_then_ret ?_
    refine wq_end1 (.inl rfl) Tryz.results13 rfl ?_
    exact ⟨rfl, Holds.mk_edN (s := s.endBad) (bad_ok ok_e hin) rfl rfl H21.f8.right.f8.right.f8.right.f8.right.f8.right.f9.right.f9.right.f2.f8.f8.f8.f8.f8.f8.f8⟩
theorem ed_end_ret (H : Holds w0 w (EdRep e s • F)) : Ret Tryz.prog 13 #[.pointer (some ⟨e, 0, none⟩), .int .i64 x] w fun v w' => v = .int .i64 (s.endE x) ∧ Holds w0 w' (EdRep e (s.endS x) • F) := by
  by_cases hin : s.inn = true
  · by_cases hx : x = 0
    · subst hx
      rw [show s.endS 0 = s.endGood from by unfold EdS.endS; rw [if_pos hin, if_pos rfl], show s.endE 0 = 0 from by unfold EdS.endE; rw [if_pos hin]]
      exact ed_end_good hin H
    · rw [(endBad_eq hin hx).1, (endBad_eq hin hx).2]
      exact ed_end_bad hin hx H
  · have hin' : s.inn = false := by simpa using hin
    have hpe : s.partE = 1 := by unfold EdS.partE; rw [if_neg hin]
    rw [show s.endS x = s from by unfold EdS.endS; rw [if_neg hin], show s.endE x = 1 from by unfold EdS.endE; rw [if_neg hin]]
    refine ret_enter Tryz.func13 rfl Tryz.ntmps13 (Nat.le_of_ble_eq_true rfl) ?_
    dsimp only [slots0, Nat.reduceAdd]
    refine wc_seq ?_
    refine wc_region ?_
    refine wl_val (r_assign rfl) (ltn rfl) ?_
    refine wl_nil ?_
    refine wq_seq ?_
    refine wc_seq ?_
    refine wc_seq ?_
    refine wc_region ?_
    refine wl_val (r_move rfl) (ltn rfl) ?_
    refine wl_eff (e_call (r_call rfl Tryz.func51 rfl rfl) (ed_part_ret H)) (ltn rfl) ?_
    rintro _ _ ⟨rfl, rfl⟩
    refine wl_val (r_assign rfl) (ltn rfl) ?_
    refine wl_nil ?_
    refine wq_seq ?_
    refine wc_seq ?_
    refine wc_region ?_
    refine wl_val (r_move rfl) (ltn rfl) ?_
    refine wl_val (r_neq rfl rfl) (ltn rfl) ?_
    refine wl_nil ?_
    refine wq_seq ?_
    refine wc_cond rfl (fun h1 => ?_) (fun h => by exfalso; (try simp only [cmpS] at h); rw [hpe] at h; exact absurd h (by decide))
    (try simp only [cmpS] at h1)
    refine wc_seq ?_
    refine wc_region ?_
    refine wl_val (r_move rfl) (ltn rfl) ?_
    refine wl_val (r_assign rfl) (ltn rfl) ?_
    refine wl_nil ?_
    refine wq_seq ?_
    refine wc_ret ?_
    refine wq_then_ret ?_
    refine wq_end1 (.inl rfl) Tryz.results13 rfl ?_
    rw [hpe]
    exact ⟨rfl, H⟩
end
end Go.Proofs.YtgmpclifphbjkaaGreatDoor
end
