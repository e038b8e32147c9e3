import Derived.Test.YtgmpclifphbjkaaGreatDoorZ16
/- Texts of mine, joined: EdC EdMv. -/
section
/- Editors: Begin, Start. -/
set_option linter.unusedSimpArgs false
set_option linter.unusedVariables false
namespace Go.Proofs.YtgmpclifphbjkaaGreatDoor
open Go.RowKit
section
variable {w0 w : World} {F : HP} {e p h pr : Nat} {s : EdS} {hl : List HLn} {base most m : Int} {v : Value} {l : List Int}
theorem beginS_no (h : s.inn = false) : s.beginS = { s with inn := true, was := s.c, cls := 0, killed := false, yanked := false, argues := false, whole := true, put := [] } := by unfold EdS.beginS; rw [if_neg (by simp [h])]
theorem beginS_yes (h : s.inn = true) : s.beginS = s := by unfold EdS.beginS; rw [if_pos h]
theorem uTot_le {G : List (List EdA)} {N : List EdA} (h : uTot G N ≤ 16384) : uTot G [] ≤ 16384 := by unfold uTot at *; simp at *; omega
theorem begin_ok (h : EdSOk s) (hi : s.inn = false) : EdSOk s.beginS := by
  rw [beginS_no hi]
  obtain ⟨h1, h2, h3, h4, h5, h6⟩ := h
  exact ⟨h1, fun _ => ⟨h1, uTot_le h5, h6⟩, h3, by simp, uTot_le h5, h6⟩
theorem ed_begin_ret (H : Holds w0 w (EdRep e s • F)) : Ret Tryz.prog 11 #[.pointer (some ⟨e, 0, none⟩)] w fun v w' => v = .int .i64 s.beginE ∧ Holds w0 w' (EdRep e s.beginS • F) := by
  refine ret_enter Tryz.func11 rfl Tryz.ntmps11 (Nat.le_of_ble_eq_true rfl) ?_
  dsimp only [slots0, Nat.reduceAdd]
  refine wc_seq ?_
  refine wc_region ?_
  refine wl_val (r_assign rfl) (ltn rfl) ?_
  refine wl_nil ?_
  refine wq_seq ?_
  refine wc_seq ?_
  refine wc_block ?_
  refine wc_seq ?_
  refine wc_region ?_
  refine wl_val (r_move rfl) (ltn rfl) ?_
  refine wl_eff (e_call (r_call rfl Tryz.func43 rfl rfl) (ed_none_ret H)) (ltn rfl) ?_
  rintro _ _ ⟨rfl, rfl⟩
  refine wl_val (r_assign rfl) (ltn rfl) ?_
  refine wl_nil ?_
  refine wq_seq ?_
  refine wc_cond_f rfl ?_
  refine wc_seq ?_
  obtain ⟨pb_e, pr_e, pw_e, pt_e, pm_e, ph_e, bl_e, pv_e, es_e, u0_e, u1_e, u2_e, u3_e, u4_e, u5_e, u6_e, u7_e, u8_e, u9_e, ua_e, ok_e, says_e, plen_e, HE_e⟩ := (H).edO
  refine wc_region ?_
  refine wl_val (r_move rfl) (ltn rfl) ?_
  refine wl_val (r_nil rfl) (ltn rfl) ?_
  refine wl_val (r_fieldA 16 Tryz.underlying66 rfl rfl Tryz.sizeOf4 (by decide) rfl (by first | exact Nat.zero_add _ | rfl)) (ltn rfl) ?_
  refine wl_val (r_load (plain_of Tryz.underlying4 rfl) rfl (cell_of_blk (HE_e).get.2 rfl)) (ltn rfl) ?_
  refine wl_val (r_assign rfl) (ltn rfl) ?_
  refine wl_nil ?_
  refine wq_seq ?_
  refine wc_cond rfl (fun h1 => ?_) (fun h1 => ?_)
  · (try simp only [cmpS] at h1)
    try (exfalso; first | contradiction | omega)
    all_goals
      have hin := h1
      refine wc_seq ?_
      refine wc_region ?_
      refine wl_val (r_assign rfl) (ltn rfl) ?_
      refine wl_nil ?_
      refine wq_seq ?_
      refine wc_ret ?_
      refine wq_block_ret ?_
      refine wq_then_ret ?_
      refine wq_end1 (.inl rfl) Tryz.results11 rfl ?_
      exact ⟨by unfold EdS.beginE; rw [if_pos hin], by rw [beginS_yes hin]; exact Holds.mk_ed ok_e says_e HE_e.f11.f11.f11.f11.f11.f11.f11.f11.f11.f11.f11⟩
  · (try simp only [cmpS] at h1)
    try (exfalso; first | contradiction | omega)
    all_goals
      have hin := h1
      refine wc_skip ?_
      refine wq_block_normal ?_
      refine wq_seq ?_
      refine wc_seq ?_
      refine wc_region ?_
      refine wl_val (r_move rfl) (ltn rfl) ?_
      refine wl_val (r_move rfl) (ltn rfl) ?_
      refine wl_val (r_move rfl) (ltn rfl) ?_
      refine wl_val (r_nil rfl) (ltn rfl) ?_
      refine wl_val (r_fieldA 0 Tryz.underlying66 rfl rfl Tryz.sizeOf62 (by decide) rfl (by first | exact Nat.zero_add _ | rfl)) (ltn rfl) ?_
      refine wl_val (r_load_part 0 (xs := [_, _, _, _, _, _, _, _, _, _, _]) Tryz.underlying62 rfl Tryz.sizeOf62 rfl rfl (HE_e).get.2 rfl) (ltn rfl) ?_
      refine wl_eff (e_call (r_call rfl Tryz.func44 rfl rfl) (twin_ret HE_e.f6.f6.f6.f6.f6)) (ltn rfl) ?_
      rintro _ w3 ⟨qb3, qr3, qw3, qt3, qm3, rfl, H3⟩
      refine wl_val (r_nil rfl) (ltn rfl) ?_
      refine wl_val (r_fieldA 16 Tryz.underlying66 rfl rfl Tryz.sizeOf4 (by decide) rfl (by first | exact Nat.zero_add _ | rfl)) (ltn rfl) ?_
      refine wl_eff0 (e_storeL 16 (l' := [_, _, _, _, _, _, _, _, _, _, _, _, _, _, _, _, _, _, _, _, _, _, _, _, _, _, _, _, _, _, _, _, _, _]) H3.f11 Tryz.sizeOf4 rfl rfl (by first | rfl | assumption) rfl rfl) ?_
      rintro _ w4 H4
      refine wl_val (r_nil rfl) (ltn rfl) ?_
      refine wl_val (r_fieldA 17 Tryz.underlying66 rfl rfl Tryz.sizeOf62 (by decide) rfl (by first | exact Nat.zero_add _ | rfl)) (ltn rfl) ?_
      refine wl_eff0 (e_storePL 17 (l' := [_, _, _, _, _, _, _, _, _, _, _, _, _, _, _, _, _, _, _, _, _, _, _, _, _, _, _, _, _, _, _, _, _, _]) (us := [_, _, _, _, _, _, _, _, _, _, _]) H4 Tryz.sizeOf62 rfl rfl rfl (ones_cons (by first | rfl | assumption) (ones_cons (by first | rfl | assumption) (ones_cons (by first | rfl | assumption) (ones_cons (by first | rfl | assumption) (ones_cons (by first | rfl | assumption) (ones_cons (by first | rfl | assumption) (ones_cons (by first | rfl | assumption) (ones_cons (by first | rfl | assumption) (ones_cons (by first | rfl | assumption) (ones_cons (by first | rfl | assumption) (ones_cons (by first | rfl | assumption) ones_nil))))))))))) rfl rfl) ?_
      rintro _ w5 H5
      refine wl_nil ?_
      refine wq_seq ?_
      refine wc_seq ?_
      refine wc_region ?_
      refine wl_val (r_move rfl) (ltn rfl) ?_
      refine wl_val (r_move rfl) (ltn rfl) ?_
      refine wl_val (r_move rfl) (ltn rfl) ?_
      refine wl_val (r_move rfl) (ltn rfl) ?_
      refine wl_val (r_move rfl) (ltn rfl) ?_
      refine wl_val (r_move rfl) (ltn rfl) ?_
      refine wl_val (r_nil rfl) (ltn rfl) ?_
      refine wl_val (r_fieldA 28 Tryz.underlying66 rfl rfl Tryz.sizeOf3 (by decide) rfl (by first | exact Nat.zero_add _ | rfl)) (ltn rfl) ?_
      refine wl_eff0 (e_storeL 28 (l' := [_, _, _, _, _, _, _, _, _, _, _, _, _, _, _, _, _, _, _, _, _, _, _, _, _, _, _, _, _, _, _, _, _, _]) H5 Tryz.sizeOf3 rfl rfl (by first | rfl | assumption) rfl rfl) ?_
      rintro _ w6 H6
      refine wl_val (r_nil rfl) (ltn rfl) ?_
      refine wl_val (r_fieldA 29 Tryz.underlying66 rfl rfl Tryz.sizeOf4 (by decide) rfl (by first | exact Nat.zero_add _ | rfl)) (ltn rfl) ?_
      refine wl_eff0 (e_storeL 29 (l' := [_, _, _, _, _, _, _, _, _, _, _, _, _, _, _, _, _, _, _, _, _, _, _, _, _, _, _, _, _, _, _, _, _, _]) H6 Tryz.sizeOf4 rfl rfl (by first | rfl | assumption) rfl rfl) ?_
      rintro _ w7 H7
      refine wl_val (r_nil rfl) (ltn rfl) ?_
      refine wl_val (r_fieldA 30 Tryz.underlying66 rfl rfl Tryz.sizeOf4 (by decide) rfl (by first | exact Nat.zero_add _ | rfl)) (ltn rfl) ?_
      refine wl_eff0 (e_storeL 30 (l' := [_, _, _, _, _, _, _, _, _, _, _, _, _, _, _, _, _, _, _, _, _, _, _, _, _, _, _, _, _, _, _, _, _, _]) H7 Tryz.sizeOf4 rfl rfl (by first | rfl | assumption) rfl rfl) ?_
      rintro _ w8 H8
      refine wl_val (r_nil rfl) (ltn rfl) ?_
      refine wl_val (r_fieldA 31 Tryz.underlying66 rfl rfl Tryz.sizeOf4 (by decide) rfl (by first | exact Nat.zero_add _ | rfl)) (ltn rfl) ?_
      refine wl_eff0 (e_storeL 31 (l' := [_, _, _, _, _, _, _, _, _, _, _, _, _, _, _, _, _, _, _, _, _, _, _, _, _, _, _, _, _, _, _, _, _, _]) H8 Tryz.sizeOf4 rfl rfl (by first | rfl | assumption) rfl rfl) ?_
      rintro _ w9 H9
      refine wl_val (r_nil rfl) (ltn rfl) ?_
      refine wl_val (r_fieldA 32 Tryz.underlying66 rfl rfl Tryz.sizeOf4 (by decide) rfl (by first | exact Nat.zero_add _ | rfl)) (ltn rfl) ?_
      refine wl_eff0 (e_storeL 32 (l' := [_, _, _, _, _, _, _, _, _, _, _, _, _, _, _, _, _, _, _, _, _, _, _, _, _, _, _, _, _, _, _, _, _, _]) H9 Tryz.sizeOf4 rfl rfl (by first | rfl | assumption) rfl rfl) ?_
      rintro _ w10 H10
      refine wl_val (r_nil rfl) (ltn rfl) ?_
      refine wl_val (r_fieldA 33 Tryz.underlying66 rfl rfl Tryz.sizeOf64 (by decide) rfl (by first | exact Nat.zero_add _ | rfl)) (ltn rfl) ?_
      refine wl_eff0 (e_storeL 33 (l' := [_, _, _, _, _, _, _, _, _, _, _, _, _, _, _, _, _, _, _, _, _, _, _, _, _, _, _, _, _, _, _, _, _, _]) H10 Tryz.sizeOf64 rfl rfl (by first | rfl | assumption) rfl rfl) ?_
      rintro _ w11 H11
      refine wl_nil ?_
      refine wq_seq ?_
      refine wc_seq ?_
      refine wc_region ?_
      refine wl_val (r_assign rfl) (ltn rfl) ?_
      refine wl_nil ?_
      refine wq_seq ?_
      refine wc_ret ?_
      refine wq_end1 (.inl rfl) Tryz.results11 rfl ?_
      have Ho12 := H11.f6.f6.f6.f6.f6
      have Hc13 := Holds.mk_was (c := s.c) Ho12
      exact ⟨by unfold EdS.beginE; rw [if_neg (by simp [hin])], by rw [beginS_no hin]; exact Holds.mk_edP (beginS_no hin ▸ begin_ok ok_e hin) rfl Hc13.f10.right.f10.right.f10.right.f9.f9.f9.f9.f9.f9.f9.f9⟩
end
end Go.Proofs.YtgmpclifphbjkaaGreatDoor
end
section
/- Editors: the small parts of commands. -/
set_option linter.unusedSimpArgs false
set_option linter.unusedVariables false
namespace Go.Proofs.YtgmpclifphbjkaaGreatDoor
open Go.RowKit
section
variable {w0 w : World} {F : HP} {e p h pr : Nat} {s : EdS} {x : Int} {b : Bool}
theorem setBuf_ok (h : EdSOk s) (L : List Int) (pt mk : Int) : EdSOk (s.setBuf L pt mk) := h
theorem ed_move_ret (H : Holds w0 w (EdRep e s • F)) : Ret Tryz.prog 25 #[.pointer (some ⟨e, 0, none⟩), .int .i64 x] w fun v w' => v = .int .i64 (s.moveE x) ∧ Holds w0 w' (EdRep e (s.moveS x) • F) := by
  refine ret_enter Tryz.func25 rfl Tryz.ntmps25 (Nat.le_of_ble_eq_true rfl) ?_
  dsimp only [slots0, Nat.reduceAdd]
  refine wc_seq ?_
  refine wc_region ?_
  refine wl_val (r_assign rfl) (ltn rfl) ?_
  refine wl_nil ?_
  refine wq_seq ?_
  refine wc_seq ?_
  refine wc_seq ?_
  refine wc_region ?_
  refine wl_val (r_move rfl) (ltn rfl) ?_
  refine wl_eff (e_call (r_call rfl Tryz.func51 rfl rfl) (ed_part_ret H)) (ltn rfl) ?_
  rintro _ _ ⟨rfl, rfl⟩
  refine wl_val (r_assign rfl) (ltn rfl) ?_
  refine wl_nil ?_
  refine wq_seq ?_
  refine wc_seq ?_
  refine wc_region ?_
  refine wl_val (r_move rfl) (ltn rfl) ?_
  refine wl_val (r_neq rfl rfl) (ltn rfl) ?_
  refine wl_nil ?_
  refine wq_seq ?_
  refine wc_cond rfl (fun h1 => ?_) (fun h1 => ?_)
  · (try simp only [cmpS] at h1)
    obtain ⟨hin, hpe⟩ := part_no h1
    refine wc_seq ?_
    refine wc_region ?_
    refine wl_val (r_move rfl) (ltn rfl) ?_
    refine wl_val (r_assign rfl) (ltn rfl) ?_
    refine wl_nil ?_
    refine wq_seq ?_
    refine wc_ret ?_
    refine wq_then_ret ?_
    refine wq_end1 (.inl rfl) Tryz.results25 rfl ?_
    rw [hpe]
    exact ⟨by simp [EdS.moveE, EdS.moveS, hin], by rw [show s.moveS x = s from by simp [EdS.moveE, EdS.moveS, hin]]; exact H⟩
  · (try simp only [cmpS] at h1)
    have hin := part_yes h1
    refine wc_skip ?_
    refine wq_seq ?_
    refine wc_seq ?_
    obtain ⟨pb_e, pr_e, pw_e, pt_e, pm_e, ph_e, bl_e, pv_e, es_e, u0_e, u1_e, u2_e, u3_e, u4_e, u5_e, u6_e, u7_e, u8_e, u9_e, ua_e, ok_e, says_e, plen_e, HE_e⟩ := (H).edO
    refine wc_region ?_
    refine wl_val (r_move rfl) (ltn rfl) ?_
    refine wl_val (r_nil rfl) (ltn rfl) ?_
    refine wl_val (r_fieldA 0 Tryz.underlying66 rfl rfl Tryz.sizeOf62 (by decide) rfl (by first | exact Nat.zero_add _ | rfl)) (ltn rfl) ?_
    refine wl_val (r_fieldA 0 Tryz.underlying62 rfl rfl Tryz.sizeOf57 (by decide) rfl (by first | exact Nat.zero_add _ | rfl)) (ltn rfl) ?_
    refine wl_val (r_load (plain_of Tryz.underlying57 rfl) rfl (cell_of_blk (HE_e).get.2 rfl)) (ltn rfl) ?_
    refine wl_val (r_move rfl) (ltn rfl) ?_
    refine wl_eff (e_call (r_call rfl Tryz.func74 rfl rfl) (buf_move_ret HE_e.f2)) (ltn rfl) ?_
    rintro _ w3 ⟨rfl, H3⟩
    refine wl_val (r_assign rfl) (ltn rfl) ?_
    refine wl_nil ?_
    refine wq_seq ?_
    refine wc_ret ?_
    refine wq_end1 (.inl rfl) Tryz.results25 rfl ?_
    exact ⟨by simp [EdS.moveE, hin], by rw [show s.moveS x = s.setBuf s.c.L (mvP s.c.L.length s.c.pt x) s.c.mark from by simp [EdS.moveS, hin]]; exact Holds.mk_ed (setBuf_ok ok_e _ _ _) says_e H3.f11.f11.f11.f11.f11.f11.f11.f11.f11.f10.f11⟩
theorem ed_mark_ret (H : Holds w0 w (EdRep e s • F)) : Ret Tryz.prog 49 #[.pointer (some ⟨e, 0, none⟩), .int .i64 x] w fun v w' => v = .int .i64 (s.markE x) ∧ Holds w0 w' (EdRep e (s.markS x) • F) := by
  refine ret_enter Tryz.func49 rfl Tryz.ntmps49 (Nat.le_of_ble_eq_true rfl) ?_
  dsimp only [slots0, Nat.reduceAdd]
  refine wc_seq ?_
  refine wc_region ?_
  refine wl_val (r_assign rfl) (ltn rfl) ?_
  refine wl_nil ?_
  refine wq_seq ?_
  refine wc_seq ?_
  refine wc_seq ?_
  refine wc_region ?_
  refine wl_val (r_move rfl) (ltn rfl) ?_
  refine wl_eff (e_call (r_call rfl Tryz.func51 rfl rfl) (ed_part_ret H)) (ltn rfl) ?_
  rintro _ _ ⟨rfl, rfl⟩
  refine wl_val (r_assign rfl) (ltn rfl) ?_
  refine wl_nil ?_
  refine wq_seq ?_
  refine wc_seq ?_
  refine wc_region ?_
  refine wl_val (r_move rfl) (ltn rfl) ?_
  refine wl_val (r_neq rfl rfl) (ltn rfl) ?_
  refine wl_nil ?_
  refine wq_seq ?_
  refine wc_cond rfl (fun h1 => ?_) (fun h1 => ?_)
  · (try simp only [cmpS] at h1)
    obtain ⟨hin, hpe⟩ := part_no h1
    refine wc_seq ?_
    refine wc_region ?_
    refine wl_val (r_move rfl) (ltn rfl) ?_
    refine wl_val (r_assign rfl) (ltn rfl) ?_
    refine wl_nil ?_
    refine wq_seq ?_
    refine wc_ret ?_
    refine wq_then_ret ?_
    refine wq_end1 (.inl rfl) Tryz.results49 rfl ?_
    rw [hpe]
    exact ⟨by simp [EdS.markE, EdS.markS, hin], by rw [show s.markS x = s from by simp [EdS.markE, EdS.markS, hin]]; exact H⟩
  · (try simp only [cmpS] at h1)
    have hin := part_yes h1
    refine wc_skip ?_
    refine wq_seq ?_
    refine wc_seq ?_
    obtain ⟨pb_e, pr_e, pw_e, pt_e, pm_e, ph_e, bl_e, pv_e, es_e, u0_e, u1_e, u2_e, u3_e, u4_e, u5_e, u6_e, u7_e, u8_e, u9_e, ua_e, ok_e, says_e, plen_e, HE_e⟩ := (H).edO
    refine wc_region ?_
    refine wl_val (r_move rfl) (ltn rfl) ?_
    refine wl_val (r_nil rfl) (ltn rfl) ?_
    refine wl_val (r_fieldA 0 Tryz.underlying66 rfl rfl Tryz.sizeOf62 (by decide) rfl (by first | exact Nat.zero_add _ | rfl)) (ltn rfl) ?_
    refine wl_val (r_fieldA 0 Tryz.underlying62 rfl rfl Tryz.sizeOf57 (by decide) rfl (by first | exact Nat.zero_add _ | rfl)) (ltn rfl) ?_
    refine wl_val (r_load (plain_of Tryz.underlying57 rfl) rfl (cell_of_blk (HE_e).get.2 rfl)) (ltn rfl) ?_
    refine wl_val (r_move rfl) (ltn rfl) ?_
    refine wl_eff (e_call (r_call rfl Tryz.func71 rfl rfl) (buf_setmark_ret HE_e.f2)) (ltn rfl) ?_
    rintro _ w3 ⟨rfl, H3⟩
    refine wl_val (r_assign rfl) (ltn rfl) ?_
    refine wl_nil ?_
    refine wq_seq ?_
    refine wc_ret ?_
    refine wq_end1 (.inl rfl) Tryz.results49 rfl ?_
    exact ⟨by simp [EdS.markE, hin], by rw [show s.markS x = s.setBuf s.c.L s.c.pt (smM s.c.L s.c.mark x) from by simp [EdS.markS, hin]]; exact Holds.mk_ed (setBuf_ok ok_e _ _ _) says_e H3.f11.f11.f11.f11.f11.f11.f11.f11.f11.f10.f11⟩
theorem ed_swap_ret (H : Holds w0 w (EdRep e s • F)) : Ret Tryz.prog 50 #[.pointer (some ⟨e, 0, none⟩)] w fun v w' => v = .int .i64 s.swapE ∧ Holds w0 w' (EdRep e s.swapS • F) := by
  refine ret_enter Tryz.func50 rfl Tryz.ntmps50 (Nat.le_of_ble_eq_true rfl) ?_
  dsimp only [slots0, Nat.reduceAdd]
  refine wc_seq ?_
  refine wc_region ?_
  refine wl_val (r_assign rfl) (ltn rfl) ?_
  refine wl_nil ?_
  refine wq_seq ?_
  refine wc_seq ?_
  refine wc_seq ?_
  refine wc_region ?_
  refine wl_val (r_move rfl) (ltn rfl) ?_
  refine wl_eff (e_call (r_call rfl Tryz.func51 rfl rfl) (ed_part_ret H)) (ltn rfl) ?_
  rintro _ _ ⟨rfl, rfl⟩
  refine wl_val (r_assign rfl) (ltn rfl) ?_
  refine wl_nil ?_
  refine wq_seq ?_
  refine wc_seq ?_
  refine wc_region ?_
  refine wl_val (r_move rfl) (ltn rfl) ?_
  refine wl_val (r_neq rfl rfl) (ltn rfl) ?_
  refine wl_nil ?_
  refine wq_seq ?_
  refine wc_cond rfl (fun h1 => ?_) (fun h1 => ?_)
  · (try simp only [cmpS] at h1)
    obtain ⟨hin, hpe⟩ := part_no h1
    refine wc_seq ?_
    refine wc_region ?_
    refine wl_val (r_move rfl) (ltn rfl) ?_
    refine wl_val (r_assign rfl) (ltn rfl) ?_
    refine wl_nil ?_
    refine wq_seq ?_
    refine wc_ret ?_
    refine wq_then_ret ?_
    refine wq_end1 (.inl rfl) Tryz.results50 rfl ?_
    rw [hpe]
    exact ⟨by simp [EdS.swapE, EdS.swapS, hin], by rw [show s.swapS = s from by simp [EdS.swapE, EdS.swapS, hin]]; exact H⟩
  · (try simp only [cmpS] at h1)
    have hin := part_yes h1
    refine wc_skip ?_
    refine wq_seq ?_
    refine wc_seq ?_
    obtain ⟨pb_e, pr_e, pw_e, pt_e, pm_e, ph_e, bl_e, pv_e, es_e, u0_e, u1_e, u2_e, u3_e, u4_e, u5_e, u6_e, u7_e, u8_e, u9_e, ua_e, ok_e, says_e, plen_e, HE_e⟩ := (H).edO
    refine wc_region ?_
    refine wl_val (r_move rfl) (ltn rfl) ?_
    refine wl_val (r_nil rfl) (ltn rfl) ?_
    refine wl_val (r_fieldA 0 Tryz.underlying66 rfl rfl Tryz.sizeOf62 (by decide) rfl (by first | exact Nat.zero_add _ | rfl)) (ltn rfl) ?_
    refine wl_val (r_fieldA 0 Tryz.underlying62 rfl rfl Tryz.sizeOf57 (by decide) rfl (by first | exact Nat.zero_add _ | rfl)) (ltn rfl) ?_
    refine wl_val (r_load (plain_of Tryz.underlying57 rfl) rfl (cell_of_blk (HE_e).get.2 rfl)) (ltn rfl) ?_
    refine wl_eff (e_call (r_call rfl Tryz.func118 rfl rfl) (buf_swap_ret HE_e.f2)) (ltn rfl) ?_
    rintro _ w3 ⟨rfl, H3⟩
    refine wl_val (r_assign rfl) (ltn rfl) ?_
    refine wl_nil ?_
    refine wq_seq ?_
    refine wc_ret ?_
    refine wq_end1 (.inl rfl) Tryz.results50 rfl ?_
    exact ⟨by simp [EdS.swapE, hin], by rw [show s.swapS = s.setBuf s.c.L (swP s.c.pt s.c.mark) (swM s.c.pt s.c.mark) from by simp [EdS.swapS, hin]]; exact Holds.mk_ed (setBuf_ok ok_e _ _ _) says_e H3.f11.f11.f11.f11.f11.f11.f11.f11.f11.f10.f11⟩
theorem ed_mode_ret (H : Holds w0 w (EdRep e s • F)) : Ret Tryz.prog 28 #[.pointer (some ⟨e, 0, none⟩), .int .i64 x] w fun v w' => v = .int .i64 (s.modeE x) ∧ Holds w0 w' (EdRep e (s.modeS x) • F) := by
  refine ret_enter Tryz.func28 rfl Tryz.ntmps28 (Nat.le_of_ble_eq_true rfl) ?_
  dsimp only [slots0, Nat.reduceAdd]
  refine wc_seq ?_
  refine wc_region ?_
  refine wl_val (r_assign rfl) (ltn rfl) ?_
  refine wl_nil ?_
  refine wq_seq ?_
  refine wc_seq ?_
  refine wc_seq ?_
  refine wc_region ?_
  refine wl_val (r_move rfl) (ltn rfl) ?_
  refine wl_eff (e_call (r_call rfl Tryz.func51 rfl rfl) (ed_part_ret H)) (ltn rfl) ?_
  rintro _ _ ⟨rfl, rfl⟩
  refine wl_val (r_assign rfl) (ltn rfl) ?_
  refine wl_nil ?_
  refine wq_seq ?_
  refine wc_seq ?_
  refine wc_region ?_
  refine wl_val (r_move rfl) (ltn rfl) ?_
  refine wl_val (r_neq rfl rfl) (ltn rfl) ?_
  refine wl_nil ?_
  refine wq_seq ?_
  refine wc_cond rfl (fun h1 => ?_) (fun h1 => ?_)
  · (try simp only [cmpS] at h1)
    obtain ⟨hin, hpe⟩ := part_no h1
    refine wc_seq ?_
    refine wc_region ?_
    refine wl_val (r_move rfl) (ltn rfl) ?_
    refine wl_val (r_assign rfl) (ltn rfl) ?_
    refine wl_nil ?_
    refine wq_seq ?_
    refine wc_ret ?_
    refine wq_then_ret ?_
    refine wq_end1 (.inl rfl) Tryz.results28 rfl ?_
    rw [hpe]
    exact ⟨by simp [EdS.modeE, EdS.modeS, hin], by rw [show s.modeS x = s from by simp [EdS.modeE, EdS.modeS, hin]]; exact H⟩
  · (try simp only [cmpS] at h1)
    have hin := part_yes h1
    refine wc_skip ?_
    refine wq_seq ?_
    refine wc_seq ?_
    refine wc_seq ?_
    refine wc_region ?_
    refine wl_val (r_move rfl) (ltn rfl) ?_
    refine wl_val (r_lss rfl rfl) (ltn rfl) ?_
    refine wl_split rfl (ltn rfl) (fun h2 => ?_) (fun h2 => ?_)
    · (try simp only [cmpS] at h2)
      refine wl_no rfl rfl rfl (ltn rfl) ?_
      refine wl_no rfl rfl rfl (ltn rfl) ?_
      refine wl_val (r_pick_t rfl rfl) (ltn rfl) ?_
      refine wl_nil ?_
      refine wq_seq ?_
      refine wc_cond_t rfl ?_
      refine wc_seq ?_
      refine wc_region ?_
      refine wl_val (r_assign rfl) (ltn rfl) ?_
      refine wl_nil ?_
      refine wq_seq ?_
      refine wc_ret ?_
      refine wq_then_ret ?_
      refine wq_end1 (.inl rfl) Tryz.results28 rfl ?_
      have hd : s.modeE x = 1 := by unfold EdS.modeE; rw [if_pos hin, if_pos (by omega)]
      exact ⟨by rw [hd], by unfold EdS.modeS; rw [hd, if_neg (by decide)]; exact H⟩
    · (try simp only [cmpS] at h2)
      refine wl_yes rfl rfl ?_
      refine wl_val (r_move rfl) (ltn rfl) ?_
      refine wl_yes rfl rfl ?_
      refine wl_val (r_gtr rfl rfl) (ltn rfl) ?_
      refine wl_val (r_pick_f rfl rfl) (ltn rfl) ?_
      refine wl_nil ?_
      refine wq_seq ?_
      refine wc_cond rfl (fun h3 => ?_) (fun h3 => ?_)
      · (try simp only [cmpS] at h3)
        
        refine wc_seq ?_
        refine wc_region ?_
        refine wl_val (r_assign rfl) (ltn rfl) ?_
        refine wl_nil ?_
        refine wq_seq ?_
        refine wc_ret ?_
        refine wq_then_ret ?_
        refine wq_end1 (.inl rfl) Tryz.results28 rfl ?_
        have hd : s.modeE x = 1 := by unfold EdS.modeE; rw [if_pos hin, if_pos (by omega)]
        exact ⟨by rw [hd], by unfold EdS.modeS; rw [hd, if_neg (by decide)]; exact H⟩
      · (try simp only [cmpS] at h3)
        
        refine wc_skip ?_
        refine wq_seq ?_
        refine wc_seq ?_
        have hd : s.modeE x = 0 := by unfold EdS.modeE; rw [if_pos hin, if_neg (by omega)]
        obtain ⟨pb_e, pr_e, pw_e, pt_e, pm_e, ph_e, bl_e, pv_e, es_e, u0_e, u1_e, u2_e, u3_e, u4_e, u5_e, u6_e, u7_e, u8_e, u9_e, ua_e, ok_e, says_e, plen_e, HE_e⟩ := (H).edO
        refine wc_region ?_
        refine wl_val (r_move rfl) (ltn rfl) ?_
        refine wl_val (r_move rfl) (ltn rfl) ?_
        refine wl_val (r_nil rfl) (ltn rfl) ?_
        refine wl_val (r_fieldA 0 Tryz.underlying66 rfl rfl Tryz.sizeOf62 (by decide) rfl (by first | exact Nat.zero_add _ | rfl)) (ltn rfl) ?_
        refine wl_val (r_fieldA 4 Tryz.underlying62 rfl rfl Tryz.sizeOf3 (by decide) rfl (by first | exact Nat.zero_add _ | rfl)) (ltn rfl) ?_
        refine wl_eff0 (e_storeL 4 (l' := [_, _, _, _, _, _, _, _, _, _, _, _, _, _, _, _, _, _, _, _, _, _, _, _, _, _, _, _, _, _, _, _, _, _]) HE_e Tryz.sizeOf3 rfl rfl (by first | rfl | assumption) rfl rfl) ?_
        rintro _ w3 H3
        refine wl_nil ?_
        refine wq_seq ?_
        refine wc_seq ?_
        refine wc_region ?_
        refine wl_val (r_assign rfl) (ltn rfl) ?_
        refine wl_nil ?_
        refine wq_seq ?_
        refine wc_ret ?_
        refine wq_end1 (.inl rfl) Tryz.results28 rfl ?_
        rw [hd]
        refine ⟨rfl, ?_⟩
        unfold EdS.modeS
        rw [if_pos hd]
        exact Holds.mk_ed (s := { s with c := { s.c with mode := x } }) ok_e says_e H3.f11.f11.f11.f11.f11.f11.f11.f11.f11.f11.f11
theorem ed_line_ret (H : Holds w0 w (EdRep e s • F)) : Ret Tryz.prog 18 #[.pointer (some ⟨e, 0, none⟩)] w fun v w' => ∃ u, v = .agg (lineCells u s.c.pt s.c.mark) ∧ Holds w0 w' (RowI 21 .i32 u s.c.L • EdRep e s • F) := by
  refine ret_enter Tryz.func18 rfl Tryz.ntmps18 (Nat.le_of_ble_eq_true rfl) ?_
  dsimp only [slots0, Nat.reduceAdd]
  refine wc_seq ?_
  refine wc_region ?_
  refine wl_eff (e_allocL (l := [_, _, _]) H Tryz.zeroValue42 rfl) (ltn rfl) ?_
  rintro _ w1 ⟨b1, rfl, H1⟩
  refine wl_nil ?_
  refine wq_seq ?_
  refine wc_seq ?_
  refine wc_seq ?_
  refine wc_region ?_
  refine wl_val (r_move rfl) (ltn rfl) ?_
  refine wl_eff (e_call (r_call rfl Tryz.func43 rfl rfl) (ed_none_ret H1.f2)) (ltn rfl) ?_
  rintro _ _ ⟨rfl, rfl⟩
  refine wl_nil ?_
  refine wq_seq ?_
  refine wc_cond_f rfl ?_
  refine wc_skip ?_
  refine wq_seq ?_
  refine wc_seq ?_
  obtain ⟨pb_e, pr_e, pw_e, pt_e, pm_e, ph_e, bl_e, pv_e, es_e, u0_e, u1_e, u2_e, u3_e, u4_e, u5_e, u6_e, u7_e, u8_e, u9_e, ua_e, ok_e, says_e, plen_e, HE_e⟩ := (H1.f2).edO
  refine wc_region ?_
  refine wl_val (r_move rfl) (ltn rfl) ?_
  refine wl_val (r_nil rfl) (ltn rfl) ?_
  refine wl_val (r_fieldA 0 Tryz.underlying66 rfl rfl Tryz.sizeOf62 (by decide) rfl (by first | exact Nat.zero_add _ | rfl)) (ltn rfl) ?_
  refine wl_val (r_fieldA 0 Tryz.underlying62 rfl rfl Tryz.sizeOf57 (by decide) rfl (by first | exact Nat.zero_add _ | rfl)) (ltn rfl) ?_
  refine wl_val (r_load (plain_of Tryz.underlying57 rfl) rfl (cell_of_blk (HE_e).get.2 rfl)) (ltn rfl) ?_
  refine wl_eff (e_call (r_call rfl Tryz.func62 rfl rfl) (buf_line_ret HE_e.f2)) (ltn rfl) ?_
  rintro _ w4 ⟨u4, rfl, H4⟩
  refine wl_eff0 (e_storePL 0 (l' := [_, _, _]) (us := [_, _, _]) H4.f13 Tryz.sizeOf42 rfl rfl rfl (ones_cons (by first | rfl | exact Rd.one ((H4).row_rd)) (ones_cons (by first | rfl | assumption) (ones_cons (by first | rfl | assumption) ones_nil))) rfl rfl) ?_
  rintro _ w5 H5
  refine wl_nil ?_
  refine wq_seq ?_
  refine wc_ret ?_
  refine wq_end (.inl rfl) (resC Tryz.results18 rfl Tryz.underlying42 rfl (by rw [show (Tryz.prog.info? 42).map (·.size) = some 3 from by kernel_rfl]; rfl) (H5).get.2) ?_
  have Ho7 := H5.f13.f13.f13.f13.f13.f13.f13.f13.f13.f12.f13
  have Hc8 := Holds.mk_ed (s := s) ok_e says_e Ho7
  exact ⟨_, rfl, Hc8.f2.right.f2⟩
end
end Go.Proofs.YtgmpclifphbjkaaGreatDoor
end
