import Derived.Test.YtgmpclifphbjkaaGreatDoorZ18
/- Texts of mine, joined: EdK. -/
section
/- Editors: Copy, Kill, Yank, Pop. -/
set_option linter.unusedSimpArgs false
set_option linter.unusedVariables false
namespace Go.Proofs.YtgmpclifphbjkaaGreatDoor
open Go.RowKit
theorem killM_bad {E : List (List Int)} {a : Nat} {way : Int} {l : List Int} (h : (killM E a way l).1 ≠ 0) : (killM E a way l).2 = (E, a) := by
  unfold killM at *
  repeat' split at h
  all_goals first | (simp at h; done) | skip
  all_goals (repeat' (first | rw [if_pos (by assumption)] | rw [if_neg (by assumption)])) <;> rfl
theorem killK_bad {s : EdS} {i j : Int} {back : Bool} (h : (s.killK i j back).1 ≠ 0) : (s.killK i j back).2 = (s.c.E, s.c.at_) := killM_bad h
theorem setBuf_same (s : EdS) : s.setBuf s.c.L s.c.pt s.c.mark = s := rfl
theorem replS_bad {s : EdS} {i j : Int} {l : List Int} (h : s.replEd i j l ≠ 0) : s.replS i j l = s := by
  unfold EdS.replS EdS.replEd at *
  split
  · rename_i hin
    rw [if_pos hin] at h
    rw [note_nil (by rw [(repl_none h).1, (repl_none h).2]; rfl)]
    unfold replL replP replM
    rw [if_neg h, if_neg h, if_neg h]
    exact setBuf_same s
  · rfl
theorem copy_no {s : EdS} {i j : Int} {back : Bool} (h : s.copyE i j back ≠ 0) : s.copyS i j back = s := by unfold EdS.copyS; rw [if_neg h]
section
variable {w0 w : World} {F : HP} {e p h pr : Nat} {s : EdS} {i j x : Int} {back : Bool} {v : Value} {l : List Int}
theorem ed_copy_ret (H : Holds w0 w (EdRep e s • F)) : Ret Tryz.prog 48 #[.pointer (some ⟨e, 0, none⟩), .int .i64 i, .int .i64 j, .bool back] w fun v' w' => v' = .int .i64 (s.copyE i j back) ∧ Holds w0 w' (EdRep e (s.copyS i j back) • F) := by
  refine ret_enter Tryz.func48 rfl Tryz.ntmps48 (Nat.le_of_ble_eq_true rfl) ?_
  dsimp only [slots0, Nat.reduceAdd]
  refine wc_seq ?_
  refine wc_region ?_
  refine wl_val (r_assign rfl) (ltn rfl) ?_
  refine wl_nil ?_
  refine wq_seq ?_
  refine wc_seq ?_
  refine wc_seq ?_
  refine wc_region ?_
  refine wl_val (r_move rfl) (ltn rfl) ?_
  refine wl_eff (e_call (r_call rfl Tryz.func51 rfl rfl) (ed_part_ret H)) (ltn rfl) ?_
  rintro _ _ ⟨rfl, rfl⟩
  refine wl_val (r_assign rfl) (ltn rfl) ?_
  refine wl_nil ?_
  refine wq_seq ?_
  refine wc_seq ?_
  refine wc_region ?_
  refine wl_val (r_move rfl) (ltn rfl) ?_
  refine wl_val (r_neq rfl rfl) (ltn rfl) ?_
  refine wl_nil ?_
  refine wq_seq ?_
  refine wc_cond rfl (fun h1 => ?_) (fun h1 => ?_)
  · (try simp only [cmpS] at h1)
    obtain ⟨hin, hpe⟩ := part_no h1
    refine wc_seq ?_
    refine wc_region ?_
    refine wl_val (r_move rfl) (ltn rfl) ?_
    refine wl_val (r_assign rfl) (ltn rfl) ?_
    refine wl_nil ?_
    refine wq_seq ?_
    refine wc_ret ?_
    refine wq_then_ret ?_
    refine wq_end1 (.inl rfl) Tryz.results48 rfl ?_
    rw [hpe]
    exact ⟨by simp [EdS.copyE, EdS.copyS, hin], by rw [show s.copyS i j back = s from by simp [EdS.copyE, EdS.copyS, hin]]; exact H⟩
  · (try simp only [cmpS] at h1)
    have hin := part_yes h1
    refine wc_skip ?_
    refine wq_seq ?_
    refine wc_seq ?_
    refine wc_seq ?_
    obtain ⟨pb_e, pr_e, pw_e, pt_e, pm_e, ph_e, bl_e, pv_e, es_e, u0_e, u1_e, u2_e, u3_e, u4_e, u5_e, u6_e, u7_e, u8_e, u9_e, ua_e, ok_e, says_e, plen_e, HE_e⟩ := (H).edO
    have hL : s.c.L.length ≤ 1024 := by obtain ⟨a, c, xs, f, t, h1, h2, h3, h4, h5, h6, h7, hc1, hc2, hl, H1⟩ := (HE_e.f2).buf; exact h4
    refine wc_region ?_
    refine wl_val (r_move rfl) (ltn rfl) ?_
    refine wl_val (r_lss rfl rfl) (ltn rfl) ?_
    refine wl_split rfl (ltn rfl) (fun h2 => ?_) (fun h2 => ?_)
    · (try simp only [cmpS] at h2)
      refine wl_no rfl rfl rfl (ltn rfl) ?_
      refine wl_no rfl rfl rfl (ltn rfl) ?_
      refine wl_no rfl rfl rfl (ltn rfl) ?_
      refine wl_no rfl rfl rfl (ltn rfl) ?_
      refine wl_no rfl rfl rfl (ltn rfl) ?_
      refine wl_no rfl rfl rfl (ltn rfl) ?_
      refine wl_no rfl rfl rfl (ltn rfl) ?_
      refine wl_no rfl rfl rfl (ltn rfl) ?_
      refine wl_val (r_pick_t rfl rfl) (ltn rfl) ?_
      refine wl_val (r_move rfl) (ltn rfl) ?_
      refine wl_no rfl rfl rfl (ltn rfl) ?_
      refine wl_no rfl rfl rfl (ltn rfl) ?_
      refine wl_no rfl rfl rfl (ltn rfl) ?_
      refine wl_val (r_pick_t rfl rfl) (ltn rfl) ?_
      refine wl_val (r_move rfl) (ltn rfl) ?_
      refine wl_no rfl rfl rfl (ltn rfl) ?_
      refine wl_no rfl rfl rfl (ltn rfl) ?_
      refine wl_no rfl rfl rfl (ltn rfl) ?_
      refine wl_no rfl rfl rfl (ltn rfl) ?_
      refine wl_no rfl rfl rfl (ltn rfl) ?_
      refine wl_no rfl rfl rfl (ltn rfl) ?_
      refine wl_no rfl rfl rfl (ltn rfl) ?_
      refine wl_no rfl rfl rfl (ltn rfl) ?_
      refine wl_val (r_pick_t rfl rfl) (ltn rfl) ?_
      refine wl_nil ?_
      refine wq_seq ?_
      refine wc_cond_t rfl ?_
      refine wc_seq ?_
      refine wc_region ?_
      refine wl_val (r_assign rfl) (ltn rfl) ?_
      refine wl_nil ?_
      refine wq_seq ?_
      refine wc_ret ?_
      refine wq_then_ret ?_
      refine wq_end1 (.inl rfl) Tryz.results48 rfl ?_
      have hb : s.copyBad i j := by unfold EdS.copyBad; omega
      have hc : s.copyE i j back = 70 := by unfold EdS.copyE; rw [if_pos hin, if_pos hb]
      exact ⟨by rw [hc], by rw [copy_no (by rw [hc]; decide)]; exact Holds.mk_ed ok_e says_e HE_e.f11.f11.f11.f11.f11.f11.f11.f11.f11.f11.f11⟩
    · (try simp only [cmpS] at h2)
      refine wl_yes rfl rfl ?_
      refine wl_val (r_move rfl) (ltn rfl) ?_
      refine wl_yes rfl rfl ?_
      refine wl_val (r_move rfl) (ltn rfl) ?_
      refine wl_yes rfl rfl ?_
      refine wl_val (r_nil rfl) (ltn rfl) ?_
      refine wl_yes rfl rfl ?_
      refine wl_val (r_fieldA 0 Tryz.underlying66 rfl rfl Tryz.sizeOf62 (by decide) rfl (by first | exact Nat.zero_add _ | rfl)) (ltn rfl) ?_
      refine wl_yes rfl rfl ?_
      refine wl_val (r_fieldA 0 Tryz.underlying62 rfl rfl Tryz.sizeOf57 (by decide) rfl (by first | exact Nat.zero_add _ | rfl)) (ltn rfl) ?_
      refine wl_yes rfl rfl ?_
      refine wl_val (r_load (plain_of Tryz.underlying57 rfl) rfl (cell_of_blk (HE_e).get.2 rfl)) (ltn rfl) ?_
      refine wl_yes rfl rfl ?_
      refine wl_eff (e_call (r_call rfl Tryz.func69 rfl rfl) (buf_len_ret HE_e.f2)) (ltn rfl) ?_
      rintro _ w3 ⟨rfl, hD3⟩
      have HD3 := HE_e.drewn hD3
      refine wl_yes rfl rfl ?_
      refine wl_val (r_gtr rfl rfl) (ltn rfl) ?_
      refine wl_val (r_pick_f rfl rfl) (ltn rfl) ?_
      refine wl_split rfl (ltn rfl) (fun h3 => ?_) (fun h3 => ?_)
      · (try simp only [cmpS] at h3)
        refine wl_no rfl rfl rfl (ltn rfl) ?_
        refine wl_no rfl rfl rfl (ltn rfl) ?_
        refine wl_no rfl rfl rfl (ltn rfl) ?_
        refine wl_val (r_pick_t rfl rfl) (ltn rfl) ?_
        refine wl_val (r_move rfl) (ltn rfl) ?_
        refine wl_no rfl rfl rfl (ltn rfl) ?_
        refine wl_no rfl rfl rfl (ltn rfl) ?_
        refine wl_no rfl rfl rfl (ltn rfl) ?_
        refine wl_no rfl rfl rfl (ltn rfl) ?_
        refine wl_no rfl rfl rfl (ltn rfl) ?_
        refine wl_no rfl rfl rfl (ltn rfl) ?_
        refine wl_no rfl rfl rfl (ltn rfl) ?_
        refine wl_no rfl rfl rfl (ltn rfl) ?_
        refine wl_val (r_pick_t rfl rfl) (ltn rfl) ?_
        refine wl_nil ?_
        refine wq_seq ?_
        refine wc_cond_t rfl ?_
        refine wc_seq ?_
        refine wc_region ?_
        refine wl_val (r_assign rfl) (ltn rfl) ?_
        refine wl_nil ?_
        refine wq_seq ?_
        refine wc_ret ?_
        refine wq_then_ret ?_
        refine wq_end1 (.inl rfl) Tryz.results48 rfl ?_
        have hb : s.copyBad i j := by unfold EdS.copyBad; omega
        have hc : s.copyE i j back = 70 := by unfold EdS.copyE; rw [if_pos hin, if_pos hb]
        exact ⟨by rw [hc], by rw [copy_no (by rw [hc]; decide)]; exact Holds.mk_ed ok_e says_e HD3.f11.f11.f11.f11.f11.f11.f11.f11.f11.f11.f11⟩
      · (try simp only [cmpS] at h3)
        refine wl_yes rfl rfl ?_
        refine wl_val (r_move rfl) (ltn rfl) ?_
        refine wl_yes rfl rfl ?_
        refine wl_val (r_move rfl) (ltn rfl) ?_
        refine wl_yes rfl rfl ?_
        refine wl_val (r_lss rfl rfl) (ltn rfl) ?_
        refine wl_val (r_pick_f rfl rfl) (ltn rfl) ?_
        refine wl_split rfl (ltn rfl) (fun h4 => ?_) (fun h4 => ?_)
        · (try simp only [cmpS] at h4)
          refine wl_no rfl rfl rfl (ltn rfl) ?_
          refine wl_no rfl rfl rfl (ltn rfl) ?_
          refine wl_no rfl rfl rfl (ltn rfl) ?_
          refine wl_no rfl rfl rfl (ltn rfl) ?_
          refine wl_no rfl rfl rfl (ltn rfl) ?_
          refine wl_no rfl rfl rfl (ltn rfl) ?_
          refine wl_no rfl rfl rfl (ltn rfl) ?_
          refine wl_no rfl rfl rfl (ltn rfl) ?_
          refine wl_val (r_pick_t rfl rfl) (ltn rfl) ?_
          refine wl_nil ?_
          refine wq_seq ?_
          refine wc_cond_t rfl ?_
          refine wc_seq ?_
          refine wc_region ?_
          refine wl_val (r_assign rfl) (ltn rfl) ?_
          refine wl_nil ?_
          refine wq_seq ?_
          refine wc_ret ?_
          refine wq_then_ret ?_
          refine wq_end1 (.inl rfl) Tryz.results48 rfl ?_
          have hb : s.copyBad i j := by unfold EdS.copyBad; omega
          have hc : s.copyE i j back = 70 := by unfold EdS.copyE; rw [if_pos hin, if_pos hb]
          exact ⟨by rw [hc], by rw [copy_no (by rw [hc]; decide)]; exact Holds.mk_ed ok_e says_e HD3.f11.f11.f11.f11.f11.f11.f11.f11.f11.f11.f11⟩
        · (try simp only [cmpS] at h4)
          refine wl_yes rfl rfl ?_
          refine wl_val (r_move rfl) (ltn rfl) ?_
          refine wl_yes rfl rfl ?_
          refine wl_val (r_move rfl) (ltn rfl) ?_
          refine wl_yes rfl rfl ?_
          refine wl_val (r_nil rfl) (ltn rfl) ?_
          refine wl_yes rfl rfl ?_
          refine wl_val (r_fieldA 0 Tryz.underlying66 rfl rfl Tryz.sizeOf62 (by decide) rfl (by first | exact Nat.zero_add _ | rfl)) (ltn rfl) ?_
          refine wl_yes rfl rfl ?_
          refine wl_val (r_fieldA 0 Tryz.underlying62 rfl rfl Tryz.sizeOf57 (by decide) rfl (by first | exact Nat.zero_add _ | rfl)) (ltn rfl) ?_
          refine wl_yes rfl rfl ?_
          refine wl_val (r_load (plain_of Tryz.underlying57 rfl) rfl (cell_of_blk (HD3).get.2 rfl)) (ltn rfl) ?_
          refine wl_yes rfl rfl ?_
          refine wl_eff (e_call (r_call rfl Tryz.func69 rfl rfl) (buf_len_ret HD3.f2)) (ltn rfl) ?_
          rintro _ w4 ⟨rfl, hD4⟩
          have HD4 := HD3.drewn hD4
          refine wl_yes rfl rfl ?_
          refine wl_val (r_gtr rfl rfl) (ltn rfl) ?_
          refine wl_val (r_pick_f rfl rfl) (ltn rfl) ?_
          refine wl_nil ?_
          refine wq_seq ?_
          refine wc_cond rfl (fun h5 => ?_) (fun h5 => ?_)
          · (try simp only [cmpS] at h5)
            
            refine wc_seq ?_
            refine wc_region ?_
            refine wl_val (r_assign rfl) (ltn rfl) ?_
            refine wl_nil ?_
            refine wq_seq ?_
            refine wc_ret ?_
            refine wq_then_ret ?_
            refine wq_end1 (.inl rfl) Tryz.results48 rfl ?_
            have hb : s.copyBad i j := by unfold EdS.copyBad; omega
            have hc : s.copyE i j back = 70 := by unfold EdS.copyE; rw [if_pos hin, if_pos hb]
            exact ⟨by rw [hc], by rw [copy_no (by rw [hc]; decide)]; exact Holds.mk_ed ok_e says_e HD4.f11.f11.f11.f11.f11.f11.f11.f11.f11.f11.f11⟩
          · (try simp only [cmpS] at h5)
            
            refine wc_skip ?_
            refine wq_seq ?_
            refine wc_seq ?_
            have hb : ¬ s.copyBad i j := by unfold EdS.copyBad; omega
            have hc : s.copyE i j back = (s.killK i j back).1 := by unfold EdS.copyE; rw [if_pos hin, if_neg hb]
            refine wc_region ?_
            refine wl_val (r_assign rfl) (ltn rfl) ?_
            refine wl_nil ?_
            refine wq_seq ?_
            refine wc_join [(0, _), (1, _), (2, _)] (fun (_ : Unit) => [(10, .int .i64 (s.way back))]) (fun (_ : Unit) W => W = w4) (Sub.cons rfl (Sub.cons rfl (Sub.cons rfl (Sub.nil _)))) ?_ ?_
            · rintro _ w5 rfl
              dsimp only [List.cons_append, List.nil_append]
              refine wc_seq ?_
              refine wc_seq ?_
              have H11d5 := HD4.drew
              have hS11d5 := Holds.kp (H11d5.f11.f11.f11.f11.f11.f11.f11.f11.f11.f11.f11)
              refine wd_beginK [4, 10] hS11d5 (by kernel_rfl) (by kernel_rfl) rfl ?_
              refine wd_takeT 0 rfl (by kernel_rfl) (by kernel_rfl) hS11d5 (fun _ => r_move rfl) (ltn rfl) ?_
              refine wd_takeT 1 rfl (by kernel_rfl) (by kernel_rfl) hS11d5 (fun _ => r_nil rfl) (ltn rfl) ?_
              refine wd_takeT 2 rfl (by kernel_rfl) (by kernel_rfl) hS11d5 (fun _ => r_fieldA 0 Tryz.underlying66 rfl rfl Tryz.sizeOf62 (by decide) rfl (by first | exact Nat.zero_add _ | rfl)) (ltn rfl) ?_
              refine wd_takeT 3 rfl (by kernel_rfl) (by kernel_rfl) hS11d5 (fun _ => r_fieldA 1 Tryz.underlying62 rfl rfl Tryz.sizeOf58 (by decide) rfl (by first | exact Nat.zero_add _ | rfl)) (ltn rfl) ?_
              refine wd_take 4 rfl (by kernel_rfl) (by kernel_rfl) hS11d5 (by decide) (fun W hW => r_load (plain_of Tryz.underlying58 rfl) rfl (cell_of_blk ((Kp.h hW)).get.2 rfl)) (ltn rfl) ?_
              refine wd_takeT 5 rfl (by kernel_rfl) (by kernel_rfl) hS11d5 (fun _ => r_move rfl) (ltn rfl) ?_
              refine wd_takeT 6 rfl (by kernel_rfl) (by kernel_rfl) hS11d5 (fun _ => r_move rfl) (ltn rfl) ?_
              refine wd_takeT 7 rfl (by kernel_rfl) (by kernel_rfl) hS11d5 (fun _ => r_nil rfl) (ltn rfl) ?_
              refine wd_takeT 8 rfl (by kernel_rfl) (by kernel_rfl) hS11d5 (fun _ => r_fieldA 0 Tryz.underlying66 rfl rfl Tryz.sizeOf62 (by decide) rfl (by first | exact Nat.zero_add _ | rfl)) (ltn rfl) ?_
              refine wd_takeT 9 rfl (by kernel_rfl) (by kernel_rfl) hS11d5 (fun _ => r_fieldA 0 Tryz.underlying62 rfl rfl Tryz.sizeOf57 (by decide) rfl (by first | exact Nat.zero_add _ | rfl)) (ltn rfl) ?_
              refine wd_take 10 rfl (by kernel_rfl) (by kernel_rfl) hS11d5 (by decide) (fun W hW => r_load (plain_of Tryz.underlying57 rfl) rfl (cell_of_blk ((Kp.h hW)).get.2 rfl)) (ltn rfl) ?_
              refine wd_takeT 12 rfl (by kernel_rfl) (by kernel_rfl) hS11d5 (fun _ => r_move rfl) (ltn rfl) ?_
              refine wd_takeT 13 rfl (by kernel_rfl) (by kernel_rfl) hS11d5 (fun _ => r_move rfl) (ltn rfl) ?_
              refine wd_eff 11 rfl (by kernel_rfl) (e_call (r_call rfl Tryz.func117 rfl rfl) (buf_text_ret H11d5.f2)) (ltn rfl) ?_
              rintro u6 w6 H6
              have hS6n := Holds.kp (H6.f12.f12.f12.f12.f12.f12.f12.f12.f12.f12.f12.f12)
              refine keepK hS6n (fun W hW => (Kp.h hW).right.f11.f11.f11.f11.f11.f11.f11.f11.f11.f10.f11) ?_
              refine wd_takeT 14 rfl (by kernel_rfl) (by kernel_rfl) hS6n (fun _ => r_sliceS ((H6).row_rd) Tryz.underlying22 Tryz.sizeOf21 rfl rfl rfl (by omega)) (ltn rfl) ?_
              refine wd_eff 15 rfl (by kernel_rfl) (e_call (r_call rfl Tryz.func116 rfl rfl) (ring_kill_ret H6.f4 (fun W HW => RdI.cut ((HW).row_rd) (by omega) (by omega)))) (ltn rfl) ?_
              rintro _ w7 ⟨rfl, H7⟩
              have hS7n := Holds.kp (H7.f12.f12.f12.f12.f12.f12.f12.f12.f12.f12.f12.f12)
              refine keepX hS7n (by kernel_rfl) ?_
              refine wd_takeT 16 rfl (by kernel_rfl) (by kernel_rfl) hS7n (fun _ => r_assign rfl) (ltn rfl) ?_
              refine wd_done (by kernel_rfl) ?_
              refine wq_seq ?_
              refine wc_seq ?_
              refine wc_region ?_
              refine wl_val (r_move rfl) (ltn rfl) ?_
              refine wl_val (r_neq rfl rfl) (ltn rfl) ?_
              refine wl_nil ?_
              refine wq_seq ?_
              refine wc_cond rfl (fun h6 => ?_) (fun h6 => ?_)
              · (try simp only [cmpS] at h6)
                
                refine wc_seq ?_
                refine wc_region ?_
                refine wl_val (r_move rfl) (ltn rfl) ?_
                refine wl_val (r_assign rfl) (ltn rfl) ?_
                refine wl_nil ?_
                refine wq_seq ?_
                refine wc_ret ?_
                refine wq_then_ret ?_
                refine wq_end1 (.inl rfl) Tryz.results48 rfl ?_
                exact ⟨by rw [hc]; rfl, by rw [copy_no (by rw [hc]; assumption)]; have HX := H7.f2.right.f11.f11.f11.f11.f11.f11.f11.f11.f9.f10.f11; rw [show killM s.c.E s.c.at_ (s.way back) ((s.c.L.drop i.toNat).take (j.toNat - i.toNat)) = s.killK i j back from rfl, killK_bad (by assumption)] at HX; exact Holds.mk_ed ok_e says_e HX⟩
              · (try simp only [cmpS] at h6)
                
                refine wc_skip ?_
                refine wq_seq ?_
                refine wc_seq ?_
                refine wc_region ?_
                refine wl_val (r_move rfl) (ltn rfl) ?_
                refine wl_val (r_move rfl) (ltn rfl) ?_
                refine wl_val (r_nil rfl) (ltn rfl) ?_
                refine wl_val (r_fieldA 29 Tryz.underlying66 rfl rfl Tryz.sizeOf4 (by decide) rfl (by first | exact Nat.zero_add _ | rfl)) (ltn rfl) ?_
                refine wl_eff0 (e_storeL 29 (l' := [_, _, _, _, _, _, _, _, _, _, _, _, _, _, _, _, _, _, _, _, _, _, _, _, _, _, _, _, _, _, _, _, _, _]) H7.f4 Tryz.sizeOf4 rfl rfl (by first | rfl | assumption) rfl rfl) ?_
                rintro _ w8 H8
                refine wl_val (r_nil rfl) (ltn rfl) ?_
                refine wl_val (r_fieldA 28 Tryz.underlying66 rfl rfl Tryz.sizeOf3 (by decide) rfl (by first | exact Nat.zero_add _ | rfl)) (ltn rfl) ?_
                refine wl_eff0 (e_storeL 28 (l' := [_, _, _, _, _, _, _, _, _, _, _, _, _, _, _, _, _, _, _, _, _, _, _, _, _, _, _, _, _, _, _, _, _, _]) H8 Tryz.sizeOf3 rfl rfl (by first | rfl | assumption) rfl rfl) ?_
                rintro _ w9 H9
                refine wl_nil ?_
                refine wq_seq ?_
                refine wc_seq ?_
                refine wc_region ?_
                refine wl_val (r_assign rfl) (ltn rfl) ?_
                refine wl_nil ?_
                refine wq_seq ?_
                refine wc_ret ?_
                refine wq_end1 (.inl rfl) Tryz.results48 rfl ?_
                have hc0 : s.copyE i j back = 0 := by rw [hc]; assumption
                have hs : s.copyS i j back = { s.setRing (s.killK i j back).2.1 (s.killK i j back).2.2 with killed := true, cls := 1 } := by unfold EdS.copyS; rw [if_pos hc0]
                exact ⟨by rw [hc0], by rw [hs]; exact Holds.mk_ed (s := { s.setRing (s.killK i j back).2.1 (s.killK i j back).2.2 with killed := true, cls := 1 }) ok_e says_e H9.f3.right.f11.f11.f11.f11.f11.f11.f11.f11.f10.f11.f11⟩
            · skip
              refine wc_seq ?_
              refine wc_region ?_
              refine wl_val (r_move rfl) (ltn rfl) ?_
              refine wl_val (r_nil rfl) (ltn rfl) ?_
              refine wl_val (r_fieldA 0 Tryz.underlying66 rfl rfl Tryz.sizeOf62 (by decide) rfl (by first | exact Nat.zero_add _ | rfl)) (ltn rfl) ?_
              refine wl_val (r_fieldA 6 Tryz.underlying62 rfl rfl Tryz.sizeOf3 (by decide) rfl (by first | exact Nat.zero_add _ | rfl)) (ltn rfl) ?_
              refine wl_val (r_load (plain_of Tryz.underlying3 rfl) rfl (cell_of_blk (HD4).get.2 rfl)) (ltn rfl) ?_
              refine wl_val (r_eql rfl rfl) (ltn rfl) ?_
              refine wl_split rfl (ltn rfl) (fun h7 => ?_) (fun h7 => ?_)
              · (try simp only [cmpS] at h7)
                refine wl_no rfl rfl rfl (ltn rfl) ?_
                refine wl_no rfl rfl rfl (ltn rfl) ?_
                refine wl_no rfl rfl rfl (ltn rfl) ?_
                refine wl_no rfl rfl rfl (ltn rfl) ?_
                refine wl_val (r_pick_t rfl rfl) (ltn rfl) ?_
                refine wl_nil ?_
                refine wq_seq ?_
                refine wc_cond_t rfl ?_
                refine wc_seq ?_
                refine wc_region ?_
                refine wl_val (r_assign rfl) (ltn rfl) ?_
                refine wl_nil ?_
                refine wq_seq ?_
                refine wc_seq ?_
                refine wc_region ?_
                refine wl_val (r_move rfl) (ltn rfl) ?_
                refine wl_nil ?_
                refine wq_seq ?_
                refine wc_cond rfl (fun h8 => ?_) (fun h8 => ?_)
                · (try simp only [cmpS] at h8)
                  
                  refine wc_region ?_
                  refine wl_val (r_assign rfl) (ltn rfl) ?_
                  refine wl_nil ?_
                  refine wq_join (()) ?_ ?_ ?_
                  · exact (Sub.cons' rfl (by unfold EdS.way; simp_all) (Sub.nil _))
                  · exact (Sub.cons rfl (Sub.cons rfl (Sub.cons rfl (Sub.nil _))))
                  · (try dsimp only)
                    first | done | exact rfl
                · (try simp only [cmpS] at h8)
                  
                  refine wc_skip ?_
                  refine wq_join (()) ?_ ?_ ?_
                  · exact (Sub.cons' rfl (by unfold EdS.way; simp_all) (Sub.nil _))
                  · exact (Sub.cons rfl (Sub.cons rfl (Sub.cons rfl (Sub.nil _))))
                  · (try dsimp only)
                    first | done | exact rfl
              · (try simp only [cmpS] at h7)
                refine wl_yes rfl rfl ?_
                refine wl_val (r_move rfl) (ltn rfl) ?_
                refine wl_yes rfl rfl ?_
                refine wl_val (r_nil rfl) (ltn rfl) ?_
                refine wl_yes rfl rfl ?_
                refine wl_val (r_fieldA 29 Tryz.underlying66 rfl rfl Tryz.sizeOf4 (by decide) rfl (by first | exact Nat.zero_add _ | rfl)) (ltn rfl) ?_
                refine wl_yes rfl rfl ?_
                refine wl_val (r_load (plain_of Tryz.underlying4 rfl) rfl (cell_of_blk (HD4).get.2 rfl)) (ltn rfl) ?_
                refine wl_val (r_pick_f rfl rfl) (ltn rfl) ?_
                refine wl_nil ?_
                refine wq_seq ?_
                refine wc_cond rfl (fun h9 => ?_) (fun h9 => ?_)
                · (try simp only [cmpS] at h9)
                  
                  refine wc_seq ?_
                  refine wc_region ?_
                  refine wl_val (r_assign rfl) (ltn rfl) ?_
                  refine wl_nil ?_
                  refine wq_seq ?_
                  refine wc_seq ?_
                  refine wc_region ?_
                  refine wl_val (r_move rfl) (ltn rfl) ?_
                  refine wl_nil ?_
                  refine wq_seq ?_
                  refine wc_cond rfl (fun h10 => ?_) (fun h10 => ?_)
                  · (try simp only [cmpS] at h10)
                    
                    refine wc_region ?_
                    refine wl_val (r_assign rfl) (ltn rfl) ?_
                    refine wl_nil ?_
                    refine wq_join (()) ?_ ?_ ?_
                    · exact (Sub.cons' rfl (by unfold EdS.way; simp_all) (Sub.nil _))
                    · exact (Sub.cons rfl (Sub.cons rfl (Sub.cons rfl (Sub.nil _))))
                    · (try dsimp only)
                      first | done | exact rfl
                  · (try simp only [cmpS] at h10)
                    
                    refine wc_skip ?_
                    refine wq_join (()) ?_ ?_ ?_
                    · exact (Sub.cons' rfl (by unfold EdS.way; simp_all) (Sub.nil _))
                    · exact (Sub.cons rfl (Sub.cons rfl (Sub.cons rfl (Sub.nil _))))
                    · (try dsimp only)
                      first | done | exact rfl
                · (try simp only [cmpS] at h9)
                  
                  refine wc_skip ?_
                  refine wq_join (()) ?_ ?_ ?_
                  · exact (Sub.cons' rfl (by unfold EdS.way; simp_all) (Sub.nil _))
                  · exact (Sub.cons rfl (Sub.cons rfl (Sub.cons rfl (Sub.nil _))))
                  · (try dsimp only)
                    first | done | exact rfl
theorem ed_kill_ret (H : Holds w0 w (EdRep e s • F)) : Ret Tryz.prog 22 #[.pointer (some ⟨e, 0, none⟩), .int .i64 i, .int .i64 j, .bool back] w fun v' w' => v' = .int .i64 (s.killE i j back) ∧ Holds w0 w' (EdRep e (s.killS i j back) • F) := by
  refine ret_enter Tryz.func22 rfl Tryz.ntmps22 (Nat.le_of_ble_eq_true rfl) ?_
  dsimp only [slots0, Nat.reduceAdd]
  refine wc_seq ?_
  refine wc_region ?_
  refine wl_val (r_assign rfl) (ltn rfl) ?_
  refine wl_nil ?_
  refine wq_seq ?_
  refine wc_seq ?_
  refine wc_seq ?_
  refine wc_region ?_
  refine wl_val (r_move rfl) (ltn rfl) ?_
  refine wl_val (r_move rfl) (ltn rfl) ?_
  refine wl_val (r_move rfl) (ltn rfl) ?_
  refine wl_val (r_move rfl) (ltn rfl) ?_
  refine wl_eff (e_call (r_call rfl Tryz.func48 rfl rfl) (ed_copy_ret H)) (ltn rfl) ?_
  rintro _ w1 ⟨rfl, H1⟩
  refine wl_val (r_assign rfl) (ltn rfl) ?_
  refine wl_nil ?_
  refine wq_seq ?_
  refine wc_seq ?_
  refine wc_region ?_
  refine wl_val (r_move rfl) (ltn rfl) ?_
  refine wl_val (r_neq rfl rfl) (ltn rfl) ?_
  refine wl_nil ?_
  refine wq_seq ?_
  refine wc_cond rfl (fun h1 => ?_) (fun h1 => ?_)
  · (try simp only [cmpS] at h1)
    have hc := h1
    refine wc_seq ?_
    refine wc_region ?_
    refine wl_val (r_move rfl) (ltn rfl) ?_
    refine wl_val (r_assign rfl) (ltn rfl) ?_
    refine wl_nil ?_
    refine wq_seq ?_
    refine wc_ret ?_
    refine wq_then_ret ?_
    refine wq_end1 (.inl rfl) Tryz.results22 rfl ?_
    exact ⟨by unfold EdS.killE; rw [if_neg hc], by unfold EdS.killS; rw [if_neg hc]; have HX := H1; rw [copy_no hc] at HX; exact HX⟩
  · (try simp only [cmpS] at h1)
    have hc := h1
    refine wc_skip ?_
    refine wq_seq ?_
    refine wc_seq ?_
    refine wc_region ?_
    refine wl_val (r_move rfl) (ltn rfl) ?_
    refine wl_val (r_move rfl) (ltn rfl) ?_
    refine wl_val (r_move rfl) (ltn rfl) ?_
    refine wl_eff (e_call (r_call rfl Tryz.func46 rfl rfl) (ed_erase_ret H1)) (ltn rfl) ?_
    rintro _ w2 ⟨rfl, H2⟩
    refine wl_val (r_assign rfl) (ltn rfl) ?_
    refine wl_nil ?_
    refine wq_seq ?_
    refine wc_ret ?_
    refine wq_end1 (.inl rfl) Tryz.results22 rfl ?_
    exact ⟨by unfold EdS.killE; rw [if_pos hc], by unfold EdS.killS; rw [if_pos hc]; exact H2⟩
theorem getD_len {E : List (List Int)} (h : ∀ x ∈ E, x.length ≤ 1024) (k : Nat) : (E.getD k []).length ≤ 1024 := by
  rw [List.getD_eq_getElem?_getD]
  cases hk : E[k]? with
  | none => simp
  | some x => exact h x (List.mem_of_getElem? hk)
theorem ed_yank_ret (H : Holds w0 w (EdRep e s • F)) : Ret Tryz.prog 23 #[.pointer (some ⟨e, 0, none⟩)] w fun v' w' => v' = .int .i64 s.yankE ∧ Holds w0 w' (EdRep e s.yankS • F) := by
  refine ret_enter Tryz.func23 rfl Tryz.ntmps23 (Nat.le_of_ble_eq_true rfl) ?_
  dsimp only [slots0, Nat.reduceAdd]
  refine wc_seq ?_
  refine wc_region ?_
  refine wl_val (r_assign rfl) (ltn rfl) ?_
  refine wl_nil ?_
  refine wq_seq ?_
  refine wc_seq ?_
  refine wc_seq ?_
  refine wc_region ?_
  refine wl_val (r_move rfl) (ltn rfl) ?_
  refine wl_eff (e_call (r_call rfl Tryz.func51 rfl rfl) (ed_part_ret H)) (ltn rfl) ?_
  rintro _ _ ⟨rfl, rfl⟩
  refine wl_val (r_assign rfl) (ltn rfl) ?_
  refine wl_nil ?_
  refine wq_seq ?_
  refine wc_seq ?_
  refine wc_region ?_
  refine wl_val (r_move rfl) (ltn rfl) ?_
  refine wl_val (r_neq rfl rfl) (ltn rfl) ?_
  refine wl_nil ?_
  refine wq_seq ?_
  refine wc_cond rfl (fun h1 => ?_) (fun h1 => ?_)
  · (try simp only [cmpS] at h1)
    obtain ⟨hin, hpe⟩ := part_no h1
    refine wc_seq ?_
    refine wc_region ?_
    refine wl_val (r_move rfl) (ltn rfl) ?_
    refine wl_val (r_assign rfl) (ltn rfl) ?_
    refine wl_nil ?_
    refine wq_seq ?_
    refine wc_ret ?_
    refine wq_then_ret ?_
    refine wq_end1 (.inl rfl) Tryz.results23 rfl ?_
    rw [hpe]
    exact ⟨by simp [EdS.yankE, EdS.yankS, hin], by rw [show s.yankS = s from by simp [EdS.yankE, EdS.yankS, hin]]; exact H⟩
  · (try simp only [cmpS] at h1)
    have hin := part_yes h1
    refine wc_skip ?_
    refine wq_seq ?_
    refine wc_seq ?_
    obtain ⟨pb_e, pr_e, pw_e, pt_e, pm_e, ph_e, bl_e, pv_e, es_e, u0_e, u1_e, u2_e, u3_e, u4_e, u5_e, u6_e, u7_e, u8_e, u9_e, ua_e, ok_e, says_e, plen_e, HE_e⟩ := (H).edO
    have hL : s.c.L.length ≤ 1024 ∧ 0 ≤ s.c.pt ∧ s.c.pt ≤ s.c.L.length := by obtain ⟨a, c, xs, f, t, h1, h2, h3, h4, h5, h6, h7, hc1, hc2, hl, H1⟩ := (HE_e.f2).buf; exact ⟨h4, h6⟩
    have hR := getD_len (ring_facts (HE_e.f3)).2.2 s.c.at_
    have hY : s.yankE = if s.c.E.length = 0 then 6 else s.insE s.top := by unfold EdS.yankE; rw [if_pos hin]
    refine wc_region ?_
    refine wl_val (r_move rfl) (ltn rfl) ?_
    refine wl_val (r_nil rfl) (ltn rfl) ?_
    refine wl_val (r_fieldA 0 Tryz.underlying66 rfl rfl Tryz.sizeOf62 (by decide) rfl (by first | exact Nat.zero_add _ | rfl)) (ltn rfl) ?_
    refine wl_val (r_fieldA 1 Tryz.underlying62 rfl rfl Tryz.sizeOf58 (by decide) rfl (by first | exact Nat.zero_add _ | rfl)) (ltn rfl) ?_
    refine wl_val (r_load (plain_of Tryz.underlying58 rfl) rfl (cell_of_blk (HE_e).get.2 rfl)) (ltn rfl) ?_
    refine wl_eff (e_call (r_call rfl Tryz.func70 rfl rfl) (ring_yank_any HE_e.f3)) (ltn rfl) ?_
    rintro _ w3 ⟨u3, rfl, H3⟩
    refine wl_val (r_move rfl) (ltn rfl) ?_
    refine wl_val (r_extract rfl rfl) (ltn rfl) ?_
    refine wl_val (r_extract rfl rfl) (ltn rfl) ?_
    refine wl_val (r_assign rfl) (ltn rfl) ?_
    refine wl_val (r_assign rfl) (ltn rfl) ?_
    refine wl_nil ?_
    refine wq_seq ?_
    refine wc_seq ?_
    refine wc_seq ?_
    refine wc_region ?_
    refine wl_val (r_move rfl) (ltn rfl) ?_
    refine wl_val (r_neq rfl rfl) (ltn rfl) ?_
    refine wl_nil ?_
    refine wq_seq ?_
    refine wc_cond rfl (fun h2 => ?_) (fun h2 => ?_)
    · (try simp only [cmpS] at h2)
      have h6 : s.c.E.length = 0 := by by_cases hx : s.c.E.length = 0; exact hx; exact absurd (if_neg hx) h2
      rw [if_pos h6] at hY
      refine wc_seq ?_
      refine wc_region ?_
      refine wl_val (r_move rfl) (ltn rfl) ?_
      refine wl_val (r_assign rfl) (ltn rfl) ?_
      refine wl_nil ?_
      refine wq_seq ?_
      refine wc_ret ?_
      refine wq_then_ret ?_
      refine wq_end1 (.inl rfl) Tryz.results23 rfl ?_
      exact ⟨by rw [hY]; show Value.int _ (if s.c.E.length = 0 then 6 else 0) = _; rw [if_pos h6], by rw [show s.yankS = s from by unfold EdS.yankS; rw [if_neg (by rw [hY]; decide)]]; exact Holds.mk_ed ok_e says_e H3.right.f11.f11.f11.f11.f11.f11.f11.f11.f9.f11.f11⟩
    · (try simp only [cmpS] at h2)
      have h6 : ¬ s.c.E.length = 0 := fun hx => by rw [if_pos hx] at h2; exact absurd h2 (by decide)
      rw [if_neg h6] at hY
      refine wc_skip ?_
      refine wq_seq ?_
      refine wc_seq ?_
      refine wc_region ?_
      refine wl_val (r_move rfl) (ltn rfl) ?_
      refine wl_val (r_nil rfl) (ltn rfl) ?_
      refine wl_val (r_fieldA 0 Tryz.underlying66 rfl rfl Tryz.sizeOf62 (by decide) rfl (by first | exact Nat.zero_add _ | rfl)) (ltn rfl) ?_
      refine wl_val (r_fieldA 0 Tryz.underlying62 rfl rfl Tryz.sizeOf57 (by decide) rfl (by first | exact Nat.zero_add _ | rfl)) (ltn rfl) ?_
      refine wl_val (r_load (plain_of Tryz.underlying57 rfl) rfl (cell_of_blk (H3.f3).get.2 rfl)) (ltn rfl) ?_
      refine wl_eff (e_call (r_call rfl Tryz.func68 rfl rfl) (buf_point_ret H3.f4)) (ltn rfl) ?_
      rintro _ _ ⟨rfl, rfl⟩
      refine wl_val (r_assign rfl) (ltn rfl) ?_
      have Ho6 := H3.f12.f12.f12.f12.f12.f12.f12.f12.f10.f12.f12
      have Hc7 := Holds.mk_ed (s := s) ok_e says_e Ho6
      refine wl_nil ?_
      refine wq_seq ?_
      refine wc_seq ?_
      refine wc_seq ?_
      refine wc_region ?_
      refine wl_val (r_move rfl) (ltn rfl) ?_
      refine wl_val (r_move rfl) (ltn rfl) ?_
      refine wl_eff (e_call (r_call rfl Tryz.func45 rfl rfl) (ed_insert_ret Hc7 (fun W HW => (HW).row_rd))) (ltn rfl) ?_
      rintro _ w8 ⟨rfl, H8⟩
      refine wl_val (r_assign rfl) (ltn rfl) ?_
      refine wl_nil ?_
      refine wq_seq ?_
      refine wc_seq ?_
      refine wc_region ?_
      refine wl_val (r_move rfl) (ltn rfl) ?_
      refine wl_val (r_neq rfl rfl) (ltn rfl) ?_
      refine wl_nil ?_
      refine wq_seq ?_
      refine wc_cond rfl (fun h3 => ?_) (fun h3 => ?_)
      · (try simp only [cmpS] at h3)
        have hI : s.insE s.top ≠ 0 := h3
        refine wc_seq ?_
        refine wc_region ?_
        refine wl_val (r_move rfl) (ltn rfl) ?_
        refine wl_val (r_assign rfl) (ltn rfl) ?_
        refine wl_nil ?_
        refine wq_seq ?_
        refine wc_ret ?_
        refine wq_then_ret ?_
        refine wq_end1 (.inl rfl) Tryz.results23 rfl ?_
        exact ⟨by rw [hY]; rfl, by rw [show s.yankS = s from by unfold EdS.yankS; rw [if_neg (by rw [hY]; exact hI)]]; have HX := H8.f2.right; rw [show s.insS (s.c.E.getD s.c.at_ []) = s from replS_bad hI] at HX; exact HX⟩
      · (try simp only [cmpS] at h3)
        have hI : s.insE s.top = 0 := h3
        obtain ⟨pb_e, pr_e, pw_e, pt_e, pm_e, ph_e, bl_e, pv_e, es_e, u0_e, u1_e, u2_e, u3_e, u4_e, u5_e, u6_e, u7_e, u8_e, u9_e, ua_e, ok_e, says_e, plen_e, HE_e⟩ := (H8).edO
        refine wc_skip ?_
        refine wq_seq ?_
        refine wc_seq ?_
        refine wc_region ?_
        refine wl_val (r_move rfl) (ltn rfl) ?_
        refine wl_val (r_nil rfl) (ltn rfl) ?_
        refine wl_val (r_fieldA 0 Tryz.underlying66 rfl rfl Tryz.sizeOf62 (by decide) rfl (by first | exact Nat.zero_add _ | rfl)) (ltn rfl) ?_
        refine wl_val (r_fieldA 0 Tryz.underlying62 rfl rfl Tryz.sizeOf57 (by decide) rfl (by first | exact Nat.zero_add _ | rfl)) (ltn rfl) ?_
        refine wl_val (r_load (plain_of Tryz.underlying57 rfl) rfl (cell_of_blk (HE_e).get.2 rfl)) (ltn rfl) ?_
        refine wl_val (r_move rfl) (ltn rfl) ?_
        refine wl_eff (e_call (r_call rfl Tryz.func71 rfl rfl) (buf_setmark_ret HE_e.f2)) (ltn rfl) ?_
        rintro _ w10 ⟨rfl, H10⟩
        refine wl_nil ?_
        refine wq_seq ?_
        refine wc_seq ?_
        refine wc_region ?_
        refine wl_val (r_move rfl) (ltn rfl) ?_
        refine wl_val (r_move rfl) (ltn rfl) ?_
        refine wl_val (r_nil rfl) (ltn rfl) ?_
        refine wl_val (r_fieldA 30 Tryz.underlying66 rfl rfl Tryz.sizeOf4 (by decide) rfl (by first | exact Nat.zero_add _ | rfl)) (ltn rfl) ?_
        refine wl_eff0 (e_storeL 30 (l' := [_, _, _, _, _, _, _, _, _, _, _, _, _, _, _, _, _, _, _, _, _, _, _, _, _, _, _, _, _, _, _, _, _, _]) H10.f2 Tryz.sizeOf4 rfl rfl (by first | rfl | assumption) rfl rfl) ?_
        rintro _ w11 H11
        refine wl_val (r_nil rfl) (ltn rfl) ?_
        refine wl_val (r_fieldA 28 Tryz.underlying66 rfl rfl Tryz.sizeOf3 (by decide) rfl (by first | exact Nat.zero_add _ | rfl)) (ltn rfl) ?_
        refine wl_eff0 (e_storeL 28 (l' := [_, _, _, _, _, _, _, _, _, _, _, _, _, _, _, _, _, _, _, _, _, _, _, _, _, _, _, _, _, _, _, _, _, _]) H11 Tryz.sizeOf3 rfl rfl (by first | rfl | assumption) rfl rfl) ?_
        rintro _ w12 H12
        refine wl_nil ?_
        refine wq_seq ?_
        refine wc_seq ?_
        refine wc_region ?_
        refine wl_val (r_move rfl) (ltn rfl) ?_
        refine wl_val (r_move rfl) (ltn rfl) ?_
        refine wl_val (r_move rfl) (ltn rfl) ?_
        refine wl_val (r_move rfl) (ltn rfl) ?_
        refine wl_val (r_move rfl) (ltn rfl) ?_
        refine wl_val (r_lenR ((H12.f12).row_rd) Tryz.underlying22 rfl) (ltn rfl) ?_
        refine wl_val (r_add rfl rfl (by omega)) (ltn rfl) ?_
        refine wl_val (r_nil rfl) (ltn rfl) ?_
        refine wl_val (r_fieldA 0 Tryz.underlying66 rfl rfl Tryz.sizeOf62 (by decide) rfl (by first | exact Nat.zero_add _ | rfl)) (ltn rfl) ?_
        refine wl_val (r_fieldA 7 Tryz.underlying62 rfl rfl Tryz.sizeOf3 (by decide) rfl (by first | exact Nat.zero_add _ | rfl)) (ltn rfl) ?_
        refine wl_eff0 (e_storeL 7 (l' := [_, _, _, _, _, _, _, _, _, _, _, _, _, _, _, _, _, _, _, _, _, _, _, _, _, _, _, _, _, _, _, _, _, _]) H12 Tryz.sizeOf3 rfl rfl (by first | rfl | assumption) rfl rfl) ?_
        rintro _ w13 H13
        refine wl_val (r_nil rfl) (ltn rfl) ?_
        refine wl_val (r_fieldA 0 Tryz.underlying66 rfl rfl Tryz.sizeOf62 (by decide) rfl (by first | exact Nat.zero_add _ | rfl)) (ltn rfl) ?_
        refine wl_val (r_fieldA 8 Tryz.underlying62 rfl rfl Tryz.sizeOf3 (by decide) rfl (by first | exact Nat.zero_add _ | rfl)) (ltn rfl) ?_
        refine wl_eff0 (e_storeL 8 (l' := [_, _, _, _, _, _, _, _, _, _, _, _, _, _, _, _, _, _, _, _, _, _, _, _, _, _, _, _, _, _, _, _, _, _]) H13 Tryz.sizeOf3 rfl rfl (by first | rfl | assumption) rfl rfl) ?_
        rintro _ w14 H14
        refine wl_nil ?_
        refine wq_seq ?_
        refine wc_seq ?_
        refine wc_region ?_
        refine wl_val (r_assign rfl) (ltn rfl) ?_
        refine wl_nil ?_
        refine wq_seq ?_
        refine wc_ret ?_
        refine wq_end1 (.inl rfl) Tryz.results23 rfl ?_
        have hs : s.yankS = { s.insS s.top with yanked := true, cls := 2, c := { (s.insS s.top).c with mark := smM (s.insS s.top).c.L (s.insS s.top).c.mark s.c.pt, fr := s.c.pt, to := s.c.pt + s.top.length } } := by unfold EdS.yankS; rw [if_pos (hY.trans hI)]
        exact ⟨by rw [hY, hI], by rw [hs]; exact Holds.mk_ed (s := { s.insS s.top with yanked := true, cls := 2, c := { (s.insS s.top).c with mark := smM (s.insS s.top).c.L (s.insS s.top).c.mark s.c.pt, fr := s.c.pt, to := s.c.pt + s.top.length } }) ok_e says_e H14.f12.right.f11.f11.f11.f11.f11.f11.f11.f11.f11.f11.f11⟩
theorem repl_range {L : List Int} {i j : Int} {l : List Int} (h : replE L i j l = 0) : 0 ≤ i ∧ i ≤ L.length := by
  unfold replE at h
  split at h
  · cases h
  · omega
theorem noteS_fr (s : EdS) (x : EdA) : (s.noteS x).c.fr = s.c.fr := by unfold EdS.noteS; split; rfl; split <;> rfl
theorem replS_fr (s : EdS) (i j : Int) (l : List Int) : (s.replS i j l).c.fr = s.c.fr := by unfold EdS.replS; split; rw [noteS_fr]; rfl; rfl
theorem noteS_E (s : EdS) (x : EdA) : (s.noteS x).c.E = s.c.E := by unfold EdS.noteS; split; rfl; split <;> rfl
theorem replS_E (s : EdS) (i j : Int) (l : List Int) : (s.replS i j l).c.E = s.c.E := by unfold EdS.replS; split; rw [noteS_E]; rfl; rfl
theorem ed_pop_ret (H : Holds w0 w (EdRep e s • F)) : Ret Tryz.prog 24 #[.pointer (some ⟨e, 0, none⟩), .int .i64 x] w fun v' w' => v' = .int .i64 (s.popE x) ∧ Holds w0 w' (EdRep e (s.popS x) • F) := by
  refine ret_enter Tryz.func24 rfl Tryz.ntmps24 (Nat.le_of_ble_eq_true rfl) ?_
  dsimp only [slots0, Nat.reduceAdd]
  refine wc_seq ?_
  refine wc_region ?_
  refine wl_val (r_assign rfl) (ltn rfl) ?_
  refine wl_nil ?_
  refine wq_seq ?_
  refine wc_seq ?_
  refine wc_seq ?_
  refine wc_region ?_
  refine wl_val (r_move rfl) (ltn rfl) ?_
  refine wl_eff (e_call (r_call rfl Tryz.func51 rfl rfl) (ed_part_ret H)) (ltn rfl) ?_
  rintro _ _ ⟨rfl, rfl⟩
  refine wl_val (r_assign rfl) (ltn rfl) ?_
  refine wl_nil ?_
  refine wq_seq ?_
  refine wc_seq ?_
  refine wc_region ?_
  refine wl_val (r_move rfl) (ltn rfl) ?_
  refine wl_val (r_neq rfl rfl) (ltn rfl) ?_
  refine wl_nil ?_
  refine wq_seq ?_
  refine wc_cond rfl (fun h1 => ?_) (fun h1 => ?_)
  · (try simp only [cmpS] at h1)
    obtain ⟨hin, hpe⟩ := part_no h1
    refine wc_seq ?_
    refine wc_region ?_
    refine wl_val (r_move rfl) (ltn rfl) ?_
    refine wl_val (r_assign rfl) (ltn rfl) ?_
    refine wl_nil ?_
    refine wq_seq ?_
    refine wc_ret ?_
    refine wq_then_ret ?_
    refine wq_end1 (.inl rfl) Tryz.results24 rfl ?_
    rw [hpe]
    exact ⟨by simp [EdS.popE, EdS.popS, hin], by rw [show s.popS x = s from by simp [EdS.popE, EdS.popS, hin]]; exact H⟩
  · (try simp only [cmpS] at h1)
    have hin := part_yes h1
    refine wc_skip ?_
    refine wq_seq ?_
    refine wc_seq ?_
    refine wc_seq ?_
    obtain ⟨pb_e, pr_e, pw_e, pt_e, pm_e, ph_e, bl_e, pv_e, es_e, u0_e, u1_e, u2_e, u3_e, u4_e, u5_e, u6_e, u7_e, u8_e, u9_e, ua_e, ok_e, says_e, plen_e, HE_e⟩ := (H).edO
    have hL : s.c.L.length ≤ 1024 := by obtain ⟨a, c, xs, f, t, h1, h2, h3, h4, h5, h6, h7, hc1, hc2, hl, H1⟩ := (HE_e.f2).buf; exact h4
    have hR := getD_len (ring_facts (HE_e.f3)).2.2 (rotM s.c.E.length s.c.at_ x)
    refine wc_region ?_
    refine wl_val (r_move rfl) (ltn rfl) ?_
    refine wl_val (r_nil rfl) (ltn rfl) ?_
    refine wl_val (r_fieldA 0 Tryz.underlying66 rfl rfl Tryz.sizeOf62 (by decide) rfl (by first | exact Nat.zero_add _ | rfl)) (ltn rfl) ?_
    refine wl_val (r_fieldA 6 Tryz.underlying62 rfl rfl Tryz.sizeOf3 (by decide) rfl (by first | exact Nat.zero_add _ | rfl)) (ltn rfl) ?_
    refine wl_val (r_load (plain_of Tryz.underlying3 rfl) rfl (cell_of_blk (HE_e).get.2 rfl)) (ltn rfl) ?_
    refine wl_val (r_neq rfl rfl) (ltn rfl) ?_
    refine wl_split rfl (ltn rfl) (fun h2 => ?_) (fun h2 => ?_)
    · (try simp only [cmpS] at h2)
      refine wl_no rfl rfl rfl (ltn rfl) ?_
      refine wl_no rfl rfl rfl (ltn rfl) ?_
      refine wl_no rfl rfl rfl (ltn rfl) ?_
      refine wl_no rfl rfl rfl (ltn rfl) ?_
      refine wl_val (r_pick_t rfl rfl) (ltn rfl) ?_
      refine wl_nil ?_
      refine wq_seq ?_
      refine wc_cond_t rfl ?_
      refine wc_seq ?_
      refine wc_region ?_
      refine wl_val (r_assign rfl) (ltn rfl) ?_
      refine wl_nil ?_
      refine wq_seq ?_
      refine wc_ret ?_
      refine wq_then_ret ?_
      refine wq_end1 (.inl rfl) Tryz.results24 rfl ?_
      have hb : s.c.last ≠ 2 ∨ s.yanked = true := by simp_all
      have hP : s.popE x = 6 := by unfold EdS.popE; rw [if_pos hin, if_pos hb]
      exact ⟨by rw [hP], by rw [show s.popS x = s from by unfold EdS.popS; rw [if_neg (by rw [hP]; decide)]]; exact Holds.mk_ed ok_e says_e HE_e.f11.f11.f11.f11.f11.f11.f11.f11.f11.f11.f11⟩
    · (try simp only [cmpS] at h2)
      refine wl_yes rfl rfl ?_
      refine wl_val (r_move rfl) (ltn rfl) ?_
      refine wl_yes rfl rfl ?_
      refine wl_val (r_nil rfl) (ltn rfl) ?_
      refine wl_yes rfl rfl ?_
      refine wl_val (r_fieldA 30 Tryz.underlying66 rfl rfl Tryz.sizeOf4 (by decide) rfl (by first | exact Nat.zero_add _ | rfl)) (ltn rfl) ?_
      refine wl_yes rfl rfl ?_
      refine wl_val (r_load (plain_of Tryz.underlying4 rfl) rfl (cell_of_blk (HE_e).get.2 rfl)) (ltn rfl) ?_
      refine wl_val (r_pick_f rfl rfl) (ltn rfl) ?_
      refine wl_nil ?_
      refine wq_seq ?_
      refine wc_cond rfl (fun h3 => ?_) (fun h3 => ?_)
      · (try simp only [cmpS] at h3)
        
        refine wc_seq ?_
        refine wc_region ?_
        refine wl_val (r_assign rfl) (ltn rfl) ?_
        refine wl_nil ?_
        refine wq_seq ?_
        refine wc_ret ?_
        refine wq_then_ret ?_
        refine wq_end1 (.inl rfl) Tryz.results24 rfl ?_
        have hb : s.c.last ≠ 2 ∨ s.yanked = true := by simp_all
        have hP : s.popE x = 6 := by unfold EdS.popE; rw [if_pos hin, if_pos hb]
        exact ⟨by rw [hP], by rw [show s.popS x = s from by unfold EdS.popS; rw [if_neg (by rw [hP]; decide)]]; exact Holds.mk_ed ok_e says_e HE_e.f11.f11.f11.f11.f11.f11.f11.f11.f11.f11.f11⟩
      · (try simp only [cmpS] at h3)
        
        refine wc_skip ?_
        refine wq_seq ?_
        refine wc_seq ?_
        have hb : ¬ (s.c.last ≠ 2 ∨ s.yanked = true) := by simp_all
        have hP : s.popE x = if s.c.E.length = 0 then 6 else s.replEd s.c.fr s.c.to (s.popL x) := by unfold EdS.popE; rw [if_pos hin, if_neg hb]
        refine wc_region ?_
        refine wl_val (r_move rfl) (ltn rfl) ?_
        refine wl_val (r_nil rfl) (ltn rfl) ?_
        refine wl_val (r_fieldA 0 Tryz.underlying66 rfl rfl Tryz.sizeOf62 (by decide) rfl (by first | exact Nat.zero_add _ | rfl)) (ltn rfl) ?_
        refine wl_val (r_fieldA 1 Tryz.underlying62 rfl rfl Tryz.sizeOf58 (by decide) rfl (by first | exact Nat.zero_add _ | rfl)) (ltn rfl) ?_
        refine wl_val (r_load (plain_of Tryz.underlying58 rfl) rfl (cell_of_blk (HE_e).get.2 rfl)) (ltn rfl) ?_
        refine wl_eff (e_call (r_call rfl Tryz.func72 rfl rfl) (ring_clone_ret HE_e.f3)) (ltn rfl) ?_
        rintro _ w3 ⟨pc3, rfl, H3⟩
        refine wl_val (r_assign rfl) (ltn rfl) ?_
        refine wl_nil ?_
        refine wq_seq ?_
        refine wc_seq ?_
        refine wc_region ?_
        refine wl_val (r_move rfl) (ltn rfl) ?_
        refine wl_val (r_move rfl) (ltn rfl) ?_
        refine wl_eff (e_call (r_call rfl Tryz.func73 rfl rfl) (ring_rotate_any H3)) (ltn rfl) ?_
        rintro _ w4 ⟨u4, rfl, H4⟩
        refine wl_val (r_move rfl) (ltn rfl) ?_
        refine wl_val (r_extract rfl rfl) (ltn rfl) ?_
        refine wl_val (r_extract rfl rfl) (ltn rfl) ?_
        refine wl_val (r_assign rfl) (ltn rfl) ?_
        refine wl_val (r_assign rfl) (ltn rfl) ?_
        refine wl_nil ?_
        refine wq_seq ?_
        refine wc_seq ?_
        refine wc_seq ?_
        refine wc_region ?_
        refine wl_val (r_move rfl) (ltn rfl) ?_
        refine wl_val (r_neq rfl rfl) (ltn rfl) ?_
        refine wl_nil ?_
        refine wq_seq ?_
        refine wc_cond rfl (fun h4 => ?_) (fun h4 => ?_)
        · (try simp only [cmpS] at h4)
          have h6 : s.c.E.length = 0 := by by_cases hx : s.c.E.length = 0; exact hx; exact absurd (if_neg hx) h4
          rw [if_pos h6] at hP
          refine wc_seq ?_
          refine wc_region ?_
          refine wl_val (r_move rfl) (ltn rfl) ?_
          refine wl_val (r_assign rfl) (ltn rfl) ?_
          refine wl_nil ?_
          refine wq_seq ?_
          refine wc_ret ?_
          refine wq_then_ret ?_
          refine wq_end1 (.inl rfl) Tryz.results24 rfl ?_
          exact ⟨by rw [hP]; show Value.int _ (if s.c.E.length = 0 then 6 else 0) = _; rw [if_pos h6], by rw [show s.popS x = s from by unfold EdS.popS; rw [if_neg (by rw [hP]; decide)]]; exact Holds.mk_ed ok_e says_e H4.right.right.f11.f11.f11.f11.f11.f11.f11.f11.f9.f11.f11⟩
        · (try simp only [cmpS] at h4)
          have h6 : ¬ s.c.E.length = 0 := fun hx => by rw [if_pos hx] at h4; exact absurd h4 (by decide)
          rw [if_neg h6] at hP
          have HX := H4
          simp only [if_neg h6] at HX
          refine wc_skip ?_
          refine wq_seq ?_
          refine wc_seq ?_
          refine wc_seq ?_
          have H10d4 := HX.drew
          have hS10d4 := Holds.kp (H10d4.f13.f13.f13.f13.f13.f13.f13.f13.f13.f13.f13.f13.f13)
          refine wd_beginK [5, 10] hS10d4 (by kernel_rfl) (by kernel_rfl) rfl ?_
          refine wd_takeT 0 rfl (by kernel_rfl) (by kernel_rfl) hS10d4 (fun _ => r_move rfl) (ltn rfl) ?_
          refine wd_takeT 1 rfl (by kernel_rfl) (by kernel_rfl) hS10d4 (fun _ => r_move rfl) (ltn rfl) ?_
          refine wd_takeT 2 rfl (by kernel_rfl) (by kernel_rfl) hS10d4 (fun _ => r_nil rfl) (ltn rfl) ?_
          refine wd_takeT 3 rfl (by kernel_rfl) (by kernel_rfl) hS10d4 (fun _ => r_fieldA 0 Tryz.underlying66 rfl rfl Tryz.sizeOf62 (by decide) rfl (by first | exact Nat.zero_add _ | rfl)) (ltn rfl) ?_
          refine wd_takeT 4 rfl (by kernel_rfl) (by kernel_rfl) hS10d4 (fun _ => r_fieldA 7 Tryz.underlying62 rfl rfl Tryz.sizeOf3 (by decide) rfl (by first | exact Nat.zero_add _ | rfl)) (ltn rfl) ?_
          refine wd_take 5 rfl (by kernel_rfl) (by kernel_rfl) hS10d4 (by decide) (fun W hW => r_load (plain_of Tryz.underlying3 rfl) rfl (cell_of_blk ((Kp.h hW).f4).get.2 rfl)) (ltn rfl) ?_
          refine wd_takeT 6 rfl (by kernel_rfl) (by kernel_rfl) hS10d4 (fun _ => r_move rfl) (ltn rfl) ?_
          refine wd_takeT 7 rfl (by kernel_rfl) (by kernel_rfl) hS10d4 (fun _ => r_nil rfl) (ltn rfl) ?_
          refine wd_takeT 8 rfl (by kernel_rfl) (by kernel_rfl) hS10d4 (fun _ => r_fieldA 0 Tryz.underlying66 rfl rfl Tryz.sizeOf62 (by decide) rfl (by first | exact Nat.zero_add _ | rfl)) (ltn rfl) ?_
          refine wd_takeT 9 rfl (by kernel_rfl) (by kernel_rfl) hS10d4 (fun _ => r_fieldA 8 Tryz.underlying62 rfl rfl Tryz.sizeOf3 (by decide) rfl (by first | exact Nat.zero_add _ | rfl)) (ltn rfl) ?_
          refine wd_take 10 rfl (by kernel_rfl) (by kernel_rfl) hS10d4 (by decide) (fun W hW => r_load (plain_of Tryz.underlying3 rfl) rfl (cell_of_blk ((Kp.h hW).f4).get.2 rfl)) (ltn rfl) ?_
          refine wd_takeT 11 rfl (by kernel_rfl) (by kernel_rfl) hS10d4 (fun _ => r_move rfl) (ltn rfl) ?_
          have Ho6 := H10d4.f13.f13.f13.f13.f13.f13.f13.f13.f11.f13.f13
          have Hc7 := Holds.mk_ed (s := s) ok_e says_e Ho6
          refine wd_eff 12 rfl (by kernel_rfl) (e_call (r_call rfl Tryz.func47 rfl rfl) (ed_replace_ret Hc7 (fun W HW => (HW).row_rd))) (ltn rfl) ?_
          rintro _ w8 ⟨rfl, H8⟩
          have hS8n := Holds.kp (H8.f3.f3.f3)
          refine keepX hS8n (by kernel_rfl) ?_
          refine wd_takeT 13 rfl (by kernel_rfl) (by kernel_rfl) hS8n (fun _ => r_assign rfl) (ltn rfl) ?_
          refine wd_done (by kernel_rfl) ?_
          refine wq_seq ?_
          refine wc_seq ?_
          refine wc_region ?_
          refine wl_val (r_move rfl) (ltn rfl) ?_
          refine wl_val (r_neq rfl rfl) (ltn rfl) ?_
          refine wl_nil ?_
          refine wq_seq ?_
          refine wc_cond rfl (fun h5 => ?_) (fun h5 => ?_)
          · (try simp only [cmpS] at h5)
            have hI : s.replEd s.c.fr s.c.to (s.popL x) ≠ 0 := h5
            refine wc_seq ?_
            refine wc_region ?_
            refine wl_val (r_move rfl) (ltn rfl) ?_
            refine wl_val (r_assign rfl) (ltn rfl) ?_
            refine wl_nil ?_
            refine wq_seq ?_
            refine wc_ret ?_
            refine wq_then_ret ?_
            refine wq_end1 (.inl rfl) Tryz.results24 rfl ?_
            exact ⟨by rw [hP]; rfl, by rw [show s.popS x = s from by unfold EdS.popS; rw [if_neg (by rw [hP]; exact hI)]]; have HX := H8.f2.right.f2.right; rw [show s.replS s.c.fr s.c.to (s.c.E.getD (rotM s.c.E.length s.c.at_ x) []) = s from replS_bad hI] at HX; exact HX⟩
          · (try simp only [cmpS] at h5)
            have hI : s.replEd s.c.fr s.c.to (s.popL x) = 0 := h5
            have hrg : 0 ≤ s.c.fr ∧ s.c.fr ≤ s.c.L.length := repl_range (by unfold EdS.replEd at hI; rw [if_pos hin] at hI; exact hI)
            obtain ⟨pb_e, pr_e, pw_e, pt_e, pm_e, ph_e, bl_e, pv_e, es_e, u0_e, u1_e, u2_e, u3_e, u4_e, u5_e, u6_e, u7_e, u8_e, u9_e, ua_e, ok_e, says_e, plen_e, HE_e⟩ := (H8).edO
            have hfr := replS_fr s s.c.fr s.c.to (s.popL x)
            have hEE := replS_E s s.c.fr s.c.to (s.popL x)
            unfold EdS.popL at hfr
            refine wc_skip ?_
            refine wq_seq ?_
            refine wc_seq ?_
            refine wc_region ?_
            refine wl_val (r_move rfl) (ltn rfl) ?_
            refine wl_val (r_move rfl) (ltn rfl) ?_
            refine wl_val (r_move rfl) (ltn rfl) ?_
            refine wl_val (r_move rfl) (ltn rfl) ?_
            refine wl_val (r_nil rfl) (ltn rfl) ?_
            refine wl_val (r_fieldA 0 Tryz.underlying66 rfl rfl Tryz.sizeOf62 (by decide) rfl (by first | exact Nat.zero_add _ | rfl)) (ltn rfl) ?_
            refine wl_val (r_fieldA 1 Tryz.underlying62 rfl rfl Tryz.sizeOf58 (by decide) rfl (by first | exact Nat.zero_add _ | rfl)) (ltn rfl) ?_
            refine wl_eff0 (e_storeL 1 (l' := [_, _, _, _, _, _, _, _, _, _, _, _, _, _, _, _, _, _, _, _, _, _, _, _, _, _, _, _, _, _, _, _, _, _]) HE_e Tryz.sizeOf58 rfl rfl (by first | rfl | assumption) rfl rfl) ?_
            rintro _ w10 H10
            refine wl_val (r_nil rfl) (ltn rfl) ?_
            refine wl_val (r_fieldA 30 Tryz.underlying66 rfl rfl Tryz.sizeOf4 (by decide) rfl (by first | exact Nat.zero_add _ | rfl)) (ltn rfl) ?_
            refine wl_eff0 (e_storeL 30 (l' := [_, _, _, _, _, _, _, _, _, _, _, _, _, _, _, _, _, _, _, _, _, _, _, _, _, _, _, _, _, _, _, _, _, _]) H10 Tryz.sizeOf4 rfl rfl (by first | rfl | assumption) rfl rfl) ?_
            rintro _ w11 H11
            refine wl_val (r_nil rfl) (ltn rfl) ?_
            refine wl_val (r_fieldA 28 Tryz.underlying66 rfl rfl Tryz.sizeOf3 (by decide) rfl (by first | exact Nat.zero_add _ | rfl)) (ltn rfl) ?_
            refine wl_eff0 (e_storeL 28 (l' := [_, _, _, _, _, _, _, _, _, _, _, _, _, _, _, _, _, _, _, _, _, _, _, _, _, _, _, _, _, _, _, _, _, _]) H11 Tryz.sizeOf3 rfl rfl (by first | rfl | assumption) rfl rfl) ?_
            rintro _ w12 H12
            refine wl_nil ?_
            refine wq_seq ?_
            refine wc_seq ?_
            refine wc_region ?_
            refine wl_val (r_move rfl) (ltn rfl) ?_
            refine wl_val (r_move rfl) (ltn rfl) ?_
            refine wl_val (r_nil rfl) (ltn rfl) ?_
            refine wl_val (r_fieldA 0 Tryz.underlying66 rfl rfl Tryz.sizeOf62 (by decide) rfl (by first | exact Nat.zero_add _ | rfl)) (ltn rfl) ?_
            refine wl_val (r_fieldA 7 Tryz.underlying62 rfl rfl Tryz.sizeOf3 (by decide) rfl (by first | exact Nat.zero_add _ | rfl)) (ltn rfl) ?_
            refine wl_val (r_load (plain_of Tryz.underlying3 rfl) rfl (cell_of_blk (H12).get.2 rfl)) (ltn rfl) ?_
            refine wl_val (r_move rfl) (ltn rfl) ?_
            refine wl_val (r_lenR ((H12.f12).row_rd) Tryz.underlying22 rfl) (ltn rfl) ?_
            refine wl_val (r_add rfl rfl (by omega)) (ltn rfl) ?_
            refine wl_val (r_nil rfl) (ltn rfl) ?_
            refine wl_val (r_fieldA 0 Tryz.underlying66 rfl rfl Tryz.sizeOf62 (by decide) rfl (by first | exact Nat.zero_add _ | rfl)) (ltn rfl) ?_
            refine wl_val (r_fieldA 8 Tryz.underlying62 rfl rfl Tryz.sizeOf3 (by decide) rfl (by first | exact Nat.zero_add _ | rfl)) (ltn rfl) ?_
            refine wl_eff0 (e_storeL 8 (l' := [_, _, _, _, _, _, _, _, _, _, _, _, _, _, _, _, _, _, _, _, _, _, _, _, _, _, _, _, _, _, _, _, _, _]) H12 Tryz.sizeOf3 rfl rfl (by first | rfl | assumption) rfl rfl) ?_
            rintro _ w13 H13
            refine wl_nil ?_
            refine wq_seq ?_
            refine wc_seq ?_
            refine wc_region ?_
            refine wl_val (r_assign rfl) (ltn rfl) ?_
            refine wl_nil ?_
            refine wq_seq ?_
            refine wc_ret ?_
            refine wq_end1 (.inl rfl) Tryz.results24 rfl ?_
            have hs : s.popS x = { s.replS s.c.fr s.c.to (s.popL x) with yanked := true, cls := 2, c := { (s.replS s.c.fr s.c.to (s.popL x)).c with E := s.c.E, at_ := rotM s.c.E.length s.c.at_ x, fr := s.c.fr, to := s.c.fr + (s.popL x).length } } := by unfold EdS.popS; rw [if_pos (hP.trans hI)]
            have HX := H13.f3.right.f11.right.f10.f10.f10.f10.f10.f10.f10.f10.f11.f11.f11
            rw [hfr] at HX
            exact ⟨by rw [hP, hI], by rw [hs]; exact Holds.mk_ed (s := { s.replS s.c.fr s.c.to (s.popL x) with yanked := true, cls := 2, c := { (s.replS s.c.fr s.c.to (s.popL x)).c with E := s.c.E, at_ := rotM s.c.E.length s.c.at_ x, fr := s.c.fr, to := s.c.fr + (s.popL x).length } }) ok_e says_e HX⟩
end
end Go.Proofs.YtgmpclifphbjkaaGreatDoor
end
