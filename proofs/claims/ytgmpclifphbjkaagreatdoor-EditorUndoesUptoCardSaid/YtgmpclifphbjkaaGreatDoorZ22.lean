import Derived.Test.YtgmpclifphbjkaaGreatDoorZ21
import Derived.Test.YtgmpclifphbjkaaGreatDoorZ19
import Derived.Test.YtgmpclifphbjkaaGreatDoorZ17
import Derived.Test.YtgmpclifphbjkaaGreatDoorZ13
/- Texts of mine, joined: EdU EEdit ETyM. -/
section
/- Editors: Undo, Revert. -/
set_option linter.unusedSimpArgs false
set_option linter.unusedVariables false
namespace Go.Proofs.YtgmpclifphbjkaaGreatDoor
open Go.RowKit
theorem undoE_nil (G : List (List EdA)) : undoE G [] = if G = [] then 6 else 0 := by unfold undoE; cases G <;> simp
theorem undoR_some {G : List (List EdA)} (h : G ≠ []) : undoR G [] = (G.getLastD []).reverse.map invA := by
  unfold undoR closeG
  rw [if_neg (by cases G <;> simp_all), if_pos rfl]
theorem sub_ok {s : EdS} (h : EdSOk s) {G : List (List EdA)} (h1 : uTot G s.put ≤ uTot s.here s.put) (h2 : ∀ g ∈ G, g ∈ s.here) : EdSOk (s.setUn G) := by
  obtain ⟨a1, a2, a3, a4, a5, a6⟩ := h
  refine ⟨a1, a2, a3, a4, ?_, ?_⟩
  · show uTot (updF s.c.un s.c.place G s.c.place) s.put ≤ 16384
    rw [updF_same]; omega
  · intro k g hg
    have hg' : g ∈ updF s.c.un s.c.place G k := hg
    by_cases hk : k = s.c.place
    · subst hk; rw [updF_same] at hg'; exact a6 _ g (h2 g hg')
    · rw [updF_not _ _ hk] at hg'; exact a6 k g hg'
theorem uTot_drop (G : List (List EdA)) (N : List EdA) : uTot G.dropLast N ≤ uTot G N := by
  by_cases h : G = []
  · subst h; exact Nat.le_refl _
  · have := dropLast_sum h
    unfold uTot; omega
theorem uTot_zero (G : List (List EdA)) (N : List EdA) : uTot [] N ≤ uTot G N := by unfold uTot; simp
theorem setUn_same {s : EdS} : s.setUn s.here = s := by unfold EdS.setUn EdS.here; rw [updF_id]
theorem apps_snoc (b : List Int × Int × Int) (l : List EdA) (x : EdA) : EdS.apps b (l ++ [x]) = EdS.app1 (EdS.apps b l) x := by unfold EdS.apps; rw [List.foldl_append]; rfl
section
variable {w0 w : World} {F : HP} {e p : Nat} {s : EdS} {x : Int}
theorem ed_undo_ret (H : Holds w0 w (EdRep e s • F)) : Ret Tryz.prog 15 #[.pointer (some ⟨e, 0, none⟩)] w fun v w' => v = .int .i64 s.undoE ∧ Holds w0 w' (EdRep e s.undoS • F) := by
  refine ret_enter Tryz.func15 rfl Tryz.ntmps15 (Nat.le_of_ble_eq_true rfl) ?_
  dsimp only [slots0, Nat.reduceAdd]
  refine wc_seq ?_
  refine wc_region ?_
  refine wl_val (r_assign rfl) (ltn rfl) ?_
  refine wl_nil ?_
  refine wq_seq ?_
  refine wc_seq ?_
  refine wc_seq ?_
  refine wc_region ?_
  refine wl_val (r_move rfl) (ltn rfl) ?_
  refine wl_eff (e_call (r_call rfl Tryz.func51 rfl rfl) (ed_part_ret H)) (ltn rfl) ?_
  rintro _ _ ⟨rfl, rfl⟩
  refine wl_val (r_assign rfl) (ltn rfl) ?_
  refine wl_nil ?_
  refine wq_seq ?_
  refine wc_seq ?_
  refine wc_region ?_
  refine wl_val (r_move rfl) (ltn rfl) ?_
  refine wl_val (r_neq rfl rfl) (ltn rfl) ?_
  refine wl_nil ?_
  refine wq_seq ?_
  refine wc_cond rfl (fun h1 => ?_) (fun h1 => ?_)
  · (try simp only [cmpS] at h1)
    obtain ⟨hin, hpe⟩ := part_no h1
    refine wc_seq ?_
    refine wc_region ?_
    refine wl_val (r_move rfl) (ltn rfl) ?_
    refine wl_val (r_assign rfl) (ltn rfl) ?_
    refine wl_nil ?_
    refine wq_seq ?_
    refine wc_ret ?_
    refine wq_then_ret ?_
    refine wq_end1 (.inl rfl) Tryz.results15 rfl ?_
    rw [hpe]
    exact ⟨by simp [EdS.undoE, EdS.undoS, hin], by rw [show s.undoS = s from by simp [EdS.undoE, EdS.undoS, hin]]; exact H⟩
  · (try simp only [cmpS] at h1)
    have hin := part_yes h1
    refine wc_skip ?_
    refine wq_seq ?_
    refine wc_seq ?_
    refine wc_region ?_
    refine wl_val (r_move rfl) (ltn rfl) ?_
    refine wl_eff (e_call (r_call rfl Tryz.func53 rfl rfl) (ed_flush_ret H)) (ltn rfl) ?_
    rintro _ w2 H2
    obtain ⟨t, ht, HT⟩ : ∃ t, s.flushS false = t ∧ Holds w0 w2 (EdRep e t • F) := ⟨_, rfl, H2⟩
    obtain ⟨pb_e, pr_e, pw_e, pt_e, pm_e, ph_e, bl_e, pv_e, es_e, u0_e, u1_e, u2_e, u3_e, u4_e, u5_e, u6_e, u7_e, u8_e, u9_e, ua_e, ok_e, says_e, plen_e, HE_e⟩ := (HT).edO
    refine wl_nil ?_
    refine wq_seq ?_
    refine wc_seq ?_
    refine wc_region ?_
    refine wl_val (r_move rfl) (ltn rfl) ?_
    refine wl_eff (e_call (r_call rfl Tryz.func57 rfl rfl) (ed_list_ret HE_e.f6.f5.f3)) (ltn rfl) ?_
    rintro _ w4 ⟨lp4, rfl, H4⟩
    refine wl_eff (e_call (r_call rfl Tryz.func58 rfl rfl) (undo_undo_ret H4)) (ltn rfl) ?_
    rintro _ w5 ⟨u5, fs5, rfl, hfs5, H5⟩
    obtain ⟨h9a, h9b, h9c⟩ := undo_drop (t.c.un t.c.place)
    have HX := H5
    rw [h9a, h9b, h9c] at HX
    rw [undoE_nil]
    obtain ⟨uu, rfl⟩ : ∃ q, q = u5 := ⟨_, rfl⟩
    obtain ⟨fs, rfl⟩ : ∃ q, q = fs5 := ⟨_, rfl⟩
    have hfs := hfs5
    have Ho6 := HX.f2.f2
    have Hc7 := Ho6
    have Ho8 := Hc7.f3.f4
    have Hc9 := Holds.mk_unhole Ho8
    refine wl_val (r_move rfl) (ltn rfl) ?_
    refine wl_val (r_extract rfl rfl) (ltn rfl) ?_
    refine wl_val (r_extract rfl rfl) (ltn rfl) ?_
    refine wl_val (r_assign rfl) (ltn rfl) ?_
    refine wl_val (r_assign rfl) (ltn rfl) ?_
    refine wl_nil ?_
    refine wq_seq ?_
    refine wc_seq ?_
    refine wc_seq ?_
    refine wc_region ?_
    refine wl_val (r_move rfl) (ltn rfl) ?_
    refine wl_val (r_neq rfl rfl) (ltn rfl) ?_
    refine wl_nil ?_
    refine wq_seq ?_
    refine wc_cond rfl (fun h2 => ?_) (fun h2 => ?_)
    · (try simp only [cmpS] at h2)
      have h0 : t.here = [] := by by_cases hx : t.here = []; exact hx; exact absurd (if_neg hx) h2
      refine wc_seq ?_
      refine wc_region ?_
      refine wl_val (r_move rfl) (ltn rfl) ?_
      refine wl_val (r_assign rfl) (ltn rfl) ?_
      refine wl_nil ?_
      refine wq_seq ?_
      refine wc_ret ?_
      refine wq_then_ret ?_
      refine wq_end1 (.inl rfl) Tryz.results15 rfl ?_
      have hE : s.undoE = 6 := by unfold EdS.undoE; rw [if_pos hin, ht, if_pos h0]
      have hS : s.undoS = t.setUn t.here.dropLast := by unfold EdS.undoS; rw [if_pos hin]; dsimp only; rw [ht, if_pos h0, h0]; exact (h0 ▸ setUn_same).symm
      exact ⟨by rw [hE]; show Value.int _ (if t.c.un t.c.place = [] then 6 else 0) = _; rw [if_pos (show t.c.un t.c.place = [] from h0)], by rw [hS]; exact Holds.mk_ed (s := t.setUn t.here.dropLast) (sub_ok ok_e (uTot_drop _ _) (fun g hg => List.dropLast_subset _ hg)) says_e Hc9.f2.right.f2.right.f11.f11.f11.f11.f11.f6.f11.f9.f11.f11.f11⟩
    · (try simp only [cmpS] at h2)
      have h0 : ¬ t.here = [] := fun hx => by rw [if_pos (show t.c.un t.c.place = [] from hx)] at h2; exact absurd h2 (by decide)
      refine wc_skip ?_
      refine wq_seq ?_
      refine wc_seq ?_
      refine wc_seq ?_
      have hfs2 : fs.map BEd.says = (t.here.getLastD []).reverse.map invA := hfs.trans (undoR_some h0)
      have hfl : fs.length ≤ 16384 := by
        have h9 := congrArg List.length hfs2
        rw [List.length_map, List.length_map, List.length_reverse] at h9
        have h8 := dropLast_sum h0
        have h7 : uTot t.here t.put ≤ 16384 := ok_e.2.2.2.2.1
        unfold uTot at h7
        omega
      refine wc_region ?_
      refine wl_val (r_move rfl) (ltn rfl) ?_
      refine wl_val (r_lenS ((Hc9.f2).row_rd) Tryz.underlying64 rfl) (ltn rfl) ?_
      refine wl_val (r_move rfl) (ltn rfl) ?_
      refine wl_nil ?_
      refine wq_seq ?_
      refine wc_block ?_
      obtain ⟨R10, hR10, HR10⟩ := Holds.hide4 (Hc9.f4.f4.f4.f6)
      refine wc_loop [(0, _), (24, _), (25, _)] (fun (i : Nat) => [(26, .int .i64 (i : Int))]) (fun (i : Nat) W => i ≤ fs.length ∧ Holds w0 W (BufRep pb_e (EdS.apps (t.c.L, t.c.pt, t.c.mark) ((fs.take i).map BEd.says)).1 (EdS.apps (t.c.L, t.c.pt, t.c.mark) ((fs.take i).map BEd.says)).2.1 (EdS.apps (t.c.L, t.c.pt, t.c.mark) ((fs.take i).map BEd.says)).2.2 • Row 120 3 uu fs.length (fs.flatMap BEd.enc) • edsK fs • blk e (.cells (.pointer (some ⟨pb_e, 0, none⟩) :: .pointer (some ⟨pr_e, 0, none⟩) :: .pointer (some ⟨pw_e, 0, none⟩) :: .map (some pm_e) :: .int .i64 t.c.mode :: .bool t.c.over :: .int .i64 t.c.last :: .int .i64 t.c.fr :: .int .i64 t.c.to :: .int .i64 t.c.res :: .bool t.c.run :: .pointer (some ⟨ph_e, 0, none⟩) :: .pointer (some ⟨bl_e, 0, none⟩) :: .bool t.given :: .bool t.minus :: .int .i64 t.arg :: .bool t.inn :: u0_e :: u1_e :: u2_e :: u3_e :: u4_e :: u5_e :: u6_e :: u7_e :: u8_e :: u9_e :: ua_e :: .int .i64 t.cls :: .bool t.killed :: .bool t.yanked :: .bool t.argues :: .bool t.whole :: pv_e :: []).toArray 66 (0, 0)) • R10)) (fun (i : Nat) => fs.length - i) (0) (Sub.cons rfl (Sub.cons rfl (Sub.cons rfl (Sub.nil _)))) (Sub.cons rfl (Sub.nil _)) ⟨by omega, HR10⟩ ?_
      rintro i w11 ⟨hi, HL⟩
      dsimp only [List.cons_append, List.nil_append]
      refine wc_seq ?_
      refine wc_region ?_
      refine wl_val (r_lss rfl rfl) (ltn rfl) ?_
      refine wl_nil ?_
      refine wq_seq ?_
      refine wc_seq ?_
      refine wc_cond rfl (fun h3 => ?_) (fun h3 => ?_)
      · (try simp only [cmpS] at h3)
        
        refine wc_skip ?_
        refine wq_seq ?_
        refine wc_seq ?_
        refine wc_block ?_
        refine wc_seq ?_
        refine wc_region ?_
        obtain ⟨buu, ouu, cuu, euu⟩ := Rd.posV ((HL.f2).row_rd) (by omega)
        cases euu
        refine wl_val (r_index Tryz.underlying64 Tryz.sizeOf120 rfl rfl (by omega)) (ltn rfl) ?_
        refine wl_val (r_load_elem (ys := [_, _, _]) ((HL.f2).row_rd) (by omega) Tryz.underlying120 rfl Tryz.sizeOf120 rfl (flat_elem BEd.enc_len (by omega) default) rfl) (ltn rfl) ?_
        have hkl : i < fs.length := by omega
        refine wl_eff (e_allocL (l := [_, _, _]) HL Tryz.zeroValue120 rfl) (ltn rfl) ?_
        rintro _ w12 ⟨b12, rfl, H12⟩
        refine wl_eff0 (e_storePL 0 (l' := [_, _, _]) (us := [_, _, _]) H12 Tryz.sizeOf120 rfl rfl rfl (ones_cons (by first | rfl | assumption) (ones_cons (by first | rfl | exact Rd.one (((H12.f4).edsK_ii hkl).1)) (ones_cons (by first | rfl | exact Rd.one (((H12.f4).edsK_ii hkl).2)) ones_nil))) rfl rfl) ?_
        rintro _ w13 H13
        refine wl_nil ?_
        refine wq_seq ?_
        have H11d13 := H13.drew
        have hS11d13 := Holds.kp (H11d13.f5.f5.f5.f5.f5)
        refine wd_beginK [4, 5] hS11d13 (by kernel_rfl) (by kernel_rfl) rfl ?_
        refine wd_takeT 0 rfl (by kernel_rfl) (by kernel_rfl) hS11d13 (fun _ => r_move rfl) (ltn rfl) ?_
        refine wd_takeT 1 rfl (by kernel_rfl) (by kernel_rfl) hS11d13 (fun _ => r_nil rfl) (ltn rfl) ?_
        refine wd_takeT 2 rfl (by kernel_rfl) (by kernel_rfl) hS11d13 (fun _ => r_fieldA 0 Tryz.underlying66 rfl rfl Tryz.sizeOf62 (by decide) rfl (by first | exact Nat.zero_add _ | rfl)) (ltn rfl) ?_
        refine wd_takeT 3 rfl (by kernel_rfl) (by kernel_rfl) hS11d13 (fun _ => r_fieldA 0 Tryz.underlying62 rfl rfl Tryz.sizeOf57 (by decide) rfl (by first | exact Nat.zero_add _ | rfl)) (ltn rfl) ?_
        refine wd_take 4 rfl (by kernel_rfl) (by kernel_rfl) hS11d13 (by decide) (fun W hW => r_load (plain_of Tryz.underlying57 rfl) rfl (cell_of_blk ((Kp.h hW).f5).get.2 rfl)) (ltn rfl) ?_
        refine wd_take 5 rfl (by kernel_rfl) (by kernel_rfl) hS11d13 (by decide) (fun W hW => r_load_whole Tryz.underlying120 rfl Tryz.sizeOf120 rfl rfl ((Kp.h hW)).get.2) (ltn rfl) ?_
        refine wd_eff 6 rfl (by kernel_rfl) (e_call (r_call rfl Tryz.func59 rfl rfl) (buf_apply_ret H11d13.f2 (fun W HW => ((HW.f3).edsK_ii hkl).1) (fun W HW => ((HW.f3).edsK_ii hkl).2))) (ltn rfl) ?_
        rintro _ w14 ⟨rfl, H14⟩
        have hS14n := Holds.kp (H14.f5.f5.f5.f5.f5)
        refine keepX hS14n (by kernel_rfl) ?_
        refine wd_done (by kernel_rfl) ?_
        refine wq_block_normal ?_
        refine wq_seq ?_
        refine wc_region ?_
        refine wl_val (r_add rfl rfl (by omega)) (ltn rfl) ?_
        refine wl_val (r_move rfl) (ltn rfl) ?_
        refine wl_nil ?_
        refine wq_round (i + 1) ?_ ?_ ?_ ?_
        · exact (Sub.cons rfl (Sub.nil _))
        · exact (Sub.cons rfl (Sub.cons rfl (Sub.cons rfl (Sub.nil _))))
        · (try dsimp only)
          first | done | exact ⟨by omega, by rw [getD_says hkl, apps_snoc]; exact H14.f2.right.f4.f4.f4.f4⟩
        · (try dsimp only); omega
      · (try simp only [cmpS] at h3)
        
        refine wc_exit ?_
        refine wq_then_exit ?_
        have hil : i = fs.length := by omega
        have HB := HL
        rw [hil, List.take_length] at HB
        subst hR10
        refine wq_then_exit ?_
        refine wq_block_hit ?_
        refine wq_seq ?_
        refine wc_seq ?_
        refine wc_region ?_
        refine wl_val (r_move rfl) (ltn rfl) ?_
        refine wl_val (r_move rfl) (ltn rfl) ?_
        refine wl_val (r_nil rfl) (ltn rfl) ?_
        refine wl_val (r_fieldA 32 Tryz.underlying66 rfl rfl Tryz.sizeOf4 (by decide) rfl (by first | exact Nat.zero_add _ | rfl)) (ltn rfl) ?_
        refine wl_eff0 (e_storeL 32 (l' := [_, _, _, _, _, _, _, _, _, _, _, _, _, _, _, _, _, _, _, _, _, _, _, _, _, _, _, _, _, _, _, _, _, _]) HB.f4 Tryz.sizeOf4 rfl rfl (by first | rfl | assumption) rfl rfl) ?_
        rintro _ w15 H15
        refine wl_val (r_nil rfl) (ltn rfl) ?_
        refine wl_val (r_fieldA 0 Tryz.underlying66 rfl rfl Tryz.sizeOf62 (by decide) rfl (by first | exact Nat.zero_add _ | rfl)) (ltn rfl) ?_
        refine wl_val (r_fieldA 10 Tryz.underlying62 rfl rfl Tryz.sizeOf4 (by decide) rfl (by first | exact Nat.zero_add _ | rfl)) (ltn rfl) ?_
        refine wl_eff0 (e_storeL 10 (l' := [_, _, _, _, _, _, _, _, _, _, _, _, _, _, _, _, _, _, _, _, _, _, _, _, _, _, _, _, _, _, _, _, _, _]) H15 Tryz.sizeOf4 rfl rfl (by first | rfl | assumption) rfl rfl) ?_
        rintro _ w16 H16
        refine wl_nil ?_
        refine wq_seq ?_
        refine wc_seq ?_
        refine wc_region ?_
        refine wl_val (r_assign rfl) (ltn rfl) ?_
        refine wl_nil ?_
        refine wq_seq ?_
        refine wc_ret ?_
        refine wq_end1 (.inl rfl) Tryz.results15 rfl ?_
        rw [hfs2] at H16
        have hE : s.undoE = 0 := by unfold EdS.undoE; rw [if_pos hin, ht, if_neg h0]
        have hS : s.undoS = ((t.setUn t.here.dropLast).appsS ((t.here.getLastD []).reverse.map invA)).unWhole := by unfold EdS.undoS; rw [if_pos hin]; dsimp only; rw [ht, if_neg h0]
        exact ⟨by rw [hE], by rw [hS]; exact Holds.mk_ed (s := ((t.setUn t.here.dropLast).appsS ((t.here.getLastD []).reverse.map invA)).unWhole) (sub_ok ok_e (uTot_drop _ _) (fun g hg => List.dropLast_subset _ hg)) says_e H16.f3.right.f3.right.f11.f11.f11.f11.f11.f8.f11.f10.f11.f11.f11⟩
theorem ed_rev_ret (H : Holds w0 w (EdRep e s • F)) : Ret Tryz.prog 16 #[.pointer (some ⟨e, 0, none⟩)] w fun v w' => v = .int .i64 s.undoE ∧ Holds w0 w' (EdRep e s.revS • F) := by
  refine ret_enter Tryz.func16 rfl Tryz.ntmps16 (Nat.le_of_ble_eq_true rfl) ?_
  dsimp only [slots0, Nat.reduceAdd]
  refine wc_seq ?_
  refine wc_region ?_
  refine wl_val (r_assign rfl) (ltn rfl) ?_
  refine wl_nil ?_
  refine wq_seq ?_
  refine wc_seq ?_
  refine wc_seq ?_
  refine wc_region ?_
  refine wl_val (r_move rfl) (ltn rfl) ?_
  refine wl_eff (e_call (r_call rfl Tryz.func51 rfl rfl) (ed_part_ret H)) (ltn rfl) ?_
  rintro _ _ ⟨rfl, rfl⟩
  refine wl_val (r_assign rfl) (ltn rfl) ?_
  refine wl_nil ?_
  refine wq_seq ?_
  refine wc_seq ?_
  refine wc_region ?_
  refine wl_val (r_move rfl) (ltn rfl) ?_
  refine wl_val (r_neq rfl rfl) (ltn rfl) ?_
  refine wl_nil ?_
  refine wq_seq ?_
  refine wc_cond rfl (fun h1 => ?_) (fun h1 => ?_)
  · (try simp only [cmpS] at h1)
    obtain ⟨hin, hpe⟩ := part_no h1
    refine wc_seq ?_
    refine wc_region ?_
    refine wl_val (r_move rfl) (ltn rfl) ?_
    refine wl_val (r_assign rfl) (ltn rfl) ?_
    refine wl_nil ?_
    refine wq_seq ?_
    refine wc_ret ?_
    refine wq_then_ret ?_
    refine wq_end1 (.inl rfl) Tryz.results16 rfl ?_
    rw [hpe]
    exact ⟨by simp [EdS.undoE, EdS.revS, hin], by rw [show s.revS = s from by simp [EdS.undoE, EdS.revS, hin]]; exact H⟩
  · (try simp only [cmpS] at h1)
    have hin := part_yes h1
    refine wc_skip ?_
    refine wq_seq ?_
    refine wc_seq ?_
    refine wc_region ?_
    refine wl_val (r_move rfl) (ltn rfl) ?_
    refine wl_eff (e_call (r_call rfl Tryz.func53 rfl rfl) (ed_flush_ret H)) (ltn rfl) ?_
    rintro _ w2 H2
    obtain ⟨t, ht, HT⟩ : ∃ t, s.flushS false = t ∧ Holds w0 w2 (EdRep e t • F) := ⟨_, rfl, H2⟩
    obtain ⟨pb_e, pr_e, pw_e, pt_e, pm_e, ph_e, bl_e, pv_e, es_e, u0_e, u1_e, u2_e, u3_e, u4_e, u5_e, u6_e, u7_e, u8_e, u9_e, ua_e, ok_e, says_e, plen_e, HE_e⟩ := (HT).edO
    refine wl_nil ?_
    refine wq_seq ?_
    refine wc_seq ?_
    refine wc_seq ?_
    refine wc_region ?_
    refine wl_val (r_move rfl) (ltn rfl) ?_
    refine wl_eff (e_call (r_call rfl Tryz.func57 rfl rfl) (ed_list_ret HE_e.f6.f5.f3)) (ltn rfl) ?_
    rintro _ w4 ⟨lp4, rfl, H4⟩
    refine wl_eff (e_call (r_call rfl Tryz.func60 rfl rfl) (undo_len_ret H4)) (ltn rfl) ?_
    rintro _ w5 ⟨rfl, H5⟩
    have Ho6 := H5.f2
    have Hc7 := Holds.mk_unhole_id Ho6
    refine wl_val (r_eql rfl rfl) (ltn rfl) ?_
    refine wl_nil ?_
    refine wq_seq ?_
    refine wc_cond rfl (fun h2 => ?_) (fun h2 => ?_)
    · (try simp only [cmpS] at h2)
      have h0 : t.here = [] := by simp at h2; exact h2
      refine wc_seq ?_
      refine wc_region ?_
      refine wl_val (r_assign rfl) (ltn rfl) ?_
      refine wl_nil ?_
      refine wq_seq ?_
      refine wc_ret ?_
      refine wq_then_ret ?_
      refine wq_end1 (.inl rfl) Tryz.results16 rfl ?_
      have hE : s.undoE = 6 := by unfold EdS.undoE; rw [if_pos hin, ht, if_pos h0]
      have hS : s.revS = t := by unfold EdS.revS; rw [if_pos hin]; dsimp only; rw [ht, if_pos h0]
      exact ⟨by rw [hE], by rw [hS]; exact Holds.mk_ed ok_e says_e Hc7.f11.f11.f11.f11.f11.f6.f11.f9.f11.f11.f11⟩
    · (try simp only [cmpS] at h2)
      have h0 : ¬ t.here = [] := fun hx => by rw [show t.c.un t.c.place = [] from hx] at h2; simp at h2
      refine wc_skip ?_
      refine wq_seq ?_
      refine wc_seq ?_
      refine wc_seq ?_
      refine wc_region ?_
      refine wl_val (r_move rfl) (ltn rfl) ?_
      refine wl_eff (e_call (r_call rfl Tryz.func57 rfl rfl) (ed_list_ret Hc7.f3.f3)) (ltn rfl) ?_
      rintro _ w8 ⟨lp8, rfl, H8⟩
      refine wl_eff (e_call (r_call rfl Tryz.func61 rfl rfl) (undo_revert_ret H8)) (ltn rfl) ?_
      rintro u9 w9 ⟨fs9, hfs9, H9⟩
      obtain ⟨uu, rfl⟩ : ∃ q, q = u9 := ⟨_, rfl⟩
      obtain ⟨fs, rfl⟩ : ∃ q, q = fs9 := ⟨_, rfl⟩
      have hfs := hfs9
      have Ho10 := H9.f2.f2
      have Hc11 := Ho10
      have Ho12 := Hc11.f3.f4
      have Hc13 := Holds.mk_unhole Ho12
      have hfs2 : fs.map BEd.says = t.here.flatten.reverse.map invA := by rw [hfs]; unfold revR closeG; rw [if_pos rfl]; rfl
      have hfl : fs.length ≤ 16384 := by
        have h9 := congrArg List.length hfs2
        rw [List.length_map, List.length_map, List.length_reverse, List.length_flatten] at h9
        have h7 : uTot t.here t.put ≤ 16384 := ok_e.2.2.2.2.1
        unfold uTot at h7
        omega
      refine wl_val (r_lenS ((Hc13.f2).row_rd) Tryz.underlying64 rfl) (ltn rfl) ?_
      refine wl_val (r_move rfl) (ltn rfl) ?_
      refine wl_nil ?_
      refine wq_seq ?_
      refine wc_block ?_
      obtain ⟨R14, hR14, HR14⟩ := Holds.hide4 (Hc13.f4.f4.f4.f6)
      refine wc_loop [(0, _), (19, _), (20, _)] (fun (i : Nat) => [(21, .int .i64 (i : Int))]) (fun (i : Nat) W => i ≤ fs.length ∧ Holds w0 W (BufRep pb_e (EdS.apps (t.c.L, t.c.pt, t.c.mark) ((fs.take i).map BEd.says)).1 (EdS.apps (t.c.L, t.c.pt, t.c.mark) ((fs.take i).map BEd.says)).2.1 (EdS.apps (t.c.L, t.c.pt, t.c.mark) ((fs.take i).map BEd.says)).2.2 • Row 120 3 uu fs.length (fs.flatMap BEd.enc) • edsK fs • blk e (.cells (.pointer (some ⟨pb_e, 0, none⟩) :: .pointer (some ⟨pr_e, 0, none⟩) :: .pointer (some ⟨pw_e, 0, none⟩) :: .map (some pm_e) :: .int .i64 t.c.mode :: .bool t.c.over :: .int .i64 t.c.last :: .int .i64 t.c.fr :: .int .i64 t.c.to :: .int .i64 t.c.res :: .bool t.c.run :: .pointer (some ⟨ph_e, 0, none⟩) :: .pointer (some ⟨bl_e, 0, none⟩) :: .bool t.given :: .bool t.minus :: .int .i64 t.arg :: .bool t.inn :: u0_e :: u1_e :: u2_e :: u3_e :: u4_e :: u5_e :: u6_e :: u7_e :: u8_e :: u9_e :: ua_e :: .int .i64 t.cls :: .bool t.killed :: .bool t.yanked :: .bool t.argues :: .bool t.whole :: pv_e :: []).toArray 66 (0, 0)) • R14)) (fun (i : Nat) => fs.length - i) (0) (Sub.cons rfl (Sub.cons rfl (Sub.cons rfl (Sub.nil _)))) (Sub.cons rfl (Sub.nil _)) ⟨by omega, HR14⟩ ?_
      rintro i w15 ⟨hi, HL⟩
      dsimp only [List.cons_append, List.nil_append]
      refine wc_seq ?_
      refine wc_region ?_
      refine wl_val (r_lss rfl rfl) (ltn rfl) ?_
      refine wl_nil ?_
      refine wq_seq ?_
      refine wc_seq ?_
      refine wc_cond rfl (fun h3 => ?_) (fun h3 => ?_)
      · (try simp only [cmpS] at h3)
        
        refine wc_skip ?_
        refine wq_seq ?_
        refine wc_seq ?_
        refine wc_block ?_
        refine wc_seq ?_
        refine wc_region ?_
        obtain ⟨buu, ouu, cuu, euu⟩ := Rd.posV ((HL.f2).row_rd) (by omega)
        cases euu
        refine wl_val (r_index Tryz.underlying64 Tryz.sizeOf120 rfl rfl (by omega)) (ltn rfl) ?_
        refine wl_val (r_load_elem (ys := [_, _, _]) ((HL.f2).row_rd) (by omega) Tryz.underlying120 rfl Tryz.sizeOf120 rfl (flat_elem BEd.enc_len (by omega) default) rfl) (ltn rfl) ?_
        have hkl : i < fs.length := by omega
        refine wl_eff (e_allocL (l := [_, _, _]) HL Tryz.zeroValue120 rfl) (ltn rfl) ?_
        rintro _ w16 ⟨b16, rfl, H16⟩
        refine wl_eff0 (e_storePL 0 (l' := [_, _, _]) (us := [_, _, _]) H16 Tryz.sizeOf120 rfl rfl rfl (ones_cons (by first | rfl | assumption) (ones_cons (by first | rfl | exact Rd.one (((H16.f4).edsK_ii hkl).1)) (ones_cons (by first | rfl | exact Rd.one (((H16.f4).edsK_ii hkl).2)) ones_nil))) rfl rfl) ?_
        rintro _ w17 H17
        refine wl_nil ?_
        refine wq_seq ?_
        have H10d17 := H17.drew
        have hS10d17 := Holds.kp (H10d17.f5.f5.f5.f5.f5)
        refine wd_beginK [4, 5] hS10d17 (by kernel_rfl) (by kernel_rfl) rfl ?_
        refine wd_takeT 0 rfl (by kernel_rfl) (by kernel_rfl) hS10d17 (fun _ => r_move rfl) (ltn rfl) ?_
        refine wd_takeT 1 rfl (by kernel_rfl) (by kernel_rfl) hS10d17 (fun _ => r_nil rfl) (ltn rfl) ?_
        refine wd_takeT 2 rfl (by kernel_rfl) (by kernel_rfl) hS10d17 (fun _ => r_fieldA 0 Tryz.underlying66 rfl rfl Tryz.sizeOf62 (by decide) rfl (by first | exact Nat.zero_add _ | rfl)) (ltn rfl) ?_
        refine wd_takeT 3 rfl (by kernel_rfl) (by kernel_rfl) hS10d17 (fun _ => r_fieldA 0 Tryz.underlying62 rfl rfl Tryz.sizeOf57 (by decide) rfl (by first | exact Nat.zero_add _ | rfl)) (ltn rfl) ?_
        refine wd_take 4 rfl (by kernel_rfl) (by kernel_rfl) hS10d17 (by decide) (fun W hW => r_load (plain_of Tryz.underlying57 rfl) rfl (cell_of_blk ((Kp.h hW).f5).get.2 rfl)) (ltn rfl) ?_
        refine wd_take 5 rfl (by kernel_rfl) (by kernel_rfl) hS10d17 (by decide) (fun W hW => r_load_whole Tryz.underlying120 rfl Tryz.sizeOf120 rfl rfl ((Kp.h hW)).get.2) (ltn rfl) ?_
        refine wd_eff 6 rfl (by kernel_rfl) (e_call (r_call rfl Tryz.func59 rfl rfl) (buf_apply_ret H10d17.f2 (fun W HW => ((HW.f3).edsK_ii hkl).1) (fun W HW => ((HW.f3).edsK_ii hkl).2))) (ltn rfl) ?_
        rintro _ w18 ⟨rfl, H18⟩
        have hS18n := Holds.kp (H18.f5.f5.f5.f5.f5)
        refine keepX hS18n (by kernel_rfl) ?_
        refine wd_done (by kernel_rfl) ?_
        refine wq_block_normal ?_
        refine wq_seq ?_
        refine wc_region ?_
        refine wl_val (r_add rfl rfl (by omega)) (ltn rfl) ?_
        refine wl_val (r_move rfl) (ltn rfl) ?_
        refine wl_nil ?_
        refine wq_round (i + 1) ?_ ?_ ?_ ?_
        · exact (Sub.cons rfl (Sub.nil _))
        · exact (Sub.cons rfl (Sub.cons rfl (Sub.cons rfl (Sub.nil _))))
        · (try dsimp only)
          first | done | exact ⟨by omega, by rw [getD_says hkl, apps_snoc]; exact H18.f2.right.f4.f4.f4.f4⟩
        · (try dsimp only); omega
      · (try simp only [cmpS] at h3)
        
        refine wc_exit ?_
        refine wq_then_exit ?_
        have hil : i = fs.length := by omega
        have HB := HL
        rw [hil, List.take_length] at HB
        subst hR14
        refine wq_then_exit ?_
        refine wq_block_hit ?_
        refine wq_seq ?_
        refine wc_seq ?_
        refine wc_region ?_
        refine wl_val (r_move rfl) (ltn rfl) ?_
        refine wl_val (r_move rfl) (ltn rfl) ?_
        refine wl_val (r_nil rfl) (ltn rfl) ?_
        refine wl_val (r_fieldA 32 Tryz.underlying66 rfl rfl Tryz.sizeOf4 (by decide) rfl (by first | exact Nat.zero_add _ | rfl)) (ltn rfl) ?_
        refine wl_eff0 (e_storeL 32 (l' := [_, _, _, _, _, _, _, _, _, _, _, _, _, _, _, _, _, _, _, _, _, _, _, _, _, _, _, _, _, _, _, _, _, _]) HB.f4 Tryz.sizeOf4 rfl rfl (by first | rfl | assumption) rfl rfl) ?_
        rintro _ w19 H19
        refine wl_val (r_nil rfl) (ltn rfl) ?_
        refine wl_val (r_fieldA 0 Tryz.underlying66 rfl rfl Tryz.sizeOf62 (by decide) rfl (by first | exact Nat.zero_add _ | rfl)) (ltn rfl) ?_
        refine wl_val (r_fieldA 10 Tryz.underlying62 rfl rfl Tryz.sizeOf4 (by decide) rfl (by first | exact Nat.zero_add _ | rfl)) (ltn rfl) ?_
        refine wl_eff0 (e_storeL 10 (l' := [_, _, _, _, _, _, _, _, _, _, _, _, _, _, _, _, _, _, _, _, _, _, _, _, _, _, _, _, _, _, _, _, _, _]) H19 Tryz.sizeOf4 rfl rfl (by first | rfl | assumption) rfl rfl) ?_
        rintro _ w20 H20
        refine wl_nil ?_
        refine wq_seq ?_
        refine wc_seq ?_
        refine wc_region ?_
        refine wl_val (r_assign rfl) (ltn rfl) ?_
        refine wl_nil ?_
        refine wq_seq ?_
        refine wc_ret ?_
        refine wq_end1 (.inl rfl) Tryz.results16 rfl ?_
        rw [hfs2] at H20
        have hE : s.undoE = 0 := by unfold EdS.undoE; rw [if_pos hin, ht, if_neg h0]
        have hS : s.revS = ((t.setUn []).appsS (t.here.flatten.reverse.map invA)).unWhole := by unfold EdS.revS; rw [if_pos hin]; dsimp only; rw [ht, if_neg h0]
        exact ⟨by rw [hE], by rw [hS]; exact Holds.mk_ed (s := ((t.setUn []).appsS (t.here.flatten.reverse.map invA)).unWhole) (sub_ok ok_e (uTot_zero _ _) (fun g hg => by cases hg)) says_e H20.f3.right.f3.right.f11.f11.f11.f11.f11.f8.f11.f10.f11.f11.f11⟩
end
end Go.Proofs.YtgmpclifphbjkaaGreatDoor
end
section
/- The law's edit, but for Goto. -/
set_option linter.unusedSimpArgs false
set_option linter.unusedVariables false
namespace Go.Proofs.YtgmpclifphbjkaaGreatDoor
open Go.RowKit
/-- A part of a command. -/
structure PartM where
  kd : Int
  a : Int
  b : Int
  back : Bool
  text : List Int
/-- .. as it stands in memory. -/
structure BPart where
  kd : Int
  a : Int
  b : Int
  back : Bool
  v : Value
  text : List Int
instance : Inhabited BPart := ⟨⟨0, 0, 0, false, .slice none 0 0, []⟩⟩
def BPart.enc (p : BPart) : List Value := [.int .i64 p.kd, .int .i64 p.a, .int .i64 p.b, .bool p.back, p.v]
theorem BPart.enc_len (p : BPart) : p.enc.length = 5 := rfl
def BPart.m (p : BPart) : PartM := ⟨p.kd, p.a, p.b, p.back, p.text⟩
def BPart.Reads (W : World) (p : BPart) : Prop := RdI W .i32 p.v p.text ∧ p.text.length ≤ 35184372087808
/-- What a part does, but for Goto. -/
def EdS.edit (s : EdS) (p : PartM) : EdS :=
  if p.kd = 0 then s.typeS p.text else
  if p.kd = 1 then s.insS p.text else
  if p.kd = 2 then s.replS p.a p.b [] else
  if p.kd = 3 then s.replS p.a p.b p.text else
  if p.kd = 4 then s.killS p.a p.b p.back else
  if p.kd = 5 then s.copyS p.a p.b p.back else
  if p.kd = 6 then s.yankS else
  if p.kd = 7 then s.popS p.a else
  if p.kd = 8 then s.moveS p.a else
  if p.kd = 9 then s.markS p.a else
  if p.kd = 10 then s.swapS else
  if p.kd = 11 then s.undoS else
  if p.kd = 17 then s.modeS p.a else s
section
variable {w0 w : World} {F : HP} {e : Nat} {s : EdS} {v : Value} {p : PartM}
theorem ed_edit_ret (H : Holds w0 w (EdRep e s • F)) (hr : FRdI w0 F .i32 v p.text) (hb : p.text.length ≤ 35184372087808) (hk : p.kd ≠ 13) :
    Ret Tryz.prog 12 #[.pointer (some ⟨e, 0, none⟩), .agg #[.int .i64 p.kd, .int .i64 p.a, .int .i64 p.b, .bool p.back, v]] w fun _ w' => Holds w0 w' (EdRep e (s.edit p) • F) := by
  refine ret_enter Tryz.func12 rfl Tryz.ntmps12 (Nat.le_of_ble_eq_true rfl) ?_
  dsimp only [slots0, Nat.reduceAdd]
  refine wc_seq ?_
  refine wc_region ?_
  refine wl_eff (e_boxL (l := [_, _, _, _, _]) H rfl rfl) (ltn rfl) ?_
  rintro _ w1 ⟨b1, rfl, H1⟩
  refine wl_nil ?_
  refine wq_seq ?_
  refine wc_seq ?_
  refine wc_region ?_
  refine wl_val (r_fieldA 0 Tryz.underlying38 rfl rfl Tryz.sizeOf3 (by decide) rfl (by first | exact Nat.zero_add _ | rfl)) (ltn rfl) ?_
  refine wl_val (r_load (plain_of Tryz.underlying3 rfl) rfl (cell_of_blk (H1).get.2 rfl)) (ltn rfl) ?_
  refine wl_nil ?_
  refine wq_seq ?_
  refine wc_block ?_
  refine wc_seq ?_
  refine wc_region ?_
  refine wl_val (r_eql rfl rfl) (ltn rfl) ?_
  refine wl_val (r_assign rfl) (ltn rfl) ?_
  refine wl_nil ?_
  refine wq_seq ?_
  refine wc_cond rfl (fun h1 => ?_) (fun h1 => ?_)
  · (try simp only [cmpS] at h1)
    have k0 := h1
    refine wc_region ?_
    refine wl_val (r_move rfl) (ltn rfl) ?_
    refine wl_val (r_fieldA 4 Tryz.underlying38 rfl rfl Tryz.sizeOf22 (by decide) rfl (by first | exact Nat.zero_add _ | rfl)) (ltn rfl) ?_
    refine wl_val (r_load (plain_of Tryz.underlying22 rfl) rfl (cell_of_blk (H1).get.2 rfl)) (ltn rfl) ?_
    refine wl_eff (e_call (r_call rfl Tryz.func21 rfl rfl) (ed_type_ret H1.f2 (fun W HW => hr _ (HW.right)) (by omega))) (ltn rfl) ?_
    rintro _ w2 ⟨rfl, H2⟩
    refine wl_nil ?_
    refine wq_block_normal ?_
    refine wq_end0 (.inr rfl) Tryz.results12 ?_
    exact (show s.edit p = s.typeS p.text from by unfold EdS.edit; rw [if_pos k0]) ▸ H2.f2.right
  · (try simp only [cmpS] at h1)
    have n0 := h1
    refine wc_seq ?_
    refine wc_region ?_
    refine wl_val (r_eql rfl rfl) (ltn rfl) ?_
    refine wl_val (r_assign rfl) (ltn rfl) ?_
    refine wl_nil ?_
    refine wq_seq ?_
    refine wc_cond rfl (fun h2 => ?_) (fun h2 => ?_)
    · (try simp only [cmpS] at h2)
      have k1 := h2
      refine wc_region ?_
      refine wl_val (r_move rfl) (ltn rfl) ?_
      refine wl_val (r_fieldA 4 Tryz.underlying38 rfl rfl Tryz.sizeOf22 (by decide) rfl (by first | exact Nat.zero_add _ | rfl)) (ltn rfl) ?_
      refine wl_val (r_load (plain_of Tryz.underlying22 rfl) rfl (cell_of_blk (H1).get.2 rfl)) (ltn rfl) ?_
      refine wl_eff (e_call (r_call rfl Tryz.func45 rfl rfl) (ed_insert_ret H1.f2 (fun W HW => hr _ (HW.right)))) (ltn rfl) ?_
      rintro _ w3 ⟨rfl, H3⟩
      refine wl_nil ?_
      refine wq_block_normal ?_
      refine wq_end0 (.inr rfl) Tryz.results12 ?_
      exact (show s.edit p = s.insS p.text from by unfold EdS.edit; rw [if_neg n0, if_pos k1]) ▸ H3.f2.right
    · (try simp only [cmpS] at h2)
      have n1 := h2
      refine wc_seq ?_
      refine wc_region ?_
      refine wl_val (r_eql rfl rfl) (ltn rfl) ?_
      refine wl_val (r_assign rfl) (ltn rfl) ?_
      refine wl_nil ?_
      refine wq_seq ?_
      refine wc_cond rfl (fun h3 => ?_) (fun h3 => ?_)
      · (try simp only [cmpS] at h3)
        have k2 := h3
        refine wc_region ?_
        refine wl_val (r_move rfl) (ltn rfl) ?_
        refine wl_val (r_fieldA 1 Tryz.underlying38 rfl rfl Tryz.sizeOf3 (by decide) rfl (by first | exact Nat.zero_add _ | rfl)) (ltn rfl) ?_
        refine wl_val (r_load (plain_of Tryz.underlying3 rfl) rfl (cell_of_blk (H1).get.2 rfl)) (ltn rfl) ?_
        refine wl_val (r_fieldA 2 Tryz.underlying38 rfl rfl Tryz.sizeOf3 (by decide) rfl (by first | exact Nat.zero_add _ | rfl)) (ltn rfl) ?_
        refine wl_val (r_load (plain_of Tryz.underlying3 rfl) rfl (cell_of_blk (H1).get.2 rfl)) (ltn rfl) ?_
        refine wl_eff (e_call (r_call rfl Tryz.func46 rfl rfl) (ed_erase_ret H1.f2)) (ltn rfl) ?_
        rintro _ w4 ⟨rfl, H4⟩
        refine wl_nil ?_
        refine wq_block_normal ?_
        refine wq_end0 (.inr rfl) Tryz.results12 ?_
        exact (show s.edit p = s.replS p.a p.b [] from by unfold EdS.edit; rw [if_neg n0, if_neg n1, if_pos k2]) ▸ H4.f2.right
      · (try simp only [cmpS] at h3)
        have n2 := h3
        refine wc_seq ?_
        refine wc_region ?_
        refine wl_val (r_eql rfl rfl) (ltn rfl) ?_
        refine wl_val (r_assign rfl) (ltn rfl) ?_
        refine wl_nil ?_
        refine wq_seq ?_
        refine wc_cond rfl (fun h4 => ?_) (fun h4 => ?_)
        · (try simp only [cmpS] at h4)
          have k3 := h4
          refine wc_region ?_
          refine wl_val (r_move rfl) (ltn rfl) ?_
          refine wl_val (r_fieldA 1 Tryz.underlying38 rfl rfl Tryz.sizeOf3 (by decide) rfl (by first | exact Nat.zero_add _ | rfl)) (ltn rfl) ?_
          refine wl_val (r_load (plain_of Tryz.underlying3 rfl) rfl (cell_of_blk (H1).get.2 rfl)) (ltn rfl) ?_
          refine wl_val (r_fieldA 2 Tryz.underlying38 rfl rfl Tryz.sizeOf3 (by decide) rfl (by first | exact Nat.zero_add _ | rfl)) (ltn rfl) ?_
          refine wl_val (r_load (plain_of Tryz.underlying3 rfl) rfl (cell_of_blk (H1).get.2 rfl)) (ltn rfl) ?_
          refine wl_val (r_fieldA 4 Tryz.underlying38 rfl rfl Tryz.sizeOf22 (by decide) rfl (by first | exact Nat.zero_add _ | rfl)) (ltn rfl) ?_
          refine wl_val (r_load (plain_of Tryz.underlying22 rfl) rfl (cell_of_blk (H1).get.2 rfl)) (ltn rfl) ?_
          refine wl_eff (e_call (r_call rfl Tryz.func47 rfl rfl) (ed_replace_ret H1.f2 (fun W HW => hr _ (HW.right)))) (ltn rfl) ?_
          rintro _ w5 ⟨rfl, H5⟩
          refine wl_nil ?_
          refine wq_block_normal ?_
          refine wq_end0 (.inr rfl) Tryz.results12 ?_
          exact (show s.edit p = s.replS p.a p.b p.text from by unfold EdS.edit; rw [if_neg n0, if_neg n1, if_neg n2, if_pos k3]) ▸ H5.f2.right
        · (try simp only [cmpS] at h4)
          have n3 := h4
          refine wc_seq ?_
          refine wc_region ?_
          refine wl_val (r_eql rfl rfl) (ltn rfl) ?_
          refine wl_val (r_assign rfl) (ltn rfl) ?_
          refine wl_nil ?_
          refine wq_seq ?_
          refine wc_cond rfl (fun h5 => ?_) (fun h5 => ?_)
          · (try simp only [cmpS] at h5)
            have k4 := h5
            refine wc_region ?_
            refine wl_val (r_move rfl) (ltn rfl) ?_
            refine wl_val (r_fieldA 1 Tryz.underlying38 rfl rfl Tryz.sizeOf3 (by decide) rfl (by first | exact Nat.zero_add _ | rfl)) (ltn rfl) ?_
            refine wl_val (r_load (plain_of Tryz.underlying3 rfl) rfl (cell_of_blk (H1).get.2 rfl)) (ltn rfl) ?_
            refine wl_val (r_fieldA 2 Tryz.underlying38 rfl rfl Tryz.sizeOf3 (by decide) rfl (by first | exact Nat.zero_add _ | rfl)) (ltn rfl) ?_
            refine wl_val (r_load (plain_of Tryz.underlying3 rfl) rfl (cell_of_blk (H1).get.2 rfl)) (ltn rfl) ?_
            refine wl_val (r_fieldA 3 Tryz.underlying38 rfl rfl Tryz.sizeOf4 (by decide) rfl (by first | exact Nat.zero_add _ | rfl)) (ltn rfl) ?_
            refine wl_val (r_load (plain_of Tryz.underlying4 rfl) rfl (cell_of_blk (H1).get.2 rfl)) (ltn rfl) ?_
            refine wl_eff (e_call (r_call rfl Tryz.func22 rfl rfl) (ed_kill_ret H1.f2)) (ltn rfl) ?_
            rintro _ w6 ⟨rfl, H6⟩
            refine wl_nil ?_
            refine wq_block_normal ?_
            refine wq_end0 (.inr rfl) Tryz.results12 ?_
            exact (show s.edit p = s.killS p.a p.b p.back from by unfold EdS.edit; rw [if_neg n0, if_neg n1, if_neg n2, if_neg n3, if_pos k4]) ▸ H6.f2.right
          · (try simp only [cmpS] at h5)
            have n4 := h5
            refine wc_seq ?_
            refine wc_region ?_
            refine wl_val (r_eql rfl rfl) (ltn rfl) ?_
            refine wl_val (r_assign rfl) (ltn rfl) ?_
            refine wl_nil ?_
            refine wq_seq ?_
            refine wc_cond rfl (fun h6 => ?_) (fun h6 => ?_)
            · (try simp only [cmpS] at h6)
              have k5 := h6
              refine wc_region ?_
              refine wl_val (r_move rfl) (ltn rfl) ?_
              refine wl_val (r_fieldA 1 Tryz.underlying38 rfl rfl Tryz.sizeOf3 (by decide) rfl (by first | exact Nat.zero_add _ | rfl)) (ltn rfl) ?_
              refine wl_val (r_load (plain_of Tryz.underlying3 rfl) rfl (cell_of_blk (H1).get.2 rfl)) (ltn rfl) ?_
              refine wl_val (r_fieldA 2 Tryz.underlying38 rfl rfl Tryz.sizeOf3 (by decide) rfl (by first | exact Nat.zero_add _ | rfl)) (ltn rfl) ?_
              refine wl_val (r_load (plain_of Tryz.underlying3 rfl) rfl (cell_of_blk (H1).get.2 rfl)) (ltn rfl) ?_
              refine wl_val (r_fieldA 3 Tryz.underlying38 rfl rfl Tryz.sizeOf4 (by decide) rfl (by first | exact Nat.zero_add _ | rfl)) (ltn rfl) ?_
              refine wl_val (r_load (plain_of Tryz.underlying4 rfl) rfl (cell_of_blk (H1).get.2 rfl)) (ltn rfl) ?_
              refine wl_eff (e_call (r_call rfl Tryz.func48 rfl rfl) (ed_copy_ret H1.f2)) (ltn rfl) ?_
              rintro _ w7 ⟨rfl, H7⟩
              refine wl_nil ?_
              refine wq_block_normal ?_
              refine wq_end0 (.inr rfl) Tryz.results12 ?_
              exact (show s.edit p = s.copyS p.a p.b p.back from by unfold EdS.edit; rw [if_neg n0, if_neg n1, if_neg n2, if_neg n3, if_neg n4, if_pos k5]) ▸ H7.f2.right
            · (try simp only [cmpS] at h6)
              have n5 := h6
              refine wc_seq ?_
              refine wc_region ?_
              refine wl_val (r_eql rfl rfl) (ltn rfl) ?_
              refine wl_val (r_assign rfl) (ltn rfl) ?_
              refine wl_nil ?_
              refine wq_seq ?_
              refine wc_cond rfl (fun h7 => ?_) (fun h7 => ?_)
              · (try simp only [cmpS] at h7)
                have k6 := h7
                refine wc_region ?_
                refine wl_val (r_move rfl) (ltn rfl) ?_
                refine wl_eff (e_call (r_call rfl Tryz.func23 rfl rfl) (ed_yank_ret H1.f2)) (ltn rfl) ?_
                rintro _ w8 ⟨rfl, H8⟩
                refine wl_nil ?_
                refine wq_block_normal ?_
                refine wq_end0 (.inr rfl) Tryz.results12 ?_
                exact (show s.edit p = s.yankS from by unfold EdS.edit; rw [if_neg n0, if_neg n1, if_neg n2, if_neg n3, if_neg n4, if_neg n5, if_pos k6]) ▸ H8.f2.right
              · (try simp only [cmpS] at h7)
                have n6 := h7
                refine wc_seq ?_
                refine wc_region ?_
                refine wl_val (r_eql rfl rfl) (ltn rfl) ?_
                refine wl_val (r_assign rfl) (ltn rfl) ?_
                refine wl_nil ?_
                refine wq_seq ?_
                refine wc_cond rfl (fun h8 => ?_) (fun h8 => ?_)
                · (try simp only [cmpS] at h8)
                  have k7 := h8
                  refine wc_region ?_
                  refine wl_val (r_move rfl) (ltn rfl) ?_
                  refine wl_val (r_fieldA 1 Tryz.underlying38 rfl rfl Tryz.sizeOf3 (by decide) rfl (by first | exact Nat.zero_add _ | rfl)) (ltn rfl) ?_
                  refine wl_val (r_load (plain_of Tryz.underlying3 rfl) rfl (cell_of_blk (H1).get.2 rfl)) (ltn rfl) ?_
                  refine wl_eff (e_call (r_call rfl Tryz.func24 rfl rfl) (ed_pop_ret H1.f2)) (ltn rfl) ?_
                  rintro _ w9 ⟨rfl, H9⟩
                  refine wl_nil ?_
                  refine wq_block_normal ?_
                  refine wq_end0 (.inr rfl) Tryz.results12 ?_
                  exact (show s.edit p = s.popS p.a from by unfold EdS.edit; rw [if_neg n0, if_neg n1, if_neg n2, if_neg n3, if_neg n4, if_neg n5, if_neg n6, if_pos k7]) ▸ H9.f2.right
                · (try simp only [cmpS] at h8)
                  have n7 := h8
                  refine wc_seq ?_
                  refine wc_region ?_
                  refine wl_val (r_eql rfl rfl) (ltn rfl) ?_
                  refine wl_val (r_assign rfl) (ltn rfl) ?_
                  refine wl_nil ?_
                  refine wq_seq ?_
                  refine wc_cond rfl (fun h9 => ?_) (fun h9 => ?_)
                  · (try simp only [cmpS] at h9)
                    have k8 := h9
                    refine wc_region ?_
                    refine wl_val (r_move rfl) (ltn rfl) ?_
                    refine wl_val (r_fieldA 1 Tryz.underlying38 rfl rfl Tryz.sizeOf3 (by decide) rfl (by first | exact Nat.zero_add _ | rfl)) (ltn rfl) ?_
                    refine wl_val (r_load (plain_of Tryz.underlying3 rfl) rfl (cell_of_blk (H1).get.2 rfl)) (ltn rfl) ?_
                    refine wl_eff (e_call (r_call rfl Tryz.func25 rfl rfl) (ed_move_ret H1.f2)) (ltn rfl) ?_
                    rintro _ w10 ⟨rfl, H10⟩
                    refine wl_nil ?_
                    refine wq_block_normal ?_
                    refine wq_end0 (.inr rfl) Tryz.results12 ?_
                    exact (show s.edit p = s.moveS p.a from by unfold EdS.edit; rw [if_neg n0, if_neg n1, if_neg n2, if_neg n3, if_neg n4, if_neg n5, if_neg n6, if_neg n7, if_pos k8]) ▸ H10.f2.right
                  · (try simp only [cmpS] at h9)
                    have n8 := h9
                    refine wc_seq ?_
                    refine wc_region ?_
                    refine wl_val (r_eql rfl rfl) (ltn rfl) ?_
                    refine wl_val (r_assign rfl) (ltn rfl) ?_
                    refine wl_nil ?_
                    refine wq_seq ?_
                    refine wc_cond rfl (fun h10 => ?_) (fun h10 => ?_)
                    · (try simp only [cmpS] at h10)
                      have k9 := h10
                      refine wc_region ?_
                      refine wl_val (r_move rfl) (ltn rfl) ?_
                      refine wl_val (r_fieldA 1 Tryz.underlying38 rfl rfl Tryz.sizeOf3 (by decide) rfl (by first | exact Nat.zero_add _ | rfl)) (ltn rfl) ?_
                      refine wl_val (r_load (plain_of Tryz.underlying3 rfl) rfl (cell_of_blk (H1).get.2 rfl)) (ltn rfl) ?_
                      refine wl_eff (e_call (r_call rfl Tryz.func49 rfl rfl) (ed_mark_ret H1.f2)) (ltn rfl) ?_
                      rintro _ w11 ⟨rfl, H11⟩
                      refine wl_nil ?_
                      refine wq_block_normal ?_
                      refine wq_end0 (.inr rfl) Tryz.results12 ?_
                      exact (show s.edit p = s.markS p.a from by unfold EdS.edit; rw [if_neg n0, if_neg n1, if_neg n2, if_neg n3, if_neg n4, if_neg n5, if_neg n6, if_neg n7, if_neg n8, if_pos k9]) ▸ H11.f2.right
                    · (try simp only [cmpS] at h10)
                      have n9 := h10
                      refine wc_seq ?_
                      refine wc_region ?_
                      refine wl_val (r_eql rfl rfl) (ltn rfl) ?_
                      refine wl_val (r_assign rfl) (ltn rfl) ?_
                      refine wl_nil ?_
                      refine wq_seq ?_
                      refine wc_cond rfl (fun h11 => ?_) (fun h11 => ?_)
                      · (try simp only [cmpS] at h11)
                        have k10 := h11
                        refine wc_region ?_
                        refine wl_val (r_move rfl) (ltn rfl) ?_
                        refine wl_eff (e_call (r_call rfl Tryz.func50 rfl rfl) (ed_swap_ret H1.f2)) (ltn rfl) ?_
                        rintro _ w12 ⟨rfl, H12⟩
                        refine wl_nil ?_
                        refine wq_block_normal ?_
                        refine wq_end0 (.inr rfl) Tryz.results12 ?_
                        exact (show s.edit p = s.swapS from by unfold EdS.edit; rw [if_neg n0, if_neg n1, if_neg n2, if_neg n3, if_neg n4, if_neg n5, if_neg n6, if_neg n7, if_neg n8, if_neg n9, if_pos k10]) ▸ H12.f2.right
                      · (try simp only [cmpS] at h11)
                        have n10 := h11
                        refine wc_seq ?_
                        refine wc_region ?_
                        refine wl_val (r_eql rfl rfl) (ltn rfl) ?_
                        refine wl_val (r_assign rfl) (ltn rfl) ?_
                        refine wl_nil ?_
                        refine wq_seq ?_
                        refine wc_cond rfl (fun h12 => ?_) (fun h12 => ?_)
                        · (try simp only [cmpS] at h12)
                          have k11 := h12
                          refine wc_region ?_
                          refine wl_val (r_move rfl) (ltn rfl) ?_
                          refine wl_eff (e_call (r_call rfl Tryz.func15 rfl rfl) (ed_undo_ret H1.f2)) (ltn rfl) ?_
                          rintro _ w13 ⟨rfl, H13⟩
                          refine wl_nil ?_
                          refine wq_block_normal ?_
                          refine wq_end0 (.inr rfl) Tryz.results12 ?_
                          exact (show s.edit p = s.undoS from by unfold EdS.edit; rw [if_neg n0, if_neg n1, if_neg n2, if_neg n3, if_neg n4, if_neg n5, if_neg n6, if_neg n7, if_neg n8, if_neg n9, if_neg n10, if_pos k11]) ▸ H13.f2.right
                        · (try simp only [cmpS] at h12)
                          have n11 := h12
                          refine wc_seq ?_
                          refine wc_region ?_
                          refine wl_val (r_eql rfl rfl) (ltn rfl) ?_
                          refine wl_val (r_assign rfl) (ltn rfl) ?_
                          refine wl_nil ?_
                          refine wq_seq ?_
                          refine wc_cond rfl (fun h => by exfalso; (try simp only [cmpS] at h); exact hk h) (fun h13 => ?_)
                          (try simp only [cmpS] at h13)
                          refine wc_seq ?_
                          refine wc_region ?_
                          refine wl_val (r_eql rfl rfl) (ltn rfl) ?_
                          refine wl_val (r_assign rfl) (ltn rfl) ?_
                          refine wl_nil ?_
                          refine wq_seq ?_
                          refine wc_cond rfl (fun h14 => ?_) (fun h14 => ?_)
                          · (try simp only [cmpS] at h14)
                            have k17 := h14
                            refine wc_region ?_
                            refine wl_val (r_move rfl) (ltn rfl) ?_
                            refine wl_val (r_fieldA 1 Tryz.underlying38 rfl rfl Tryz.sizeOf3 (by decide) rfl (by first | exact Nat.zero_add _ | rfl)) (ltn rfl) ?_
                            refine wl_val (r_load (plain_of Tryz.underlying3 rfl) rfl (cell_of_blk (H1).get.2 rfl)) (ltn rfl) ?_
                            refine wl_eff (e_call (r_call rfl Tryz.func28 rfl rfl) (ed_mode_ret H1.f2)) (ltn rfl) ?_
                            rintro _ w14 ⟨rfl, H14⟩
                            refine wl_nil ?_
                            refine wq_block_normal ?_
                            refine wq_end0 (.inr rfl) Tryz.results12 ?_
                            exact (show s.edit p = s.modeS p.a from by unfold EdS.edit; rw [if_neg n0, if_neg n1, if_neg n2, if_neg n3, if_neg n4, if_neg n5, if_neg n6, if_neg n7, if_neg n8, if_neg n9, if_neg n10, if_neg n11, if_pos k17]) ▸ H14.f2.right
                          · (try simp only [cmpS] at h14)
                            have n17 := h14
                            refine wc_skip ?_
                            refine wq_block_normal ?_
                            refine wq_end0 (.inr rfl) Tryz.results12 ?_
                            rw [show s.edit p = s from by unfold EdS.edit; rw [if_neg n0, if_neg n1, if_neg n2, if_neg n3, if_neg n4, if_neg n5, if_neg n6, if_neg n7, if_neg n8, if_neg n9, if_neg n10, if_neg n11, if_neg n17]]
                            exact H1.right
end
end Go.Proofs.YtgmpclifphbjkaaGreatDoor
end
section
/- Editors, plainly: what typing, a move, an undo come to. -/
set_option linter.unusedSimpArgs false
set_option linter.unusedVariables false
namespace Go.Proofs.YtgmpclifphbjkaaGreatDoor
open Go.RowKit
/-- An editor between commands: its line, its point, its groups, whether typing goes on with the last one. -/
structure Out (s : EdS) (L : List Int) (pt : Int) (G : List (List EdA)) (run : Bool) : Prop where
  inn : s.inn = false
  L : s.c.L = L
  pt : s.c.pt = pt
  G : s.c.un s.c.place = G
  run : s.c.run = run
  over : s.c.over = false
/-- .. and within a command that has noted nothing yet. -/
structure Inn (s : EdS) (L : List Int) (pt : Int) (G : List (List EdA)) (run : Bool) : Prop where
  inn : s.inn = true
  L : s.c.L = L
  pt : s.c.pt = pt
  G : s.c.un s.c.place = G
  run : s.c.run = run
  over : s.c.over = false
  put : s.put = []
  cls : s.cls = 0
  whole : s.whole = true
section
variable {s : EdS} {L : List Int} {pt : Int} {G : List (List EdA)} {run : Bool} {r : Int}
theorem Out.begin (h : Out s L pt G run) : Inn s.beginS L pt G run ∧ s.beginE = 0 := by
  unfold EdS.beginS EdS.beginE
  rw [if_neg (by rw [h.inn]; decide), if_neg (by rw [h.inn]; decide)]
  exact ⟨⟨rfl, h.L, h.pt, h.G, h.run, h.over, rfl, rfl, rfl⟩, rfl⟩
/-- The groups when x is typed. -/
def typeG (G : List (List EdA)) (run : Bool) (x : EdA) : List (List EdA) := if run then (match G.getLast? with | some g => G.dropLast ++ [g ++ [x]] | none => [[x]]) else G ++ [[x]]
theorem Inn.type_ (h : Inn s L pt G run) (h1 : 0 ≤ pt ∧ pt ≤ L.length) (h2 : L.length < 1024) (h3 : uTot G [] < 16384) :
    s.typeE [r] = 0 ∧ s.typeS [r] = { (s.setBuf (L.take pt.toNat ++ [r] ++ L.drop pt.toNat) (pt + 1) (replM L s.c.mark pt pt [r])) with put := [(pt, [], [r])], cls := 3 } := by
  have hto : s.typeTo [r] = pt := by unfold EdS.typeTo; rw [h.over]; exact h.pt
  have hE : replE L pt pt [r] = 0 := by unfold replE; rw [if_neg (by omega), if_neg (by simp; omega)]
  have hE' : s.replEd s.c.pt (s.typeTo [r]) [r] = 0 := by unfold EdS.replEd; rw [if_pos h.inn, hto, h.pt, h.L]; exact hE
  have hP : replP L pt pt pt [r] = pt + 1 := by unfold replP movedP; rw [if_pos hE, if_neg (by omega), if_pos (by omega)]; rfl
  have hD : replD L pt pt [r] = [] := by unfold replD; rw [if_pos hE]; simp
  have hI : replI L pt pt [r] = [r] := by unfold replI; rw [if_pos hE]
  have hA : replA L pt pt [r] = pt := by unfold replA; rw [if_pos hE]
  have hL : replL L pt pt [r] = L.take pt.toNat ++ [r] ++ L.drop pt.toNat := by unfold replL; rw [if_pos hE]
  have hS : s.replS s.c.pt (s.typeTo [r]) [r] = { (s.setBuf (L.take pt.toNat ++ [r] ++ L.drop pt.toNat) (pt + 1) (replM L s.c.mark pt pt [r])) with put := [(pt, [], [r])] } := by
    unfold EdS.replS
    rw [if_pos h.inn, hto, h.pt, h.L, hP, hD, hI, hA, hL]
    unfold EdS.noteS
    rw [if_neg (by simp), if_neg (by
      show ¬ 16384 ≤ uTot (s.c.un s.c.place) s.put
      rw [h.G, h.put]; omega)]
    show _ = _
    unfold EdS.setBuf
    simp only [h.put, List.nil_append]
  refine ⟨hE', ?_⟩
  unfold EdS.typeS
  rw [if_pos h.inn]
  dsimp only
  rw [if_pos ⟨hE', h.cls⟩, hS]
theorem end0_L (u : EdS) (h : u.inn = true) : (u.endS 0).c.L = u.c.L := by by_cases ha : u.argues = true <;> by_cases hp : u.put = [] <;> by_cases hc : u.cls = 2 <;> simp [EdS.endS, EdS.endGood, EdS.endArg, EdS.flushS, EdS.noArg, EdS.setUn, EdS.flushG, EdS.here, updF_same, ha, hp, hc, h]
theorem end0_pt (u : EdS) (h : u.inn = true) : (u.endS 0).c.pt = u.c.pt := by by_cases ha : u.argues = true <;> by_cases hp : u.put = [] <;> by_cases hc : u.cls = 2 <;> simp [EdS.endS, EdS.endGood, EdS.endArg, EdS.flushS, EdS.noArg, EdS.setUn, EdS.flushG, EdS.here, updF_same, ha, hp, hc, h]
theorem end0_E (u : EdS) (h : u.inn = true) : (u.endS 0).c.E = u.c.E := by by_cases ha : u.argues = true <;> by_cases hp : u.put = [] <;> by_cases hc : u.cls = 2 <;> simp [EdS.endS, EdS.endGood, EdS.endArg, EdS.flushS, EdS.noArg, EdS.setUn, EdS.flushG, EdS.here, updF_same, ha, hp, hc, h]
theorem end0_at (u : EdS) (h : u.inn = true) : (u.endS 0).c.at_ = u.c.at_ := by by_cases ha : u.argues = true <;> by_cases hp : u.put = [] <;> by_cases hc : u.cls = 2 <;> simp [EdS.endS, EdS.endGood, EdS.endArg, EdS.flushS, EdS.noArg, EdS.setUn, EdS.flushG, EdS.here, updF_same, ha, hp, hc, h]
theorem end0_over (u : EdS) (h : u.inn = true) : (u.endS 0).c.over = u.c.over := by by_cases ha : u.argues = true <;> by_cases hp : u.put = [] <;> by_cases hc : u.cls = 2 <;> simp [EdS.endS, EdS.endGood, EdS.endArg, EdS.flushS, EdS.noArg, EdS.setUn, EdS.flushG, EdS.here, updF_same, ha, hp, hc, h]
theorem end0_inn (u : EdS) (h : u.inn = true) : (u.endS 0).inn = false := by by_cases ha : u.argues = true <;> by_cases hp : u.put = [] <;> by_cases hc : u.cls = 2 <;> simp [EdS.endS, EdS.endGood, EdS.endArg, EdS.flushS, EdS.noArg, EdS.setUn, EdS.flushG, EdS.here, updF_same, ha, hp, hc, h]
theorem end0_last (u : EdS) (h : u.inn = true) : (u.endS 0).c.last = u.cls := by by_cases ha : u.argues = true <;> by_cases hp : u.put = [] <;> by_cases hc : u.cls = 2 <;> simp [EdS.endS, EdS.endGood, EdS.endArg, EdS.flushS, EdS.noArg, EdS.setUn, EdS.flushG, EdS.here, updF_same, ha, hp, hc, h]
theorem end0_run (u : EdS) (h : u.inn = true) : (u.endS 0).c.run = (u.typed && (!u.put.isEmpty || u.c.run)) := by by_cases ha : u.argues = true <;> by_cases hp : u.put = [] <;> by_cases hc : u.cls = 2 <;> simp [EdS.endS, EdS.endGood, EdS.endArg, EdS.flushS, EdS.noArg, EdS.setUn, EdS.flushG, EdS.here, updF_same, ha, hp, hc, h]
theorem end0_un (u : EdS) (h : u.inn = true) : (u.endS 0).c.un (u.endS 0).c.place = u.flushG (u.typed && u.c.run) := by by_cases ha : u.argues = true <;> by_cases hp : u.put = [] <;> by_cases hc : u.cls = 2 <;> simp [EdS.endS, EdS.endGood, EdS.endArg, EdS.flushS, EdS.noArg, EdS.setUn, EdS.flushG, EdS.here, updF_same, ha, hp, hc, h]
theorem Inn.typed (h : Inn s L pt G run) (h1 : 0 ≤ pt ∧ pt ≤ L.length) (h2 : L.length < 1024) (h3 : uTot G [] < 16384) :
    Out ((s.typeS [r]).endS 0) (L.take pt.toNat ++ [r] ++ L.drop pt.toNat) (pt + 1) (typeG G run (pt, [], [r])) true ∧ (s.typeS [r]).endE 0 = 0 := by
  obtain ⟨_, e⟩ := h.type_ (r := r) h1 h2 h3
  have hu : (s.typeS [r]).inn = true := by rw [e]; exact h.inn
  have hT : (s.typeS [r]).typed = true := by rw [e]; show (((3 : Int) == 3) && s.whole) = true; rw [h.whole]; rfl
  have hp : (s.typeS [r]).put = [(pt, [], [r])] := by rw [e]
  have hr : (s.typeS [r]).c.run = run := by rw [e]; exact h.run
  have hh : (s.typeS [r]).here = G := by rw [e]; exact h.G
  refine ⟨⟨end0_inn _ hu, (end0_L _ hu).trans (by rw [e]; rfl), (end0_pt _ hu).trans (by rw [e]; rfl), ?_, ?_, (end0_over _ hu).trans (by rw [e]; exact h.over)⟩, by unfold EdS.endE; rw [if_pos hu]⟩
  · rw [end0_un _ hu, hT, hr, Bool.true_and]
    unfold EdS.flushG typeG
    rw [if_neg (by rw [hp]; simp), hp, hh] <;> rfl
  · rw [end0_run _ hu, hT, hp]; rfl
/-- One rune typed, as a command. -/
def typeR (s : EdS) (r : Int) : EdS := (s.beginS.typeS [r]).endS (s.beginS.typeE [r])
theorem Out.typeR (h : Out s L pt G run) (h1 : 0 ≤ pt ∧ pt ≤ L.length) (h2 : L.length < 1024) (h3 : uTot G [] < 16384) :
    Out (typeR s r) (L.take pt.toNat ++ [r] ++ L.drop pt.toNat) (pt + 1) (typeG G run (pt, [], [r])) true := by
  unfold Go.Proofs.YtgmpclifphbjkaaGreatDoor.typeR
  rw [(h.begin.1.type_ (r := r) h1 h2 h3).1]
  exact (h.begin.1.typed h1 h2 h3).1
theorem end_quiet (hi : s.inn = true) (hL : s.c.L = L) (hpt : s.c.pt = pt) (hG : s.here = G) (ho : s.c.over = false) (hp : s.put = []) (hc : s.cls = 0) : Out (s.endS 0) L pt G false := by
  have hT : s.typed = false := by unfold EdS.typed; rw [hc]; rfl
  refine ⟨end0_inn _ hi, (end0_L _ hi).trans hL, (end0_pt _ hi).trans hpt, ?_, ?_, (end0_over _ hi).trans ho⟩
  · rw [end0_un _ hi]; unfold EdS.flushG; rw [if_pos hp]; exact hG
  · rw [end0_run _ hi, hT]; rfl
theorem Inn.end_ (h : Inn s L pt G run) : Out (s.endS 0) L pt G false := end_quiet h.inn h.L h.pt h.G h.over h.put h.cls
theorem Out.move (h : Out s L pt G run) (x : Int) (hx : 0 ≤ x ∧ x ≤ L.length) : Out ((s.beginS.moveS x).endS 0) L x G false := by
  have hb := h.begin.1
  refine Inn.end_ (s := s.beginS.moveS x) (run := run) ?_
  unfold EdS.moveS
  rw [if_pos hb.inn]
  refine ⟨hb.inn, hb.L, ?_, hb.G, hb.run, hb.over, hb.put, hb.cls, hb.whole⟩
  show mvP s.beginS.c.L.length s.beginS.c.pt x = x
  unfold mvP
  rw [if_pos (by rw [hb.L]; omega)]
end
end Go.Proofs.YtgmpclifphbjkaaGreatDoor
end
