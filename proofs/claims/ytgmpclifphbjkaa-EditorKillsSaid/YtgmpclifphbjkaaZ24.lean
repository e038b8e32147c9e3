import Derived.Test.YtgmpclifphbjkaaZ23
import Derived.Test.YtgmpclifphbjkaaZ11
/- Texts of mine, joined: EdU Owns EdS. -/
section
/- Editors: Undo, Revert. -/
set_option linter.unusedSimpArgs false
set_option linter.unusedVariables false
namespace Go.Proofs.Ytgmpclifphbjkaa
open Go.RowKit
theorem undoE_nil (G : List (List EdA)) : undoE G [] = if G = [] then 6 else 0 := by unfold undoE; cases G <;> simp
theorem undoR_some {G : List (List EdA)} (h : G ≠ []) : undoR G [] = (G.getLastD []).reverse.map invA := by
  unfold undoR closeG
  rw [if_neg (by cases G <;> simp_all), if_pos rfl]
theorem sub_ok {s : EdS} (h : EdSOk s) {G : List (List EdA)} (h1 : uTot G s.put ≤ uTot s.here s.put) (h2 : ∀ g ∈ G, g ∈ s.here) : EdSOk (s.setUn G) := by
  obtain ⟨a1, a2, a3, a4, a5, a6⟩ := h
  refine ⟨a1, a2, a3, a4, ?_, ?_⟩
  · show uTot (updF s.c.un s.c.place G s.c.place) s.put ≤ 16384
    rw [updF_same]; omega
  · intro k g hg
    have hg' : g ∈ updF s.c.un s.c.place G k := hg
    by_cases hk : k = s.c.place
    · subst hk; rw [updF_same] at hg'; exact a6 _ g (h2 g hg')
    · rw [updF_not _ _ hk] at hg'; exact a6 k g hg'
theorem uTot_drop (G : List (List EdA)) (N : List EdA) : uTot G.dropLast N ≤ uTot G N := by
  by_cases h : G = []
  · subst h; exact Nat.le_refl _
  · have := dropLast_sum h
    unfold uTot; omega
theorem uTot_zero (G : List (List EdA)) (N : List EdA) : uTot [] N ≤ uTot G N := by unfold uTot; simp
theorem setUn_same {s : EdS} : s.setUn s.here = s := by unfold EdS.setUn EdS.here; rw [updF_id]
theorem apps_snoc (b : List Int × Int × Int) (l : List EdA) (x : EdA) : EdS.apps b (l ++ [x]) = EdS.app1 (EdS.apps b l) x := by unfold EdS.apps; rw [List.foldl_append]; rfl
section
variable {w0 w : World} {F : HP} {e p : Nat} {s : EdS} {x : Int}
theorem ed_undo_ret (H : Holds w0 w (EdRep e s • F)) : Ret Try.prog 15 #[.pointer (some ⟨e, 0, none⟩)] w fun v w' => v = .int .i64 s.undoE ∧ Holds w0 w' (EdRep e s.undoS • F) := by
  refine ret_enter Try.func15 rfl Try.ntmps15 (Nat.le_of_ble_eq_true rfl) ?_
  dsimp only [slots0, Nat.reduceAdd]
  refine wc_seq ?_
  refine wc_region ?_
  refine wl_val (r_assign rfl) (ltn rfl) ?_
  refine wl_nil ?_
  refine wq_seq ?_
  refine wc_seq ?_
  refine wc_seq ?_
  refine wc_region ?_
  refine wl_val (r_move rfl) (ltn rfl) ?_
  refine wl_eff (e_call (r_call rfl Try.func25 rfl rfl) (ed_part_ret H)) (ltn rfl) ?_
  rintro _ _ ⟨rfl, rfl⟩
  refine wl_val (r_assign rfl) (ltn rfl) ?_
  refine wl_nil ?_
  refine wq_seq ?_
  refine wc_seq ?_
  refine wc_region ?_
  refine wl_val (r_move rfl) (ltn rfl) ?_
  refine wl_val (r_neq rfl rfl) (ltn rfl) ?_
  refine wl_nil ?_
  refine wq_seq ?_
  refine wc_cond rfl (fun h1 => ?_) (fun h1 => ?_)
  · (try simp only [cmpS] at h1)
    obtain ⟨hin, hpe⟩ := part_no h1
    refine wc_seq ?_
    refine wc_region ?_
    refine wl_val (r_move rfl) (ltn rfl) ?_
    refine wl_val (r_assign rfl) (ltn rfl) ?_
    refine wl_nil ?_
    refine wq_seq ?_
    refine wc_ret ?_
    refine wq_then_ret ?_
    refine wq_end1 (.inl rfl) Try.results15 rfl ?_
    rw [hpe]
    exact ⟨by simp [EdS.undoE, EdS.undoS, hin], by rw [show s.undoS = s from by simp [EdS.undoE, EdS.undoS, hin]]; exact H⟩
  · (try simp only [cmpS] at h1)
    have hin := part_yes h1
    refine wc_skip ?_
    refine wq_seq ?_
    refine wc_seq ?_
    refine wc_region ?_
    refine wl_val (r_move rfl) (ltn rfl) ?_
    refine wl_eff (e_call (r_call rfl Try.func27 rfl rfl) (ed_flush_ret H)) (ltn rfl) ?_
    rintro _ w2 H2
    obtain ⟨t, ht, HT⟩ : ∃ t, s.flushS false = t ∧ Holds w0 w2 (EdRep e t • F) := ⟨_, rfl, H2⟩
    obtain ⟨pb_e, pr_e, pw_e, pt_e, pm_e, ph_e, bl_e, pv_e, es_e, u0_e, u1_e, u2_e, u3_e, u4_e, u5_e, u6_e, u7_e, u8_e, u9_e, ua_e, ok_e, says_e, plen_e, HE_e⟩ := (HT).edO
    refine wl_nil ?_
    refine wq_seq ?_
    refine wc_seq ?_
    refine wc_region ?_
    refine wl_val (r_move rfl) (ltn rfl) ?_
    refine wl_eff (e_call (r_call rfl Try.func33 rfl rfl) (ed_list_ret HE_e.f6.f5.f3)) (ltn rfl) ?_
    rintro _ w4 ⟨lp4, rfl, H4⟩
    refine wl_eff (e_call (r_call rfl Try.func34 rfl rfl) (undo_undo_ret H4)) (ltn rfl) ?_
    rintro _ w5 ⟨u5, fs5, rfl, hfs5, H5⟩
    obtain ⟨h9a, h9b, h9c⟩ := undo_drop (t.c.un t.c.place)
    have HX := H5
    rw [h9a, h9b, h9c] at HX
    rw [undoE_nil]
    obtain ⟨uu, rfl⟩ : ∃ q, q = u5 := ⟨_, rfl⟩
    obtain ⟨fs, rfl⟩ : ∃ q, q = fs5 := ⟨_, rfl⟩
    have hfs := hfs5
    have Ho6 := HX.f2.f2
    have Hc7 := Ho6
    have Ho8 := Hc7.f3.f4
    have Hc9 := Holds.mk_unhole Ho8
    refine wl_val (r_move rfl) (ltn rfl) ?_
    refine wl_val (r_extract rfl rfl) (ltn rfl) ?_
    refine wl_val (r_extract rfl rfl) (ltn rfl) ?_
    refine wl_val (r_assign rfl) (ltn rfl) ?_
    refine wl_val (r_assign rfl) (ltn rfl) ?_
    refine wl_nil ?_
    refine wq_seq ?_
    refine wc_seq ?_
    refine wc_seq ?_
    refine wc_region ?_
    refine wl_val (r_move rfl) (ltn rfl) ?_
    refine wl_val (r_neq rfl rfl) (ltn rfl) ?_
    refine wl_nil ?_
    refine wq_seq ?_
    refine wc_cond rfl (fun h2 => ?_) (fun h2 => ?_)
    · (try simp only [cmpS] at h2)
      have h0 : t.here = [] := by by_cases hx : t.here = []; exact hx; exact absurd (if_neg hx) h2
      refine wc_seq ?_
      refine wc_region ?_
      refine wl_val (r_move rfl) (ltn rfl) ?_
      refine wl_val (r_assign rfl) (ltn rfl) ?_
      refine wl_nil ?_
      refine wq_seq ?_
      refine wc_ret ?_
      refine wq_then_ret ?_
      refine wq_end1 (.inl rfl) Try.results15 rfl ?_
      have hE : s.undoE = 6 := by unfold EdS.undoE; rw [if_pos hin, ht, if_pos h0]
      have hS : s.undoS = t.setUn t.here.dropLast := by unfold EdS.undoS; rw [if_pos hin]; dsimp only; rw [ht, if_pos h0, h0]; exact (h0 ▸ setUn_same).symm
      exact ⟨by rw [hE]; show Value.int _ (if t.c.un t.c.place = [] then 6 else 0) = _; rw [if_pos (show t.c.un t.c.place = [] from h0)], by rw [hS]; exact Holds.mk_ed (s := t.setUn t.here.dropLast) (sub_ok ok_e (uTot_drop _ _) (fun g hg => List.dropLast_subset _ hg)) says_e Hc9.f2.right.f2.right.f11.f11.f11.f11.f11.f6.f11.f9.f11.f11.f11⟩
    · (try simp only [cmpS] at h2)
      have h0 : ¬ t.here = [] := fun hx => by rw [if_pos (show t.c.un t.c.place = [] from hx)] at h2; exact absurd h2 (by decide)
      refine wc_skip ?_
      refine wq_seq ?_
      refine wc_seq ?_
      refine wc_seq ?_
      have hfs2 : fs.map BEd.says = (t.here.getLastD []).reverse.map invA := hfs.trans (undoR_some h0)
      have hfl : fs.length ≤ 16384 := by
        have h9 := congrArg List.length hfs2
        rw [List.length_map, List.length_map, List.length_reverse] at h9
        have h8 := dropLast_sum h0
        have h7 : uTot t.here t.put ≤ 16384 := ok_e.2.2.2.2.1
        unfold uTot at h7
        omega
      refine wc_region ?_
      refine wl_val (r_move rfl) (ltn rfl) ?_
      refine wl_val (r_lenS ((Hc9.f2).row_rd) Try.underlying67 rfl) (ltn rfl) ?_
      refine wl_val (r_move rfl) (ltn rfl) ?_
      refine wl_nil ?_
      refine wq_seq ?_
      refine wc_block ?_
      obtain ⟨R10, hR10, HR10⟩ := Holds.hide4 (Hc9.f4.f4.f4.f6)
      refine wc_loop [(0, _), (24, _), (25, _)] (fun (i : Nat) => [(26, .int .i64 (i : Int))]) (fun (i : Nat) W => i ≤ fs.length ∧ Holds w0 W (BufRep pb_e (EdS.apps (t.c.L, t.c.pt, t.c.mark) ((fs.take i).map BEd.says)).1 (EdS.apps (t.c.L, t.c.pt, t.c.mark) ((fs.take i).map BEd.says)).2.1 (EdS.apps (t.c.L, t.c.pt, t.c.mark) ((fs.take i).map BEd.says)).2.2 • Row 82 3 uu fs.length (fs.flatMap BEd.enc) • edsK fs • blk e (.cells (.pointer (some ⟨pb_e, 0, none⟩) :: .pointer (some ⟨pr_e, 0, none⟩) :: .pointer (some ⟨pw_e, 0, none⟩) :: .map (some pm_e) :: .int .i64 t.c.mode :: .bool t.c.over :: .int .i64 t.c.last :: .int .i64 t.c.fr :: .int .i64 t.c.to :: .int .i64 t.c.res :: .bool t.c.run :: .pointer (some ⟨ph_e, 0, none⟩) :: .pointer (some ⟨bl_e, 0, none⟩) :: .bool t.given :: .bool t.minus :: .int .i64 t.arg :: .bool t.inn :: u0_e :: u1_e :: u2_e :: u3_e :: u4_e :: u5_e :: u6_e :: u7_e :: u8_e :: u9_e :: ua_e :: .int .i64 t.cls :: .bool t.killed :: .bool t.yanked :: .bool t.argues :: .bool t.whole :: pv_e :: []).toArray 69 (0, 0)) • R10)) (fun (i : Nat) => fs.length - i) (0) (Sub.cons rfl (Sub.cons rfl (Sub.cons rfl (Sub.nil _)))) (Sub.cons rfl (Sub.nil _)) ⟨by omega, HR10⟩ ?_
      rintro i w11 ⟨hi, HL⟩
      dsimp only [List.cons_append, List.nil_append]
      refine wc_seq ?_
      refine wc_region ?_
      refine wl_val (r_lss rfl rfl) (ltn rfl) ?_
      refine wl_nil ?_
      refine wq_seq ?_
      refine wc_seq ?_
      refine wc_cond rfl (fun h3 => ?_) (fun h3 => ?_)
      · (try simp only [cmpS] at h3)
        
        refine wc_skip ?_
        refine wq_seq ?_
        refine wc_seq ?_
        refine wc_block ?_
        refine wc_seq ?_
        refine wc_region ?_
        obtain ⟨buu, ouu, cuu, euu⟩ := Rd.posV ((HL.f2).row_rd) (by omega)
        cases euu
        refine wl_val (r_index Try.underlying67 Try.sizeOf82 rfl rfl (by omega)) (ltn rfl) ?_
        refine wl_val (r_load_elem (ys := [_, _, _]) ((HL.f2).row_rd) (by omega) Try.underlying82 rfl Try.sizeOf82 rfl (flat_elem BEd.enc_len (by omega) default) rfl) (ltn rfl) ?_
        have hkl : i < fs.length := by omega
        refine wl_eff (e_allocL (l := [_, _, _]) HL Try.zeroValue82 rfl) (ltn rfl) ?_
        rintro _ w12 ⟨b12, rfl, H12⟩
        refine wl_eff0 (e_storePL 0 (l' := [_, _, _]) (us := [_, _, _]) H12 Try.sizeOf82 rfl rfl rfl (ones_cons (by first | rfl | assumption) (ones_cons (by first | rfl | exact Rd.one (((H12.f4).edsK_ii hkl).1)) (ones_cons (by first | rfl | exact Rd.one (((H12.f4).edsK_ii hkl).2)) ones_nil))) rfl rfl) ?_
        rintro _ w13 H13
        refine wl_nil ?_
        refine wq_seq ?_
        have H11d13 := H13.drew
        have hS11d13 := Holds.kp (H11d13.f5.f5.f5.f5.f5)
        refine wd_beginK [4, 5] hS11d13 (by kernel_rfl) (by kernel_rfl) rfl ?_
        refine wd_takeT 0 rfl (by kernel_rfl) (by kernel_rfl) hS11d13 (fun _ => r_move rfl) (ltn rfl) ?_
        refine wd_takeT 1 rfl (by kernel_rfl) (by kernel_rfl) hS11d13 (fun _ => r_nil rfl) (ltn rfl) ?_
        refine wd_takeT 2 rfl (by kernel_rfl) (by kernel_rfl) hS11d13 (fun _ => r_fieldA 0 Try.underlying69 rfl rfl Try.sizeOf66 (by decide) rfl (by first | exact Nat.zero_add _ | rfl)) (ltn rfl) ?_
        refine wd_takeT 3 rfl (by kernel_rfl) (by kernel_rfl) hS11d13 (fun _ => r_fieldA 0 Try.underlying66 rfl rfl Try.sizeOf61 (by decide) rfl (by first | exact Nat.zero_add _ | rfl)) (ltn rfl) ?_
        refine wd_take 4 rfl (by kernel_rfl) (by kernel_rfl) hS11d13 (by decide) (fun W hW => r_load (plain_of Try.underlying61 rfl) rfl (cell_of_blk ((Kp.h hW).f5).get.2 rfl)) (ltn rfl) ?_
        refine wd_take 5 rfl (by kernel_rfl) (by kernel_rfl) hS11d13 (by decide) (fun W hW => r_load_whole Try.underlying82 rfl Try.sizeOf82 rfl rfl ((Kp.h hW)).get.2) (ltn rfl) ?_
        refine wd_eff 6 rfl (by kernel_rfl) (e_call (r_call rfl Try.func35 rfl rfl) (buf_apply_ret H11d13.f2 (fun W HW => ((HW.f3).edsK_ii hkl).1) (fun W HW => ((HW.f3).edsK_ii hkl).2))) (ltn rfl) ?_
        rintro _ w14 ⟨rfl, H14⟩
        have hS14n := Holds.kp (H14.f5.f5.f5.f5.f5)
        refine keepX hS14n (by kernel_rfl) ?_
        refine wd_done (by kernel_rfl) ?_
        refine wq_block_normal ?_
        refine wq_seq ?_
        refine wc_region ?_
        refine wl_val (r_add rfl rfl (by omega)) (ltn rfl) ?_
        refine wl_val (r_move rfl) (ltn rfl) ?_
        refine wl_nil ?_
        refine wq_round (i + 1) ?_ ?_ ?_ ?_
        · exact (Sub.cons rfl (Sub.nil _))
        · exact (Sub.cons rfl (Sub.cons rfl (Sub.cons rfl (Sub.nil _))))
        · (try dsimp only)
          first | done | exact ⟨by omega, by rw [getD_says hkl, apps_snoc]; exact H14.f2.right.f4.f4.f4.f4⟩
        · (try dsimp only); omega
      · (try simp only [cmpS] at h3)
        
        refine wc_exit ?_
        refine wq_then_exit ?_
        have hil : i = fs.length := by omega
        have HB := HL
        rw [hil, List.take_length] at HB
        subst hR10
        refine wq_then_exit ?_
        refine wq_block_hit ?_
        refine wq_seq ?_
        refine wc_seq ?_
        refine wc_region ?_
        refine wl_val (r_move rfl) (ltn rfl) ?_
        refine wl_val (r_move rfl) (ltn rfl) ?_
        refine wl_val (r_nil rfl) (ltn rfl) ?_
        refine wl_val (r_fieldA 32 Try.underlying69 rfl rfl Try.sizeOf4 (by decide) rfl (by first | exact Nat.zero_add _ | rfl)) (ltn rfl) ?_
        refine wl_eff0 (e_storeL 32 (l' := [_, _, _, _, _, _, _, _, _, _, _, _, _, _, _, _, _, _, _, _, _, _, _, _, _, _, _, _, _, _, _, _, _, _]) HB.f4 Try.sizeOf4 rfl rfl (by first | rfl | assumption) rfl rfl) ?_
        rintro _ w15 H15
        refine wl_val (r_nil rfl) (ltn rfl) ?_
        refine wl_val (r_fieldA 0 Try.underlying69 rfl rfl Try.sizeOf66 (by decide) rfl (by first | exact Nat.zero_add _ | rfl)) (ltn rfl) ?_
        refine wl_val (r_fieldA 10 Try.underlying66 rfl rfl Try.sizeOf4 (by decide) rfl (by first | exact Nat.zero_add _ | rfl)) (ltn rfl) ?_
        refine wl_eff0 (e_storeL 10 (l' := [_, _, _, _, _, _, _, _, _, _, _, _, _, _, _, _, _, _, _, _, _, _, _, _, _, _, _, _, _, _, _, _, _, _]) H15 Try.sizeOf4 rfl rfl (by first | rfl | assumption) rfl rfl) ?_
        rintro _ w16 H16
        refine wl_nil ?_
        refine wq_seq ?_
        refine wc_seq ?_
        refine wc_region ?_
        refine wl_val (r_assign rfl) (ltn rfl) ?_
        refine wl_nil ?_
        refine wq_seq ?_
        refine wc_ret ?_
        refine wq_end1 (.inl rfl) Try.results15 rfl ?_
        rw [hfs2] at H16
        have hE : s.undoE = 0 := by unfold EdS.undoE; rw [if_pos hin, ht, if_neg h0]
        have hS : s.undoS = ((t.setUn t.here.dropLast).appsS ((t.here.getLastD []).reverse.map invA)).unWhole := by unfold EdS.undoS; rw [if_pos hin]; dsimp only; rw [ht, if_neg h0]
        exact ⟨by rw [hE], by rw [hS]; exact Holds.mk_ed (s := ((t.setUn t.here.dropLast).appsS ((t.here.getLastD []).reverse.map invA)).unWhole) (sub_ok ok_e (uTot_drop _ _) (fun g hg => List.dropLast_subset _ hg)) says_e H16.f3.right.f3.right.f11.f11.f11.f11.f11.f8.f11.f10.f11.f11.f11⟩
end
end Go.Proofs.Ytgmpclifphbjkaa
end
section
/- Many slices of one's own. -/
set_option linter.unusedSimpArgs false
set_option linter.unusedVariables false
namespace Go.Proofs.Ytgmpclifphbjkaa
open Go.RowKit
/-- Each of these slices is one's own. -/
def Owns (e : TypeId) (k : IntKind) : List Value → List (List Int) → HP
  | [], [] => emp
  | v :: vs, l :: ls => RowI e k v l • Owns e k vs ls
  | _, _ => fact False
section
variable {w0 w : World} {F : HP} {e : TypeId} {k : IntKind} {v : Value} {l : List Int}
theorem Holds.owns_nil (H : Holds w0 w F) : Holds w0 w (Owns e k [] [] • F) := H.add_emp
theorem Holds.owns_len : ∀ {vs : List Value} {ls : List (List Int)} {F : HP}, Holds w0 w (Owns e k vs ls • F) → vs.length = ls.length
  | [], [], _, _ => rfl
  | v :: vs, l :: ls, _, H => by simpa using Holds.owns_len (Holds.right (Holds.flat H))
  | [], _ :: _, _, H => absurd H.fact.1 id
  | _ :: _, [], _, H => absurd H.fact.1 id
theorem owns_snoc : ∀ (vs : List Value) (ls : List (List Int)), (Owns e k vs ls • RowI e k v l) = Owns e k (vs ++ [v]) (ls ++ [l])
  | [], [] => by show (emp • RowI e k v l) = (RowI e k v l • emp); rw [sep_comm]
  | u :: vs, m :: ls => by
    show ((RowI e k u m • Owns e k vs ls) • RowI e k v l) = (RowI e k u m • Owns e k (vs ++ [v]) (ls ++ [l]))
    rw [sep_assoc, owns_snoc vs ls]
  | [], m :: ls => by
    apply HP.ext; funext I h; apply propext
    constructor
    · intro hp; exact absurd ((fact_sep _ _ _ _).1 hp).1 id
    · intro hp
      cases ls with
      | nil => exact absurd (show False by obtain ⟨_, _, _, _, _, hb⟩ := hp; exact hb.1) id
      | cons x y => exact absurd (show False by obtain ⟨_, _, _, _, _, hb⟩ := hp; exact hb.1) id
  | u :: vs, [] => by
    apply HP.ext; funext I h; apply propext
    constructor
    · intro hp; exact absurd ((fact_sep _ _ _ _).1 hp).1 id
    · intro hp
      cases vs with
      | nil => exact absurd (show False by obtain ⟨_, _, _, _, _, hb⟩ := hp; exact hb.1) id
      | cons x y => exact absurd (show False by obtain ⟨_, _, _, _, _, hb⟩ := hp; exact hb.1) id
theorem Holds.owns_snoc {vs : List Value} {ls : List (List Int)} (H : Holds w0 w (Owns e k vs ls • RowI e k v l • F)) : Holds w0 w (Owns e k (vs ++ [v]) (ls ++ [l]) • F) := H.deep.of_eq (by rw [Go.Proofs.Ytgmpclifphbjkaa.owns_snoc])
/-- Number j is taken out, and put back, turned. -/
theorem Holds.owns_take : ∀ {vs : List Value} {ls : List (List Int)} {F : HP} {j : Nat}, Holds w0 w (Owns e k vs ls • F) → j < ls.length →
    ∃ R : HP, Holds w0 w (RowI e k (vs.getD j undef) (ls.getD j []) • R • F) ∧ ∀ l' w' F', Holds w0 w' (RowI e k (vs.getD j undef) l' • R • F') → Holds w0 w' (Owns e k vs (ls.set j l') • F')
  | [], [], _, j, _, hj => by simp at hj
  | v :: vs, l :: ls, F, 0, H, _ => ⟨Owns e k vs ls, H.flat, fun l' w' F' H' => H'.deep⟩
  | v :: vs, l :: ls, F, j + 1, H, hj => by
    obtain ⟨R, h1, h2⟩ := Holds.owns_take (j := j) H.flat.swap (by simpa using hj)
    refine ⟨R • RowI e k v l, by simpa [sep_assoc] using h1, fun l' w' F' H' => ?_⟩
    have := h2 l' w' (RowI e k v l • F') (H'.of_eq (by simp only [List.getD_cons_succ]; ac_rfl))
    exact this.swap.deep
  | [], _ :: _, _, _, H, _ => absurd H.fact.1 id
  | _ :: _, [], _, _, H, _ => absurd H.fact.1 id
theorem Holds.owns_rd {vs : List Value} {ls : List (List Int)} {j : Nat} (H : Holds w0 w (Owns e k vs ls • F)) (hj : j < ls.length) : RdI w k (vs.getD j undef) (ls.getD j []) := by
  obtain ⟨R, h, _⟩ := H.owns_take hj
  exact h.row_rd
theorem Holds.owns_ones {vs : List Value} {ls : List (List Int)} (H : Holds w0 w (Owns e k vs ls • F)) : ∀ u ∈ vs, u.oneCell' = true := by
  intro u hu
  obtain ⟨j, hj, rfl⟩ := List.getElem_of_mem hu
  have := (H.owns_rd (j := j) (by rw [← H.owns_len]; exact hj)).one
  rwa [List.getD_eq_getElem?_getD, List.getElem?_eq_getElem hj] at this
end
end Go.Proofs.Ytgmpclifphbjkaa
end
section
/- Editors: what is told of one: Kills, the lines that stand elsewhere, how many groups there are. -/
set_option linter.unusedSimpArgs false
set_option linter.unusedVariables false
namespace Go.Proofs.Ytgmpclifphbjkaa
open Go.RowKit
section
variable {w0 w : World} {F : HP} {e p ph pw pt pr pm : Nat} {s : EdS} {k x place : Int} {hl : List HLn} {base most : Int} {tx : Int → Option ByteArray} {v : Value}
theorem hist_at_ret (H : Holds w0 w (HistRep p hl base most • F)) : Ret Try.prog 85 #[.pointer (some ⟨p, 0, none⟩), .int .i64 k] w fun v w' =>
    v = .tuple #[.agg #[.string (hlAt hl k).1, .int .i64 (hlAt hl k).2], .bool (decide (0 ≤ k ∧ k < hl.length))] ∧ Holds w0 w' (HistRep p hl base most • F) := by
  have hb : hl.length ≤ 4096 := by obtain ⟨v, h, _⟩ := H.hist; exact h.1
  refine ret_enter Try.func85 rfl Try.ntmps85 (Nat.le_of_ble_eq_true rfl) ?_
  dsimp only [slots0, Nat.reduceAdd]
  refine wc_seq ?_
  refine wc_region ?_
  refine wl_eff (e_allocL (l := [_, _]) H Try.zeroValue95 rfl) (ltn rfl) ?_
  rintro _ w1 ⟨b1, rfl, H1⟩
  refine wl_val (r_assign rfl) (ltn rfl) ?_
  refine wl_nil ?_
  refine wq_seq ?_
  refine wc_seq ?_
  refine wc_seq ?_
  refine wc_region ?_
  refine wl_val (r_move rfl) (ltn rfl) ?_
  refine wl_val (r_lss rfl rfl) (ltn rfl) ?_
  refine wl_split rfl (ltn rfl) (fun h1 => ?_) (fun h1 => ?_)
  · (try simp only [cmpS] at h1)
    refine wl_no rfl rfl rfl (ltn rfl) ?_
    refine wl_no rfl rfl rfl (ltn rfl) ?_
    refine wl_no rfl rfl rfl (ltn rfl) ?_
    refine wl_no rfl rfl rfl (ltn rfl) ?_
    refine wl_val (r_pick_t rfl rfl) (ltn rfl) ?_
    refine wl_nil ?_
    refine wq_seq ?_
    refine wc_cond_t rfl ?_
    refine wc_seq ?_
    refine wc_region ?_
    refine wl_val (r_buildL (zl := [.string .empty, .int .i64 0]) (pl := [(0, 1), (1, 1)]) [_, _] Try.underlying95 Try.zeroValue95 rfl (fun w => by kernel_rfl) rfl (.zero (zs := [.string .empty]) rfl (.zero (zs := [.int .i64 0]) rfl .nil)) rfl) (ltn rfl) ?_
    refine wl_eff0 (e_storePL 0 (l' := [_, _]) (us := [_, _]) H1 Try.sizeOf95 rfl rfl rfl (ones_cons (by first | rfl | assumption) (ones_cons (by first | rfl | assumption) ones_nil)) rfl rfl) ?_
    rintro _ w2 H2
    refine wl_val (r_assign rfl) (ltn rfl) ?_
    refine wl_nil ?_
    refine wq_seq ?_
    refine wc_ret ?_
    refine wq_then_ret ?_
    refine wq_end (.inl rfl) (resCT Try.results85 rfl rfl Try.underlying95 rfl (by rw [show (Try.prog.info? 95).map (·.size) = some 2 from by kernel_rfl]; rfl) (H2).get.2) ?_
    exact ⟨by unfold hlAt; rw [if_neg (by omega), decide_eq_false (by omega)], H2.right⟩
  · (try simp only [cmpS] at h1)
    refine wl_yes rfl rfl ?_
    refine wl_val (r_move rfl) (ltn rfl) ?_
    refine wl_yes rfl rfl ?_
    refine wl_val (r_move rfl) (ltn rfl) ?_
    refine wl_yes rfl rfl ?_
    refine wl_eff (e_call (r_call rfl Try.func48 rfl rfl) (hist_len_ret H1.f2)) (ltn rfl) ?_
    rintro _ w3 ⟨rfl, H3⟩
    refine wl_yes rfl rfl ?_
    refine wl_val (r_geq rfl rfl) (ltn rfl) ?_
    refine wl_val (r_pick_f rfl rfl) (ltn rfl) ?_
    refine wl_nil ?_
    refine wq_seq ?_
    refine wc_cond rfl (fun h2 => ?_) (fun h2 => ?_)
    · (try simp only [cmpS] at h2)
      
      refine wc_seq ?_
      refine wc_region ?_
      refine wl_val (r_buildL (zl := [.string .empty, .int .i64 0]) (pl := [(0, 1), (1, 1)]) [_, _] Try.underlying95 Try.zeroValue95 rfl (fun w => by kernel_rfl) rfl (.zero (zs := [.string .empty]) rfl (.zero (zs := [.int .i64 0]) rfl .nil)) rfl) (ltn rfl) ?_
      refine wl_eff0 (e_storePL 0 (l' := [_, _]) (us := [_, _]) H3.f2 Try.sizeOf95 rfl rfl rfl (ones_cons (by first | rfl | assumption) (ones_cons (by first | rfl | assumption) ones_nil)) rfl rfl) ?_
      rintro _ w4 H4
      refine wl_val (r_assign rfl) (ltn rfl) ?_
      refine wl_nil ?_
      refine wq_seq ?_
      refine wc_ret ?_
      refine wq_then_ret ?_
      refine wq_end (.inl rfl) (resCT Try.results85 rfl rfl Try.underlying95 rfl (by rw [show (Try.prog.info? 95).map (·.size) = some 2 from by kernel_rfl]; rfl) (H4).get.2) ?_
      exact ⟨by unfold hlAt; rw [if_neg (by omega), decide_eq_false (by omega)], H4.right⟩
    · (try simp only [cmpS] at h2)
      
      refine wc_skip ?_
      refine wq_seq ?_
      refine wc_seq ?_
      obtain ⟨m, rfl⟩ := Int.eq_ofNat_of_zero_le (show 0 ≤ k by omega)
      obtain ⟨hv_p, hk_p, HH_p⟩ := (H3).hist
      refine wc_region ?_
      refine wl_val (r_move rfl) (ltn rfl) ?_
      refine wl_val (r_nil rfl) (ltn rfl) ?_
      refine wl_val (r_fieldA 0 Try.underlying53 rfl rfl Try.sizeOf51 (by decide) rfl (by first | exact Nat.zero_add _ | rfl)) (ltn rfl) ?_
      refine wl_val (r_fieldA 0 Try.underlying51 rfl rfl Try.sizeOf49 (by decide) rfl (by first | exact Nat.zero_add _ | rfl)) (ltn rfl) ?_
      refine wl_val (r_load (plain_of Try.underlying49 rfl) rfl (cell_of_blk (HH_p).get.2 rfl)) (ltn rfl) ?_
      refine wl_val (r_move rfl) (ltn rfl) ?_
      obtain ⟨bhv_p, ohv_p, chv_p, ehv_p⟩ := Rd.posV ((HH_p.f2).row_rd) (by omega)
      cases ehv_p
      refine wl_val (r_index Try.underlying49 Try.sizeOf95 rfl rfl (by omega)) (ltn rfl) ?_
      refine wl_val (r_load_elem (ys := [_, _]) ((HH_p.f2).row_rd) (by omega) Try.underlying95 rfl Try.sizeOf95 rfl (flat_elem hlEnc_len (by omega) default) rfl) (ltn rfl) ?_
      refine wl_eff0 (e_storePL 0 (l' := [_, _]) (us := [_, _]) HH_p.f3 Try.sizeOf95 rfl rfl rfl (ones_cons (by first | rfl | assumption) (ones_cons (by first | rfl | assumption) ones_nil)) rfl rfl) ?_
      rintro _ w6 H6
      refine wl_val (r_assign rfl) (ltn rfl) ?_
      refine wl_nil ?_
      refine wq_seq ?_
      refine wc_ret ?_
      refine wq_end (.inl rfl) (resCT Try.results85 rfl rfl Try.underlying95 rfl (by rw [show (Try.prog.info? 95).map (·.size) = some 2 from by kernel_rfl]; rfl) (H6).get.2) ?_
      have Ho8 := H6.f3.f3
      have Hc9 := Holds.mk_hist hk_p Ho8
      exact ⟨by unfold hlAt; rw [if_pos (by omega), decide_eq_true (by omega)]; rfl, Hc9.f2.right⟩
theorem ed_first_ret {x0 x1 x2 x3 x4 x5 x6 x7 x8 x9 x10 x12 x13 x14 x15 x16 x17 x18 x19 x20 x21 x22 x23 x24 x25 x26 x27 x28 x29 x30 x31 x32 x33 : Value} (H : Holds w0 w (blk e (.cells (x0 :: x1 :: x2 :: x3 :: x4 :: x5 :: x6 :: x7 :: x8 :: x9 :: x10 :: .pointer (some ⟨ph, 0, none⟩) :: x12 :: x13 :: x14 :: x15 :: x16 :: x17 :: x18 :: x19 :: x20 :: x21 :: x22 :: x23 :: x24 :: x25 :: x26 :: x27 :: x28 :: x29 :: x30 :: x31 :: x32 :: x33 :: []).toArray 69 (0, 0)) • HistRep ph hl base most • F)) : Ret Try.prog 71 #[.pointer (some ⟨e, 0, none⟩), .int .i64 k] w fun v w' =>
    v = .string (firstOf hl k) ∧ Holds w0 w' (blk e (.cells (x0 :: x1 :: x2 :: x3 :: x4 :: x5 :: x6 :: x7 :: x8 :: x9 :: x10 :: .pointer (some ⟨ph, 0, none⟩) :: x12 :: x13 :: x14 :: x15 :: x16 :: x17 :: x18 :: x19 :: x20 :: x21 :: x22 :: x23 :: x24 :: x25 :: x26 :: x27 :: x28 :: x29 :: x30 :: x31 :: x32 :: x33 :: []).toArray 69 (0, 0)) • HistRep ph hl base most • F) := by
  refine ret_enter Try.func71 rfl Try.ntmps71 (Nat.le_of_ble_eq_true rfl) ?_
  dsimp only [slots0, Nat.reduceAdd]
  refine wc_seq ?_
  refine wc_region ?_
  refine wl_val (r_assign rfl) (ltn rfl) ?_
  refine wl_nil ?_
  refine wq_seq ?_
  refine wc_seq ?_
  refine wc_region ?_
  refine wl_val (r_move rfl) (ltn rfl) ?_
  refine wl_val (r_nil rfl) (ltn rfl) ?_
  refine wl_val (r_fieldA 11 Try.underlying69 rfl rfl Try.sizeOf23 (by decide) rfl (by first | exact Nat.zero_add _ | rfl)) (ltn rfl) ?_
  refine wl_val (r_load (plain_of Try.underlying23 rfl) rfl (cell_of_blk (H).get.2 rfl)) (ltn rfl) ?_
  refine wl_val (r_move rfl) (ltn rfl) ?_
  refine wl_eff (e_call (r_call rfl Try.func85 rfl rfl) (hist_at_ret H.f2)) (ltn rfl) ?_
  rintro _ w1 ⟨rfl, H1⟩
  refine wl_val (r_move rfl) (ltn rfl) ?_
  refine wl_val (r_extract rfl rfl) (ltn rfl) ?_
  refine wl_val (r_extract rfl rfl) (ltn rfl) ?_
  refine wl_eff (e_allocL (l := [_, _]) H1 Try.zeroValue95 rfl) (ltn rfl) ?_
  rintro _ w2 ⟨b2, rfl, H2⟩
  refine wl_eff0 (e_storePL 0 (l' := [_, _]) (us := [_, _]) H2 Try.sizeOf95 rfl rfl rfl (ones_cons (by first | rfl | assumption) (ones_cons (by first | rfl | assumption) ones_nil)) rfl rfl) ?_
  rintro _ w3 H3
  refine wl_val (r_assign rfl) (ltn rfl) ?_
  refine wl_nil ?_
  refine wq_seq ?_
  refine wc_seq ?_
  refine wc_region ?_
  refine wl_val (r_fieldA 0 Try.underlying95 rfl rfl Try.sizeOf9 (by decide) rfl (by first | exact Nat.zero_add _ | rfl)) (ltn rfl) ?_
  refine wl_val (r_load (plain_of Try.underlying9 rfl) rfl (cell_of_blk (H3).get.2 rfl)) (ltn rfl) ?_
  refine wl_val (r_assign rfl) (ltn rfl) ?_
  refine wl_nil ?_
  refine wq_seq ?_
  refine wc_ret ?_
  refine wq_end1 (.inl rfl) Try.results71 rfl ?_
  exact ⟨rfl, H3.right.f2⟩
theorem strF_some {t : ByteArray} (h : tx k = some t) : (strF tx k).getD (.string .empty) = .string t ∧ (strF tx k).isSome = true := by unfold strF; rw [h]; exact ⟨rfl, rfl⟩
theorem strF_isSome : (strF tx k).isSome = (tx k).isSome := by unfold strF; cases tx k <;> rfl
theorem ed_stands_ret {x0 x1 x3 x4 x5 x6 x7 x8 x9 x10 x12 x13 x14 x15 x16 x17 x18 x19 x20 x21 x22 x23 x24 x25 x26 x27 x28 x29 x30 x31 x32 x33 : Value} (H : Holds w0 w (blk e (.cells (x0 :: x1 :: .pointer (some ⟨pw, 0, none⟩) :: x3 :: x4 :: x5 :: x6 :: x7 :: x8 :: x9 :: x10 :: .pointer (some ⟨ph, 0, none⟩) :: x12 :: x13 :: x14 :: x15 :: x16 :: x17 :: x18 :: x19 :: x20 :: x21 :: x22 :: x23 :: x24 :: x25 :: x26 :: x27 :: x28 :: x29 :: x30 :: x31 :: x32 :: x33 :: []).toArray 69 (0, 0)) • blk pw (.cells #[v, .map (some pt)] 87 (0, 0)) • MapRep kI64 pt (strF tx) • HistRep ph hl base most • F)) :
    Ret Try.prog 70 #[.pointer (some ⟨e, 0, none⟩), .int .i64 k] w fun v' w' =>
    v' = .string (standsOf hl tx k) ∧ Holds w0 w' (blk e (.cells (x0 :: x1 :: .pointer (some ⟨pw, 0, none⟩) :: x3 :: x4 :: x5 :: x6 :: x7 :: x8 :: x9 :: x10 :: .pointer (some ⟨ph, 0, none⟩) :: x12 :: x13 :: x14 :: x15 :: x16 :: x17 :: x18 :: x19 :: x20 :: x21 :: x22 :: x23 :: x24 :: x25 :: x26 :: x27 :: x28 :: x29 :: x30 :: x31 :: x32 :: x33 :: []).toArray 69 (0, 0)) • blk pw (.cells #[v, .map (some pt)] 87 (0, 0)) • MapRep kI64 pt (strF tx) • HistRep ph hl base most • F) := by
  refine ret_enter Try.func70 rfl Try.ntmps70 (Nat.le_of_ble_eq_true rfl) ?_
  dsimp only [slots0, Nat.reduceAdd]
  refine wc_seq ?_
  refine wc_region ?_
  refine wl_val (r_assign rfl) (ltn rfl) ?_
  refine wl_nil ?_
  refine wq_seq ?_
  refine wc_seq ?_
  refine wc_seq ?_
  refine wc_region ?_
  refine wl_val (r_move rfl) (ltn rfl) ?_
  refine wl_val (r_nil rfl) (ltn rfl) ?_
  refine wl_val (r_fieldA 0 Try.underlying69 rfl rfl Try.sizeOf66 (by decide) rfl (by first | exact Nat.zero_add _ | rfl)) (ltn rfl) ?_
  refine wl_val (r_fieldA 2 Try.underlying66 rfl rfl Try.sizeOf63 (by decide) rfl (by first | exact Nat.zero_add _ | rfl)) (ltn rfl) ?_
  refine wl_val (r_load (plain_of Try.underlying63 rfl) rfl (cell_of_blk (H).get.2 rfl)) (ltn rfl) ?_
  refine wl_val (r_nil rfl) (ltn rfl) ?_
  refine wl_val (r_fieldA 1 Try.underlying87 rfl rfl Try.sizeOf85 (by decide) rfl (by first | exact Nat.zero_add _ | rfl)) (ltn rfl) ?_
  refine wl_val (r_load (plain_of Try.underlying85 rfl) rfl (cell_of_blk (H.f2).get.2 rfl)) (ltn rfl) ?_
  refine wl_val (r_move rfl) (ltn rfl) ?_
  refine wl_val (r_lookup_ok (H.f3) Try.underlying85 Try.underlying3 Try.zeroValue9 rfl rfl) (ltn rfl) ?_
  refine wl_val (r_move rfl) (ltn rfl) ?_
  refine wl_val (r_extract rfl rfl) (ltn rfl) ?_
  refine wl_val (r_extract rfl rfl) (ltn rfl) ?_
  refine wl_val (r_assign rfl) (ltn rfl) ?_
  refine wl_val (r_assign rfl) (ltn rfl) ?_
  refine wl_nil ?_
  refine wq_seq ?_
  refine wc_seq ?_
  refine wc_region ?_
  refine wl_val (r_move rfl) (ltn rfl) ?_
  refine wl_nil ?_
  refine wq_seq ?_
  refine wc_cond rfl (fun h1 => ?_) (fun h1 => ?_)
  · (try simp only [cmpS] at h1)
    obtain ⟨tt, htt⟩ := Option.isSome_iff_exists.1 (strF_isSome (tx := tx) ▸ h1)
    refine wc_seq ?_
    refine wc_region ?_
    refine wl_val (r_move rfl) (ltn rfl) ?_
    refine wl_val (r_assign rfl) (ltn rfl) ?_
    refine wl_nil ?_
    refine wq_seq ?_
    refine wc_ret ?_
    refine wq_then_ret ?_
    refine wq_end1 (.inl rfl) Try.results70 rfl ?_
    exact ⟨by unfold standsOf; rw [htt]; show (strF tx k).getD (.string .empty) = _; rw [(strF_some htt).1]; rfl, H.f4.f4.f4.f4⟩
  · (try simp only [cmpS] at h1)
    have htt : tx k = none := by have := strF_isSome (tx := tx) (k := k) ▸ h1; simpa using this
    refine wc_skip ?_
    refine wq_seq ?_
    refine wc_seq ?_
    refine wc_region ?_
    refine wl_val (r_move rfl) (ltn rfl) ?_
    refine wl_val (r_move rfl) (ltn rfl) ?_
    refine wl_eff (e_call (r_call rfl Try.func71 rfl rfl) (ed_first_ret H.f4.f2)) (ltn rfl) ?_
    rintro _ w1 ⟨rfl, H1⟩
    refine wl_val (r_assign rfl) (ltn rfl) ?_
    refine wl_nil ?_
    refine wq_seq ?_
    refine wc_ret ?_
    refine wq_end1 (.inl rfl) Try.results70 rfl ?_
    exact ⟨by unfold standsOf; rw [htt]; rfl, H1.f2.f4.f4.f4⟩
end
end Go.Proofs.Ytgmpclifphbjkaa
end
