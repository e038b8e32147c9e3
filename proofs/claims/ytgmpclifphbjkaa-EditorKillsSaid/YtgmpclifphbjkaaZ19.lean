import Derived.Test.YtgmpclifphbjkaaZ18
import Derived.Test.YtgmpclifphbjkaaZ15
/- Texts of mine, joined: EdC EdSt EKillM EdMv. -/
section
/- Editors: Begin, Start. -/
set_option linter.unusedSimpArgs false
set_option linter.unusedVariables false
namespace Go.Proofs.Ytgmpclifphbjkaa
open Go.RowKit
section
variable {w0 w : World} {F : HP} {e p h pr : Nat} {s : EdS} {hl : List HLn} {base most m : Int} {v : Value} {l : List Int}
theorem beginS_no (h : s.inn = false) : s.beginS = { s with inn := true, was := s.c, cls := 0, killed := false, yanked := false, argues := false, whole := true, put := [] } := by unfold EdS.beginS; rw [if_neg (by simp [h])]
theorem beginS_yes (h : s.inn = true) : s.beginS = s := by unfold EdS.beginS; rw [if_pos h]
theorem uTot_le {G : List (List EdA)} {N : List EdA} (h : uTot G N ≤ 16384) : uTot G [] ≤ 16384 := by unfold uTot at *; simp at *; omega
theorem begin_ok (h : EdSOk s) (hi : s.inn = false) : EdSOk s.beginS := by
  rw [beginS_no hi]
  obtain ⟨h1, h2, h3, h4, h5, h6⟩ := h
  exact ⟨h1, fun _ => ⟨h1, uTot_le h5, h6⟩, h3, by simp, uTot_le h5, h6⟩
theorem ed_begin_ret (H : Holds w0 w (EdRep e s • F)) : Ret Try.prog 8 #[.pointer (some ⟨e, 0, none⟩)] w fun v w' => v = .int .i64 s.beginE ∧ Holds w0 w' (EdRep e s.beginS • F) := by
  refine ret_enter Try.func8 rfl Try.ntmps8 (Nat.le_of_ble_eq_true rfl) ?_
  dsimp only [slots0, Nat.reduceAdd]
  refine wc_seq ?_
  refine wc_region ?_
  refine wl_val (r_assign rfl) (ltn rfl) ?_
  refine wl_nil ?_
  refine wq_seq ?_
  refine wc_seq ?_
  refine wc_block ?_
  refine wc_seq ?_
  refine wc_region ?_
  refine wl_val (r_move rfl) (ltn rfl) ?_
  refine wl_eff (e_call (r_call rfl Try.func23 rfl rfl) (ed_none_ret H)) (ltn rfl) ?_
  rintro _ _ ⟨rfl, rfl⟩
  refine wl_val (r_assign rfl) (ltn rfl) ?_
  refine wl_nil ?_
  refine wq_seq ?_
  refine wc_cond_f rfl ?_
  refine wc_seq ?_
  obtain ⟨pb_e, pr_e, pw_e, pt_e, pm_e, ph_e, bl_e, pv_e, es_e, u0_e, u1_e, u2_e, u3_e, u4_e, u5_e, u6_e, u7_e, u8_e, u9_e, ua_e, ok_e, says_e, plen_e, HE_e⟩ := (H).edO
  refine wc_region ?_
  refine wl_val (r_move rfl) (ltn rfl) ?_
  refine wl_val (r_nil rfl) (ltn rfl) ?_
  refine wl_val (r_fieldA 16 Try.underlying69 rfl rfl Try.sizeOf4 (by decide) rfl (by first | exact Nat.zero_add _ | rfl)) (ltn rfl) ?_
  refine wl_val (r_load (plain_of Try.underlying4 rfl) rfl (cell_of_blk (HE_e).get.2 rfl)) (ltn rfl) ?_
  refine wl_val (r_assign rfl) (ltn rfl) ?_
  refine wl_nil ?_
  refine wq_seq ?_
  refine wc_cond rfl (fun h1 => ?_) (fun h1 => ?_)
  · (try simp only [cmpS] at h1)
    try (exfalso; first | contradiction | omega)
    all_goals
      have hin := h1
      refine wc_seq ?_
      refine wc_region ?_
      refine wl_val (r_assign rfl) (ltn rfl) ?_
      refine wl_nil ?_
      refine wq_seq ?_
      refine wc_ret ?_
      refine wq_block_ret ?_
      refine wq_then_ret ?_
      refine wq_end1 (.inl rfl) Try.results8 rfl ?_
      exact ⟨by unfold EdS.beginE; rw [if_pos hin], by rw [beginS_yes hin]; exact Holds.mk_ed ok_e says_e HE_e.f11.f11.f11.f11.f11.f11.f11.f11.f11.f11.f11⟩
  · (try simp only [cmpS] at h1)
    try (exfalso; first | contradiction | omega)
    all_goals
      have hin := h1
      refine wc_skip ?_
      refine wq_block_normal ?_
      refine wq_seq ?_
      refine wc_seq ?_
      refine wc_region ?_
      refine wl_val (r_move rfl) (ltn rfl) ?_
      refine wl_val (r_move rfl) (ltn rfl) ?_
      refine wl_val (r_move rfl) (ltn rfl) ?_
      refine wl_val (r_nil rfl) (ltn rfl) ?_
      refine wl_val (r_fieldA 0 Try.underlying69 rfl rfl Try.sizeOf66 (by decide) rfl (by first | exact Nat.zero_add _ | rfl)) (ltn rfl) ?_
      refine wl_val (r_load_part 0 (xs := [_, _, _, _, _, _, _, _, _, _, _]) Try.underlying66 rfl Try.sizeOf66 rfl rfl (HE_e).get.2 rfl) (ltn rfl) ?_
      refine wl_eff (e_call (r_call rfl Try.func24 rfl rfl) (twin_ret HE_e.f6.f6.f6.f6.f6)) (ltn rfl) ?_
      rintro _ w3 ⟨qb3, qr3, qw3, qt3, qm3, rfl, H3⟩
      refine wl_val (r_nil rfl) (ltn rfl) ?_
      refine wl_val (r_fieldA 16 Try.underlying69 rfl rfl Try.sizeOf4 (by decide) rfl (by first | exact Nat.zero_add _ | rfl)) (ltn rfl) ?_
      refine wl_eff0 (e_storeL 16 (l' := [_, _, _, _, _, _, _, _, _, _, _, _, _, _, _, _, _, _, _, _, _, _, _, _, _, _, _, _, _, _, _, _, _, _]) H3.f11 Try.sizeOf4 rfl rfl (by first | rfl | assumption) rfl rfl) ?_
      rintro _ w4 H4
      refine wl_val (r_nil rfl) (ltn rfl) ?_
      refine wl_val (r_fieldA 17 Try.underlying69 rfl rfl Try.sizeOf66 (by decide) rfl (by first | exact Nat.zero_add _ | rfl)) (ltn rfl) ?_
      refine wl_eff0 (e_storePL 17 (l' := [_, _, _, _, _, _, _, _, _, _, _, _, _, _, _, _, _, _, _, _, _, _, _, _, _, _, _, _, _, _, _, _, _, _]) (us := [_, _, _, _, _, _, _, _, _, _, _]) H4 Try.sizeOf66 rfl rfl rfl (ones_cons (by first | rfl | assumption) (ones_cons (by first | rfl | assumption) (ones_cons (by first | rfl | assumption) (ones_cons (by first | rfl | assumption) (ones_cons (by first | rfl | assumption) (ones_cons (by first | rfl | assumption) (ones_cons (by first | rfl | assumption) (ones_cons (by first | rfl | assumption) (ones_cons (by first | rfl | assumption) (ones_cons (by first | rfl | assumption) (ones_cons (by first | rfl | assumption) ones_nil))))))))))) rfl rfl) ?_
      rintro _ w5 H5
      refine wl_nil ?_
      refine wq_seq ?_
      refine wc_seq ?_
      refine wc_region ?_
      refine wl_val (r_move rfl) (ltn rfl) ?_
      refine wl_val (r_move rfl) (ltn rfl) ?_
      refine wl_val (r_move rfl) (ltn rfl) ?_
      refine wl_val (r_move rfl) (ltn rfl) ?_
      refine wl_val (r_move rfl) (ltn rfl) ?_
      refine wl_val (r_move rfl) (ltn rfl) ?_
      refine wl_val (r_nil rfl) (ltn rfl) ?_
      refine wl_val (r_fieldA 28 Try.underlying69 rfl rfl Try.sizeOf3 (by decide) rfl (by first | exact Nat.zero_add _ | rfl)) (ltn rfl) ?_
      refine wl_eff0 (e_storeL 28 (l' := [_, _, _, _, _, _, _, _, _, _, _, _, _, _, _, _, _, _, _, _, _, _, _, _, _, _, _, _, _, _, _, _, _, _]) H5 Try.sizeOf3 rfl rfl (by first | rfl | assumption) rfl rfl) ?_
      rintro _ w6 H6
      refine wl_val (r_nil rfl) (ltn rfl) ?_
      refine wl_val (r_fieldA 29 Try.underlying69 rfl rfl Try.sizeOf4 (by decide) rfl (by first | exact Nat.zero_add _ | rfl)) (ltn rfl) ?_
      refine wl_eff0 (e_storeL 29 (l' := [_, _, _, _, _, _, _, _, _, _, _, _, _, _, _, _, _, _, _, _, _, _, _, _, _, _, _, _, _, _, _, _, _, _]) H6 Try.sizeOf4 rfl rfl (by first | rfl | assumption) rfl rfl) ?_
      rintro _ w7 H7
      refine wl_val (r_nil rfl) (ltn rfl) ?_
      refine wl_val (r_fieldA 30 Try.underlying69 rfl rfl Try.sizeOf4 (by decide) rfl (by first | exact Nat.zero_add _ | rfl)) (ltn rfl) ?_
      refine wl_eff0 (e_storeL 30 (l' := [_, _, _, _, _, _, _, _, _, _, _, _, _, _, _, _, _, _, _, _, _, _, _, _, _, _, _, _, _, _, _, _, _, _]) H7 Try.sizeOf4 rfl rfl (by first | rfl | assumption) rfl rfl) ?_
      rintro _ w8 H8
      refine wl_val (r_nil rfl) (ltn rfl) ?_
      refine wl_val (r_fieldA 31 Try.underlying69 rfl rfl Try.sizeOf4 (by decide) rfl (by first | exact Nat.zero_add _ | rfl)) (ltn rfl) ?_
      refine wl_eff0 (e_storeL 31 (l' := [_, _, _, _, _, _, _, _, _, _, _, _, _, _, _, _, _, _, _, _, _, _, _, _, _, _, _, _, _, _, _, _, _, _]) H8 Try.sizeOf4 rfl rfl (by first | rfl | assumption) rfl rfl) ?_
      rintro _ w9 H9
      refine wl_val (r_nil rfl) (ltn rfl) ?_
      refine wl_val (r_fieldA 32 Try.underlying69 rfl rfl Try.sizeOf4 (by decide) rfl (by first | exact Nat.zero_add _ | rfl)) (ltn rfl) ?_
      refine wl_eff0 (e_storeL 32 (l' := [_, _, _, _, _, _, _, _, _, _, _, _, _, _, _, _, _, _, _, _, _, _, _, _, _, _, _, _, _, _, _, _, _, _]) H9 Try.sizeOf4 rfl rfl (by first | rfl | assumption) rfl rfl) ?_
      rintro _ w10 H10
      refine wl_val (r_nil rfl) (ltn rfl) ?_
      refine wl_val (r_fieldA 33 Try.underlying69 rfl rfl Try.sizeOf67 (by decide) rfl (by first | exact Nat.zero_add _ | rfl)) (ltn rfl) ?_
      refine wl_eff0 (e_storeL 33 (l' := [_, _, _, _, _, _, _, _, _, _, _, _, _, _, _, _, _, _, _, _, _, _, _, _, _, _, _, _, _, _, _, _, _, _]) H10 Try.sizeOf67 rfl rfl (by first | rfl | assumption) rfl rfl) ?_
      rintro _ w11 H11
      refine wl_nil ?_
      refine wq_seq ?_
      refine wc_seq ?_
      refine wc_region ?_
      refine wl_val (r_assign rfl) (ltn rfl) ?_
      refine wl_nil ?_
      refine wq_seq ?_
      refine wc_ret ?_
      refine wq_end1 (.inl rfl) Try.results8 rfl ?_
      have Ho12 := H11.f6.f6.f6.f6.f6
      have Hc13 := Holds.mk_was (c := s.c) Ho12
      exact ⟨by unfold EdS.beginE; rw [if_neg (by simp [hin])], by rw [beginS_no hin]; exact Holds.mk_edP (beginS_no hin ▸ begin_ok ok_e hin) rfl Hc13.f10.right.f10.right.f10.right.f9.f9.f9.f9.f9.f9.f9.f9⟩
end
end Go.Proofs.Ytgmpclifphbjkaa
end
section
/- Editors: Start. -/
set_option linter.unusedSimpArgs false
set_option linter.unusedVariables false
namespace Go.Proofs.Ytgmpclifphbjkaa
open Go.RowKit
def EdS.startE (s : EdS) (l : List Int) : Int := if s.inn then 1 else if 1024 < l.length then 3 else 0
def EdS.startS (s : EdS) (hl : List HLn) (base most : Int) (l : List Int) : EdS := if s.startE l = 0 then s.start hl base most l else s
theorem start_ok {s : EdS} (h : EdSOk s) (hi : s.inn = false) (hl : List HLn) (base most : Int) (l : List Int) : EdSOk (s.start hl base most l) := by
  obtain ⟨h1, h2, h3, h4, h5, h6⟩ := h
  refine ⟨fresh_ok _ _ _ _ _, fun h => absurd (show s.inn = true from h) (by rw [hi]; decide), ⟨by show (-1 : Int) ≤ -1; decide, by show (-1 : Int) ≤ 1000000; decide⟩, h4, ?_, by simp [EdS.start, CoreS.fresh]⟩
  show uTot [] s.put ≤ 16384
  unfold uTot at *; simp at *; omega
section
variable {w0 w : World} {F : HP} {e p h pr : Nat} {s : EdS} {hl : List HLn} {base most m : Int} {v : Value} {l : List Int}
theorem ed_start_ret (H : Holds w0 w (EdRep e s • HistRep h hl base most • F)) (hr : FRdI w0 F .i32 v l) : Ret Try.prog 17 #[.pointer (some ⟨e, 0, none⟩), .pointer (some ⟨h, 0, none⟩), v] w fun v' w' =>
    v' = .int .i64 (s.startE l) ∧ Holds w0 w' (EdRep e (s.startS hl base most l) • HistRep h hl base most • F) := by
  unfold EdS.startS
  refine ret_enter Try.func17 rfl Try.ntmps17 (Nat.le_of_ble_eq_true rfl) ?_
  dsimp only [slots0, Nat.reduceAdd]
  refine wc_seq ?_
  refine wc_region ?_
  refine wl_val (r_assign rfl) (ltn rfl) ?_
  refine wl_nil ?_
  refine wq_seq ?_
  refine wc_seq ?_
  refine wc_block ?_
  refine wc_seq ?_
  refine wc_region ?_
  refine wl_val (r_move rfl) (ltn rfl) ?_
  refine wl_eff (e_call (r_call rfl Try.func23 rfl rfl) (ed_none_ret H)) (ltn rfl) ?_
  rintro _ _ ⟨rfl, rfl⟩
  refine wl_val (r_move rfl) (ltn rfl) ?_
  refine wl_yes rfl rfl ?_
  refine wl_val (r_move rfl) (ltn rfl) ?_
  refine wl_yes rfl rfl ?_
  refine wl_eff (e_call (r_call rfl Try.func20 rfl rfl) (hist_clone_ret H.f2)) (ltn rfl) ?_
  rintro _ w2 ⟨q2, rfl, H2⟩
  refine wl_yes rfl rfl ?_
  refine wl_val (r_ptr_nil Try.underlying23 rfl rfl) (ltn rfl) ?_
  refine wl_val (r_pick_f rfl rfl) (ltn rfl) ?_
  refine wl_val (r_assign rfl) (ltn rfl) ?_
  refine wl_nil ?_
  refine wq_seq ?_
  refine wc_cond rfl (fun h => by exfalso; (try simp only [cmpS] at h); simp at h) (fun h1 => ?_)
  (try simp only [cmpS] at h1)
  refine wc_seq ?_
  have Hd3 := H2.right
  obtain ⟨pb_e, pr_e, pw_e, pt_e, pm_e, ph_e, bl_e, pv_e, es_e, u0_e, u1_e, u2_e, u3_e, u4_e, u5_e, u6_e, u7_e, u8_e, u9_e, ua_e, ok_e, says_e, plen_e, HE_e⟩ := (Hd3.f2).edO
  refine wc_region ?_
  refine wl_val (r_move rfl) (ltn rfl) ?_
  refine wl_val (r_nil rfl) (ltn rfl) ?_
  refine wl_val (r_fieldA 16 Try.underlying69 rfl rfl Try.sizeOf4 (by decide) rfl (by first | exact Nat.zero_add _ | rfl)) (ltn rfl) ?_
  refine wl_val (r_load (plain_of Try.underlying4 rfl) rfl (cell_of_blk (HE_e).get.2 rfl)) (ltn rfl) ?_
  refine wl_val (r_assign rfl) (ltn rfl) ?_
  refine wl_nil ?_
  refine wq_seq ?_
  refine wc_cond rfl (fun h2 => ?_) (fun h2 => ?_)
  · (try simp only [cmpS] at h2)
    have hin := h2
    have hE : s.startE l = 1 := by unfold EdS.startE; rw [if_pos hin]
    refine wc_seq ?_
    refine wc_region ?_
    refine wl_val (r_assign rfl) (ltn rfl) ?_
    refine wl_nil ?_
    refine wq_seq ?_
    refine wc_ret ?_
    refine wq_block_ret ?_
    refine wq_then_ret ?_
    refine wq_end1 (.inl rfl) Try.results17 rfl ?_
    have Ho6 := HE_e.f11.f11.f11.f11.f11.f11.f11.f11.f11.f11.f11
    have Hc7 := Holds.mk_ed (s := s) ok_e says_e Ho6
    exact ⟨by rw [hE], by rw [if_neg (by rw [hE]; decide)]; exact Hc7.f2.f2⟩
  · (try simp only [cmpS] at h2)
    have hin : s.inn = false := by simpa using h2
    refine wc_seq ?_
    refine wc_region ?_
    refine wl_val (r_move rfl) (ltn rfl) ?_
    refine wl_val (r_lenR (hr _ (HE_e.right.right.right.right.right.right.right.right.right.right.right.right)) Try.underlying22 rfl) (ltn rfl) ?_
    refine wl_val (r_gtr rfl rfl) (ltn rfl) ?_
    refine wl_val (r_assign rfl) (ltn rfl) ?_
    refine wl_nil ?_
    refine wq_seq ?_
    refine wc_cond rfl (fun h3 => ?_) (fun h3 => ?_)
    · (try simp only [cmpS] at h3)
      have hbig := h3
      have hE : s.startE l = 3 := by unfold EdS.startE; rw [if_neg (by simp [hin]), if_pos (by omega)]
      refine wc_seq ?_
      refine wc_region ?_
      refine wl_val (r_assign rfl) (ltn rfl) ?_
      refine wl_nil ?_
      refine wq_seq ?_
      refine wc_ret ?_
      refine wq_block_ret ?_
      refine wq_then_ret ?_
      refine wq_end1 (.inl rfl) Try.results17 rfl ?_
      have Ho9 := HE_e.f11.f11.f11.f11.f11.f11.f11.f11.f11.f11.f11
      have Hc10 := Holds.mk_ed (s := s) ok_e says_e Ho9
      exact ⟨by rw [hE], by rw [if_neg (by rw [hE]; decide)]; exact Hc10.f2.f2⟩
    · (try simp only [cmpS] at h3)
      have hE : s.startE l = 0 := by unfold EdS.startE; rw [if_neg (by simp [hin]), if_neg (by have h9 := h3; omega)]
      have hsh : l.length ≤ 1024 := by have h9 := h3; omega
      refine wc_skip ?_
      refine wq_block_normal ?_
      refine wq_seq ?_
      refine wc_seq ?_
      refine wc_region ?_
      refine wl_val (r_move rfl) (ltn rfl) ?_
      refine wl_val (r_move rfl) (ltn rfl) ?_
      refine wl_val (r_move rfl) (ltn rfl) ?_
      refine wl_eff (e_call (r_call rfl Try.func22 rfl rfl) (ed_begins_ret (E := s.c.E) (a := s.c.at_) HE_e.f2.right.f3.right.f3.right.f3.right.f3.right.f6.f6.f6.f6.f6.f7.f7 (fun W HW => hr W HW.right.right.right.right.right) hsh)) (ltn rfl) ?_
      rintro _ w11 ⟨qb, qw, qt, qm, qh, H11⟩
      refine wl_nil ?_
      refine wq_seq ?_
      refine wc_seq ?_
      refine wc_region ?_
      refine wl_val (r_assign rfl) (ltn rfl) ?_
      refine wl_nil ?_
      refine wq_seq ?_
      refine wc_ret ?_
      refine wq_end1 (.inl rfl) Try.results17 rfl ?_
      exact ⟨by rw [hE], by rw [if_pos hE]; exact Holds.mk_ed (s := s.start hl base most l) (start_ok ok_e hin _ _ _ _) says_e H11.f7.f12.f12.f12.f12.f11.f11.f11.f11.f12.f12.f12⟩
end
end Go.Proofs.Ytgmpclifphbjkaa
end
section
/- Editors, plainly: kills that follow one another. -/
set_option linter.unusedSimpArgs false
set_option linter.unusedVariables false
namespace Go.Proofs.Ytgmpclifphbjkaa
open Go.RowKit
section
variable {s : EdS}
theorem noteS_c (s : EdS) (x : EdA) : (s.noteS x).c.L = s.c.L ∧ (s.noteS x).c.pt = s.c.pt ∧ (s.noteS x).c.mark = s.c.mark ∧ (s.noteS x).c.E = s.c.E ∧ (s.noteS x).c.at_ = s.c.at_ ∧ (s.noteS x).inn = s.inn ∧ (s.noteS x).cls = s.cls ∧ (s.noteS x).was = s.was := by
  unfold EdS.noteS
  split
  · simp
  · split <;> simp [EdS.setUn]
theorem replS_c (h : s.inn = true) (i j : Int) (l : List Int) : (s.replS i j l).c.L = replL s.c.L i j l ∧ (s.replS i j l).c.pt = replP s.c.L s.c.pt i j l ∧ (s.replS i j l).c.mark = replM s.c.L s.c.mark i j l ∧ (s.replS i j l).c.E = s.c.E ∧ (s.replS i j l).c.at_ = s.c.at_ ∧ (s.replS i j l).inn = true ∧ (s.replS i j l).cls = s.cls ∧ (s.replS i j l).was = s.was := by
  unfold EdS.replS
  rw [if_pos h]
  obtain ⟨h1, h2, h3, h4, h5, h6, h7, h8⟩ := noteS_c (s.setBuf (replL s.c.L i j l) (replP s.c.L s.c.pt i j l) (replM s.c.L s.c.mark i j l)) (replA s.c.L i j l, replD s.c.L i j l, replI s.c.L i j l)
  exact ⟨h1, h2, h3, h4, h5, h6.trans h, h7, h8⟩
theorem kill_c (h : s.inn = true) {i j : Int} {back : Bool} (hi : 0 ≤ i ∧ i ≤ j ∧ j ≤ s.c.L.length) (hL : s.c.L.length ≤ 1024) (hk : (s.killK i j back).1 = 0) (hp : i ≤ s.c.pt ∧ s.c.pt ≤ j) :
    (s.killS i j back).c.L = s.c.L.take i.toNat ++ s.c.L.drop j.toNat ∧ (s.killS i j back).c.pt = i ∧ (s.killS i j back).c.E = (s.killK i j back).2.1 ∧ (s.killS i j back).c.at_ = (s.killK i j back).2.2 ∧ (s.killS i j back).inn = true ∧ (s.killS i j back).cls = 1 := by
  have hc : s.copyE i j back = 0 := by
    unfold EdS.copyE
    rw [if_pos h, if_neg (by unfold EdS.copyBad; omega), hk]
  have hE : replE s.c.L i j [] = 0 := by unfold replE; rw [if_neg (by omega), if_neg (by simp; omega)]
  unfold EdS.killS
  rw [if_pos hc]
  have e : s.copyS i j back = { s.setRing (s.killK i j back).2.1 (s.killK i j back).2.2 with killed := true, cls := 1 } := by unfold EdS.copyS; rw [if_pos hc]
  have ei : (s.copyS i j back).inn = true := by rw [e]; exact h
  obtain ⟨h1, h2, h3, h4, h5, h6, h7, h8⟩ := replS_c ei i j []
  refine ⟨h1.trans ?_, h2.trans ?_, h4.trans (by rw [e]; rfl), h5.trans (by rw [e]; rfl), h6, h7.trans (by rw [e])⟩
  · rw [show (s.copyS i j back).c.L = s.c.L from by rw [e]; rfl]
    unfold replL
    rw [if_pos hE]; simp
  · rw [show (s.copyS i j back).c.L = s.c.L from by rw [e]; rfl, show (s.copyS i j back).c.pt = s.c.pt from by rw [e]; rfl]
    unfold replP movedP
    rw [if_pos hE]
    simp only [List.length_nil]
    split <;> (try split) <;> omega
end
/-- Kills that followed one another took A from a to b. -/
structure KOut (s : EdS) (A : List Int) (a b : Int) : Prop where
  inn : s.inn = false
  ok : 0 ≤ a ∧ a ≤ b ∧ b ≤ A.length
  L : s.c.L = A.take a.toNat ++ A.drop b.toNat
  pt : s.c.pt = a
  ring : (s.c.E = [] ∧ a = b) ∨ (s.c.E = [(A.drop a.toNat).take (b.toNat - a.toNat)] ∧ s.c.at_ = 0 ∧ s.c.last = 1)
section
variable {s : EdS} {A : List Int} {a b k : Int}
theorem KOut.len (h : KOut s A a b) : (s.c.L.length : Int) = A.length - (b - a) := by
  have := h.ok
  rw [h.L]; simp; omega
theorem begin_c (s : EdS) : s.beginS.c = s.c := by unfold EdS.beginS; split <;> rfl
theorem killK_ring (h : KOut s A a b) (hA : A.length ≤ 1024) {i j : Int} {back : Bool} {l : List Int} (hcut : s.beginS.cut i j = l) (hl : l.length + (b - a) ≤ A.length) :
    (s.beginS.killK i j back).1 = 0 ∧ ((s.beginS.killK i j back).2.1 = [] ∧ l = [] ∧ a = b ∨ (s.beginS.killK i j back).2.1 = [if back then l ++ (A.drop a.toNat).take (b.toNat - a.toNat) else (A.drop a.toNat).take (b.toNat - a.toNat) ++ l] ∧ (s.beginS.killK i j back).2.2 = 0) := by
  have ho := h.ok
  have hb : s.beginS.killed = false := by unfold EdS.beginS; rw [if_neg (by rw [h.inn]; decide)]
  unfold EdS.killK
  rw [hcut, begin_c]
  rcases h.ring with ⟨h1, h2⟩ | ⟨h1, h2, h3⟩
  · rw [h1]
    have hx : (A.drop a.toNat).take (b.toNat - a.toNat) = [] := by rw [h2]; simp
    have hw : s.beginS.way back = 0 ∨ s.beginS.way back = 1 ∨ s.beginS.way back = 2 := by unfold EdS.way; split <;> (try split) <;> simp
    unfold killM
    rw [if_neg (by omega), if_neg (by omega), if_neg (by simp)]
    split
    · rename_i h4
      exact ⟨rfl, .inl ⟨rfl, List.length_eq_zero_iff.1 h4.2, h2⟩⟩
    · rw [hx]
      exact ⟨rfl, .inr ⟨by cases back <;> simp, rfl⟩⟩
  · rw [h1, h2]
    have hw : s.beginS.way back = if back then 2 else 1 := by unfold EdS.way; rw [if_pos (by rw [begin_c]; exact .inl h3)]
    have hlen : ((A.drop a.toNat).take (b.toNat - a.toNat)).length = b.toNat - a.toNat := by simp; omega
    rw [hw]
    unfold killM
    rw [if_neg (by cases back <;> simp), if_neg (by omega), if_pos (by cases back <;> simp), if_neg (by simp only [List.getD_cons_zero]; omega)]
    exact ⟨rfl, .inr ⟨by cases back <;> simp, rfl⟩⟩
theorem KOut.step (h : KOut s A a b) (hA : A.length ≤ 1024) {i j a' b' : Int} {back : Bool} {l : List Int} (hij : 0 ≤ i ∧ i ≤ j ∧ j ≤ s.c.L.length) (hp : i ≤ a ∧ a ≤ j) (hcut : s.beginS.cut i j = l) (hl : l.length + (b - a) ≤ A.length)
    (ho : 0 ≤ a' ∧ a' ≤ b' ∧ b' ≤ A.length) (hi : i = a') (hL : s.c.L.take i.toNat ++ s.c.L.drop j.toNat = A.take a'.toNat ++ A.drop b'.toNat) (he : l = [] → a = b → a' = b')
    (hx : (if back then l ++ (A.drop a.toNat).take (b.toNat - a.toNat) else (A.drop a.toNat).take (b.toNat - a.toNat) ++ l) = (A.drop a'.toNat).take (b'.toNat - a'.toNat)) :
    KOut ((s.beginS.killS i j back).endS 0) A a' b' := by
  obtain ⟨h1, h2⟩ := killK_ring h hA (back := back) hcut hl
  have hlen := h.len
  have hok := h.ok
  obtain ⟨k1, k2, k3, k4, k5, k6⟩ := kill_c (s := s.beginS) (beginS_inn s) (i := i) (j := j) (back := back) (by rw [begin_c]; exact hij) (by rw [begin_c]; omega) h1 (by rw [begin_c, h.pt]; exact hp)
  rw [begin_c] at k1
  refine ⟨end0_inn _ k5, ho, (end0_L _ k5).trans (k1.trans hL), (end0_pt _ k5).trans (k2.trans hi), ?_⟩
  rw [end0_E _ k5, end0_at _ k5, end0_last _ k5, k3, k4, k6]
  rcases h2 with ⟨q1, q2, q3⟩ | ⟨q1, q2⟩
  · exact .inl ⟨q1, he q2 q3⟩
  · exact .inr ⟨by rw [q1, hx], q2, rfl⟩
theorem KOut.back (h : KOut s A a b) (hA : A.length ≤ 1024) (hk : 0 ≤ k ∧ k ≤ a) : KOut ((s.beginS.killS (s.beginS.c.pt - k) s.beginS.c.pt true).endS 0) A (a - k) b := by
  have hlen := h.len
  have hok := h.ok
  rw [begin_c, h.pt]
  have e1 : s.beginS.cut (a - k) a = (A.drop (a - k).toNat).take k.toNat := by
    unfold EdS.cut
    rw [begin_c, h.L, List.drop_append_of_le_length (by simp; omega), List.take_append_of_le_length (by simp; omega), List.drop_take]
    rw [List.take_take]; congr 1; omega
  refine h.step hA (l := (A.drop (a - k).toNat).take k.toNat) (by omega) (by omega) e1 (by simp; omega) (by omega) rfl ?_ ?_ ?_
  · rw [h.L, List.take_append_of_le_length (by simp; omega), List.take_take, List.drop_append, List.drop_of_length_le (by simp; omega), List.nil_append]
    rw [show min (a - k).toNat a.toNat = (a - k).toNat from by omega, show a.toNat - (A.take a.toNat).length = 0 from by simp; omega, List.drop_zero]
  · intro h1 h2
    have h3 := congrArg List.length h1
    simp at h3; omega
  · simp only [if_true]
    rw [show (A.drop a.toNat).take (b.toNat - a.toNat) = ((A.drop (a - k).toNat).drop k.toNat).take (b.toNat - a.toNat) from by rw [List.drop_drop]; congr 2; omega, show b.toNat - (a - k).toNat = k.toNat + (b.toNat - a.toNat) from by omega, List.take_add]
theorem KOut.fwd (h : KOut s A a b) (hA : A.length ≤ 1024) (hk : 0 ≤ k ∧ k ≤ A.length - b) : KOut ((s.beginS.killS s.beginS.c.pt (s.beginS.c.pt + k) false).endS 0) A a (b + k) := by
  have hlen := h.len
  have hok := h.ok
  rw [begin_c, h.pt]
  have hta : (A.take a.toNat).length = a.toNat := by simp; omega
  have e0 : s.c.L.drop a.toNat = A.drop b.toNat := by rw [h.L]; exact List.drop_left' hta
  have e1 : s.beginS.cut a (a + k) = (A.drop b.toNat).take k.toNat := by
    unfold EdS.cut
    rw [begin_c, e0]; congr 1; omega
  refine h.step hA (l := (A.drop b.toNat).take k.toNat) (by omega) (by omega) e1 (by simp; omega) (by omega) rfl ?_ ?_ ?_
  · rw [show (a + k).toNat = a.toNat + k.toNat from by omega, ← List.drop_drop, e0, List.drop_drop, show b.toNat + k.toNat = (b + k).toNat from by omega]
    rw [show s.c.L.take a.toNat = A.take a.toNat from by rw [h.L]; exact List.take_left' hta]
  · intro h1 h2
    have h3 := congrArg List.length h1
    simp at h3; omega
  · simp only [Bool.false_eq_true, if_false]
    rw [show A.drop b.toNat = (A.drop a.toNat).drop (b.toNat - a.toNat) from by rw [List.drop_drop]; congr 1; omega, show (b + k).toNat - a.toNat = (b.toNat - a.toNat) + k.toNat from by omega, List.take_add]
/-- What is yanked then. -/
theorem KOut.yank (h : KOut s A a b) (hA : A.length ≤ 1024) : (a = b → ((s.beginS.yankS).endS s.beginS.yankE).c.L.length = A.length) ∧
    (a ≠ b → s.beginS.yankE = 0 ∧ ((s.beginS.yankS).endS s.beginS.yankE).c.L = A ∧ ((s.beginS.yankS).endS s.beginS.yankE).c.mark = a ∧ ((s.beginS.yankS).endS s.beginS.yankE).c.pt = b) := by
  have hlen := h.len
  have hok := h.ok
  have hi := beginS_inn s
  rcases h.ring with ⟨h1, h2⟩ | ⟨h1, h2, h3⟩
  · have hy : s.beginS.yankE = 6 := by unfold EdS.yankE; rw [if_pos hi, begin_c, h1]; rfl
    refine ⟨fun _ => ?_, fun c => absurd h2 c⟩
    have e1 : s.beginS.yankS = s.beginS := by unfold EdS.yankS; rw [if_neg (by rw [hy]; decide)]
    rw [e1, hy]
    have e2 : (s.beginS.endS 6).c.L = s.c.L := by
      unfold EdS.endS; rw [if_pos hi, if_neg (by decide)]
      unfold EdS.beginS EdS.endBad; rw [if_neg (by rw [h.inn]; decide)]
    rw [e2]; omega
  · have htop : s.beginS.top = (A.drop a.toNat).take (b.toNat - a.toNat) := by unfold EdS.top; rw [begin_c, h1, h2]; rfl
    have htl : s.beginS.top.length = b.toNat - a.toNat := by rw [htop]; simp; omega
    have hE : replE s.c.L a a s.beginS.top = 0 := by unfold replE; rw [if_neg (by omega), if_neg (by omega)]
    have hy : s.beginS.yankE = 0 := by
      unfold EdS.yankE EdS.insE EdS.replEd
      rw [if_pos hi, if_neg (by rw [begin_c, h1]; simp), if_pos hi, begin_c, h.pt, hE]
    have hta : (A.take a.toNat).length = a.toNat := by simp; omega
    have e0 : s.c.L.drop a.toNat = A.drop b.toNat := by rw [h.L]; exact List.drop_left' hta
    have e9 : s.c.L.take a.toNat = A.take a.toNat := by rw [h.L]; exact List.take_left' hta
    obtain ⟨r1, r2, r3, r4, r5, r6, r7, r8⟩ := replS_c hi s.beginS.c.pt s.beginS.c.pt s.beginS.top
    rw [begin_c, h.pt] at r1 r2
    have hI : s.beginS.insS s.beginS.top = s.beginS.replS s.beginS.c.pt s.beginS.c.pt s.beginS.top := rfl
    rw [begin_c, h.pt] at hI
    have hL2 : replL s.c.L a a s.beginS.top = A := by
      unfold replL; rw [if_pos hE, e0, e9, htop]
      rw [show A.drop b.toNat = (A.drop a.toNat).drop (b.toNat - a.toNat) from by rw [List.drop_drop]; congr 1; omega, List.append_assoc, List.take_append_drop, List.take_append_drop]
    have hP2 : replP s.c.L a a a s.beginS.top = b := by
      unfold replP movedP; rw [if_pos hE]
      split <;> (try split) <;> omega
    have eY : s.beginS.yankS = (let t := s.beginS.insS s.beginS.top; { t with yanked := true, cls := 2, c := { t.c with mark := smM t.c.L t.c.mark s.beginS.c.pt, fr := s.beginS.c.pt, to := s.beginS.c.pt + s.beginS.top.length } }) := by
      unfold EdS.yankS; rw [if_pos hy]
    have gL : s.beginS.yankS.c.L = A := by rw [eY]; show (s.beginS.insS s.beginS.top).c.L = A; rw [hI, begin_c, h.pt] at *; exact r1.trans hL2
    have gP : s.beginS.yankS.c.pt = b := by rw [eY]; show (s.beginS.insS s.beginS.top).c.pt = b; rw [hI]; exact r2.trans hP2
    have gI : s.beginS.yankS.inn = true := by rw [eY]; show (s.beginS.insS s.beginS.top).inn = true; exact r6
    have gM : s.beginS.yankS.c.mark = a := by
      have gL' : (s.beginS.insS s.beginS.top).c.L = A := by have := gL; rw [eY] at this; exact this
      rw [eY]
      show smM (s.beginS.insS s.beginS.top).c.L (s.beginS.insS s.beginS.top).c.mark s.beginS.c.pt = a
      rw [gL', begin_c, h.pt]
      unfold smM; rw [if_neg (by omega)]
    rw [hy]
    refine ⟨fun _ => by rw [end0_L _ gI, gL], fun _ => ⟨rfl, (end0_L _ gI).trans gL, (end0_mark _ gI).trans gM, (end0_pt _ gI).trans gP⟩⟩
end
end Go.Proofs.Ytgmpclifphbjkaa
end
section
/- Editors: the small parts of commands. -/
set_option linter.unusedSimpArgs false
set_option linter.unusedVariables false
namespace Go.Proofs.Ytgmpclifphbjkaa
open Go.RowKit
section
variable {w0 w : World} {F : HP} {e p h pr : Nat} {s : EdS} {x : Int} {b : Bool}
theorem setBuf_ok (h : EdSOk s) (L : List Int) (pt mk : Int) : EdSOk (s.setBuf L pt mk) := h
theorem ed_move_ret (H : Holds w0 w (EdRep e s • F)) : Ret Try.prog 11 #[.pointer (some ⟨e, 0, none⟩), .int .i64 x] w fun v w' => v = .int .i64 (s.moveE x) ∧ Holds w0 w' (EdRep e (s.moveS x) • F) := by
  refine ret_enter Try.func11 rfl Try.ntmps11 (Nat.le_of_ble_eq_true rfl) ?_
  dsimp only [slots0, Nat.reduceAdd]
  refine wc_seq ?_
  refine wc_region ?_
  refine wl_val (r_assign rfl) (ltn rfl) ?_
  refine wl_nil ?_
  refine wq_seq ?_
  refine wc_seq ?_
  refine wc_seq ?_
  refine wc_region ?_
  refine wl_val (r_move rfl) (ltn rfl) ?_
  refine wl_eff (e_call (r_call rfl Try.func25 rfl rfl) (ed_part_ret H)) (ltn rfl) ?_
  rintro _ _ ⟨rfl, rfl⟩
  refine wl_val (r_assign rfl) (ltn rfl) ?_
  refine wl_nil ?_
  refine wq_seq ?_
  refine wc_seq ?_
  refine wc_region ?_
  refine wl_val (r_move rfl) (ltn rfl) ?_
  refine wl_val (r_neq rfl rfl) (ltn rfl) ?_
  refine wl_nil ?_
  refine wq_seq ?_
  refine wc_cond rfl (fun h1 => ?_) (fun h1 => ?_)
  · (try simp only [cmpS] at h1)
    obtain ⟨hin, hpe⟩ := part_no h1
    refine wc_seq ?_
    refine wc_region ?_
    refine wl_val (r_move rfl) (ltn rfl) ?_
    refine wl_val (r_assign rfl) (ltn rfl) ?_
    refine wl_nil ?_
    refine wq_seq ?_
    refine wc_ret ?_
    refine wq_then_ret ?_
    refine wq_end1 (.inl rfl) Try.results11 rfl ?_
    rw [hpe]
    exact ⟨by simp [EdS.moveE, EdS.moveS, hin], by rw [show s.moveS x = s from by simp [EdS.moveE, EdS.moveS, hin]]; exact H⟩
  · (try simp only [cmpS] at h1)
    have hin := part_yes h1
    refine wc_skip ?_
    refine wq_seq ?_
    refine wc_seq ?_
    obtain ⟨pb_e, pr_e, pw_e, pt_e, pm_e, ph_e, bl_e, pv_e, es_e, u0_e, u1_e, u2_e, u3_e, u4_e, u5_e, u6_e, u7_e, u8_e, u9_e, ua_e, ok_e, says_e, plen_e, HE_e⟩ := (H).edO
    refine wc_region ?_
    refine wl_val (r_move rfl) (ltn rfl) ?_
    refine wl_val (r_nil rfl) (ltn rfl) ?_
    refine wl_val (r_fieldA 0 Try.underlying69 rfl rfl Try.sizeOf66 (by decide) rfl (by first | exact Nat.zero_add _ | rfl)) (ltn rfl) ?_
    refine wl_val (r_fieldA 0 Try.underlying66 rfl rfl Try.sizeOf61 (by decide) rfl (by first | exact Nat.zero_add _ | rfl)) (ltn rfl) ?_
    refine wl_val (r_load (plain_of Try.underlying61 rfl) rfl (cell_of_blk (HE_e).get.2 rfl)) (ltn rfl) ?_
    refine wl_val (r_move rfl) (ltn rfl) ?_
    refine wl_eff (e_call (r_call rfl Try.func31 rfl rfl) (buf_move_ret HE_e.f2)) (ltn rfl) ?_
    rintro _ w3 ⟨rfl, H3⟩
    refine wl_val (r_assign rfl) (ltn rfl) ?_
    refine wl_nil ?_
    refine wq_seq ?_
    refine wc_ret ?_
    refine wq_end1 (.inl rfl) Try.results11 rfl ?_
    exact ⟨by simp [EdS.moveE, hin], by rw [show s.moveS x = s.setBuf s.c.L (mvP s.c.L.length s.c.pt x) s.c.mark from by simp [EdS.moveS, hin]]; exact Holds.mk_ed (setBuf_ok ok_e _ _ _) says_e H3.f11.f11.f11.f11.f11.f11.f11.f11.f11.f10.f11⟩
theorem ed_line_ret (H : Holds w0 w (EdRep e s • F)) : Ret Try.prog 14 #[.pointer (some ⟨e, 0, none⟩)] w fun v w' => ∃ u, v = .agg (lineCells u s.c.pt s.c.mark) ∧ Holds w0 w' (RowI 21 .i32 u s.c.L • EdRep e s • F) := by
  refine ret_enter Try.func14 rfl Try.ntmps14 (Nat.le_of_ble_eq_true rfl) ?_
  dsimp only [slots0, Nat.reduceAdd]
  refine wc_seq ?_
  refine wc_region ?_
  refine wl_eff (e_allocL (l := [_, _, _]) H Try.zeroValue38 rfl) (ltn rfl) ?_
  rintro _ w1 ⟨b1, rfl, H1⟩
  refine wl_nil ?_
  refine wq_seq ?_
  refine wc_seq ?_
  refine wc_seq ?_
  refine wc_region ?_
  refine wl_val (r_move rfl) (ltn rfl) ?_
  refine wl_eff (e_call (r_call rfl Try.func23 rfl rfl) (ed_none_ret H1.f2)) (ltn rfl) ?_
  rintro _ _ ⟨rfl, rfl⟩
  refine wl_nil ?_
  refine wq_seq ?_
  refine wc_cond_f rfl ?_
  refine wc_skip ?_
  refine wq_seq ?_
  refine wc_seq ?_
  obtain ⟨pb_e, pr_e, pw_e, pt_e, pm_e, ph_e, bl_e, pv_e, es_e, u0_e, u1_e, u2_e, u3_e, u4_e, u5_e, u6_e, u7_e, u8_e, u9_e, ua_e, ok_e, says_e, plen_e, HE_e⟩ := (H1.f2).edO
  refine wc_region ?_
  refine wl_val (r_move rfl) (ltn rfl) ?_
  refine wl_val (r_nil rfl) (ltn rfl) ?_
  refine wl_val (r_fieldA 0 Try.underlying69 rfl rfl Try.sizeOf66 (by decide) rfl (by first | exact Nat.zero_add _ | rfl)) (ltn rfl) ?_
  refine wl_val (r_fieldA 0 Try.underlying66 rfl rfl Try.sizeOf61 (by decide) rfl (by first | exact Nat.zero_add _ | rfl)) (ltn rfl) ?_
  refine wl_val (r_load (plain_of Try.underlying61 rfl) rfl (cell_of_blk (HE_e).get.2 rfl)) (ltn rfl) ?_
  refine wl_eff (e_call (r_call rfl Try.func32 rfl rfl) (buf_line_ret HE_e.f2)) (ltn rfl) ?_
  rintro _ w4 ⟨u4, rfl, H4⟩
  refine wl_eff0 (e_storePL 0 (l' := [_, _, _]) (us := [_, _, _]) H4.f13 Try.sizeOf38 rfl rfl rfl (ones_cons (by first | rfl | exact Rd.one ((H4).row_rd)) (ones_cons (by first | rfl | assumption) (ones_cons (by first | rfl | assumption) ones_nil))) rfl rfl) ?_
  rintro _ w5 H5
  refine wl_nil ?_
  refine wq_seq ?_
  refine wc_ret ?_
  refine wq_end (.inl rfl) (resC Try.results14 rfl Try.underlying38 rfl (by rw [show (Try.prog.info? 38).map (·.size) = some 3 from by kernel_rfl]; rfl) (H5).get.2) ?_
  have Ho7 := H5.f13.f13.f13.f13.f13.f13.f13.f13.f13.f12.f13
  have Hc8 := Holds.mk_ed (s := s) ok_e says_e Ho7
  exact ⟨_, rfl, Hc8.f2.right.f2⟩
end
end Go.Proofs.Ytgmpclifphbjkaa
end
