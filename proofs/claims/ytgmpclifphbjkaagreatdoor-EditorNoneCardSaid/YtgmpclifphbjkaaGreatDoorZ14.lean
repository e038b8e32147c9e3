import Derived.Test.YtgmpclifphbjkaaGreatDoorZ13
/- Texts of mine, joined: EdC EdMv EdR EdK. -/
section
/- Editors: Begin, Start. -/
set_option linter.unusedSimpArgs false
set_option linter.unusedVariables false
namespace Go.Proofs.YtgmpclifphbjkaaGreatDoor
open Go.RowKit
section
variable {w0 w : World} {F : HP} {e p h pr : Nat} {s : EdS} {hl : List HLn} {base most m : Int} {v : Value} {l : List Int}
theorem beginS_no (h : s.inn = false) : s.beginS = { s with inn := true, was := s.c, cls := 0, killed := false, yanked := false, argues := false, whole := true, put := [] } := by unfold EdS.beginS; rw [if_neg (by simp [h])]
theorem beginS_yes (h : s.inn = true) : s.beginS = s := by unfold EdS.beginS; rw [if_pos h]
theorem uTot_le {G : List (List EdA)} {N : List EdA} (h : uTot G N ≤ 16384) : uTot G [] ≤ 16384 := by unfold uTot at *; simp at *; omega
theorem begin_ok (h : EdSOk s) (hi : s.inn = false) : EdSOk s.beginS := by
  rw [beginS_no hi]
  obtain ⟨h1, h2, h3, h4, h5, h6⟩ := h
  exact ⟨h1, fun _ => ⟨h1, uTot_le h5, h6⟩, h3, by simp, uTot_le h5, h6⟩
theorem ed_begin_ret (H : Holds w0 w (EdRep e s • F)) : Ret Tryz.prog 11 #[.pointer (some ⟨e, 0, none⟩)] w fun v w' => v = .int .i64 s.beginE ∧ Holds w0 w' (EdRep e s.beginS • F) := by
  refine ret_enter Tryz.func11 rfl Tryz.ntmps11 (Nat.le_of_ble_eq_true rfl) ?_
  dsimp only [slots0, Nat.reduceAdd]
  refine wc_seq ?_
  refine wc_region ?_
  refine wl_val (r_assign rfl) (ltn rfl) ?_
  refine wl_nil ?_
  refine wq_seq ?_
  refine wc_seq ?_
  refine wc_block ?_
  refine wc_seq ?_
  refine wc_region ?_
  refine wl_val (r_move rfl) (ltn rfl) ?_
  refine wl_eff (e_call (r_call rfl Tryz.func43 rfl rfl) (ed_none_ret H)) (ltn rfl) ?_
  rintro _ _ ⟨rfl, rfl⟩
  refine wl_val (r_assign rfl) (ltn rfl) ?_
  refine wl_nil ?_
  refine wq_seq ?_
  refine wc_cond_f rfl ?_
  refine wc_seq ?_
  obtain ⟨pb_e, pr_e, pw_e, pt_e, pm_e, ph_e, bl_e, pv_e, es_e, u0_e, u1_e, u2_e, u3_e, u4_e, u5_e, u6_e, u7_e, u8_e, u9_e, ua_e, ok_e, says_e, plen_e, HE_e⟩ := (H).edO
  refine wc_region ?_
  refine wl_val (r_move rfl) (ltn rfl) ?_
  refine wl_val (r_nil rfl) (ltn rfl) ?_
  refine wl_val (r_fieldA 16 Tryz.underlying66 rfl rfl Tryz.sizeOf4 (by decide) rfl (by first | exact Nat.zero_add _ | rfl)) (ltn rfl) ?_
  refine wl_val (r_load (plain_of Tryz.underlying4 rfl) rfl (cell_of_blk (HE_e).get.2 rfl)) (ltn rfl) ?_
  refine wl_val (r_assign rfl) (ltn rfl) ?_
  refine wl_nil ?_
  refine wq_seq ?_
  refine wc_cond rfl (fun h1 => ?_) (fun h1 => ?_)
  · (try simp only [cmpS] at h1)
    try (exfalso; first | contradiction | omega)
    all_goals
      have hin := h1
      refine wc_seq ?_
      refine wc_region ?_
      refine wl_val (r_assign rfl) (ltn rfl) ?_
      refine wl_nil ?_
      refine wq_seq ?_
      refine wc_ret ?_
      refine wq_block_ret ?_
      refine wq_then_ret ?_
      refine wq_end1 (.inl rfl) Tryz.results11 rfl ?_
      exact ⟨by unfold EdS.beginE; rw [if_pos hin], by rw [beginS_yes hin]; exact Holds.mk_ed ok_e says_e HE_e.f11.f11.f11.f11.f11.f11.f11.f11.f11.f11.f11⟩
  · (try simp only [cmpS] at h1)
    try (exfalso; first | contradiction | omega)
    all_goals
      have hin := h1
      refine wc_skip ?_
      refine wq_block_normal ?_
      refine wq_seq ?_
      refine wc_seq ?_
      refine wc_region ?_
      refine wl_val (r_move rfl) (ltn rfl) ?_
      refine wl_val (r_move rfl) (ltn rfl) ?_
      refine wl_val (r_move rfl) (ltn rfl) ?_
      refine wl_val (r_nil rfl) (ltn rfl) ?_
      refine wl_val (r_fieldA 0 Tryz.underlying66 rfl rfl Tryz.sizeOf62 (by decide) rfl (by first | exact Nat.zero_add _ | rfl)) (ltn rfl) ?_
      refine wl_val (r_load_part 0 (xs := [_, _, _, _, _, _, _, _, _, _, _]) Tryz.underlying62 rfl Tryz.sizeOf62 rfl rfl (HE_e).get.2 rfl) (ltn rfl) ?_
      refine wl_eff (e_call (r_call rfl Tryz.func44 rfl rfl) (twin_ret HE_e.f6.f6.f6.f6.f6)) (ltn rfl) ?_
      rintro _ w3 ⟨qb3, qr3, qw3, qt3, qm3, rfl, H3⟩
      refine wl_val (r_nil rfl) (ltn rfl) ?_
      refine wl_val (r_fieldA 16 Tryz.underlying66 rfl rfl Tryz.sizeOf4 (by decide) rfl (by first | exact Nat.zero_add _ | rfl)) (ltn rfl) ?_
      refine wl_eff0 (e_storeL 16 (l' := [_, _, _, _, _, _, _, _, _, _, _, _, _, _, _, _, _, _, _, _, _, _, _, _, _, _, _, _, _, _, _, _, _, _]) H3.f11 Tryz.sizeOf4 rfl rfl (by first | rfl | assumption) rfl rfl) ?_
      rintro _ w4 H4
      refine wl_val (r_nil rfl) (ltn rfl) ?_
      refine wl_val (r_fieldA 17 Tryz.underlying66 rfl rfl Tryz.sizeOf62 (by decide) rfl (by first | exact Nat.zero_add _ | rfl)) (ltn rfl) ?_
      refine wl_eff0 (e_storePL 17 (l' := [_, _, _, _, _, _, _, _, _, _, _, _, _, _, _, _, _, _, _, _, _, _, _, _, _, _, _, _, _, _, _, _, _, _]) (us := [_, _, _, _, _, _, _, _, _, _, _]) H4 Tryz.sizeOf62 rfl rfl rfl (ones_cons (by first | rfl | assumption) (ones_cons (by first | rfl | assumption) (ones_cons (by first | rfl | assumption) (ones_cons (by first | rfl | assumption) (ones_cons (by first | rfl | assumption) (ones_cons (by first | rfl | assumption) (ones_cons (by first | rfl | assumption) (ones_cons (by first | rfl | assumption) (ones_cons (by first | rfl | assumption) (ones_cons (by first | rfl | assumption) (ones_cons (by first | rfl | assumption) ones_nil))))))))))) rfl rfl) ?_
      rintro _ w5 H5
      refine wl_nil ?_
      refine wq_seq ?_
      refine wc_seq ?_
      refine wc_region ?_
      refine wl_val (r_move rfl) (ltn rfl) ?_
      refine wl_val (r_move rfl) (ltn rfl) ?_
      refine wl_val (r_move rfl) (ltn rfl) ?_
      refine wl_val (r_move rfl) (ltn rfl) ?_
      refine wl_val (r_move rfl) (ltn rfl) ?_
      refine wl_val (r_move rfl) (ltn rfl) ?_
      refine wl_val (r_nil rfl) (ltn rfl) ?_
      refine wl_val (r_fieldA 28 Tryz.underlying66 rfl rfl Tryz.sizeOf3 (by decide) rfl (by first | exact Nat.zero_add _ | rfl)) (ltn rfl) ?_
      refine wl_eff0 (e_storeL 28 (l' := [_, _, _, _, _, _, _, _, _, _, _, _, _, _, _, _, _, _, _, _, _, _, _, _, _, _, _, _, _, _, _, _, _, _]) H5 Tryz.sizeOf3 rfl rfl (by first | rfl | assumption) rfl rfl) ?_
      rintro _ w6 H6
      refine wl_val (r_nil rfl) (ltn rfl) ?_
      refine wl_val (r_fieldA 29 Tryz.underlying66 rfl rfl Tryz.sizeOf4 (by decide) rfl (by first | exact Nat.zero_add _ | rfl)) (ltn rfl) ?_
      refine wl_eff0 (e_storeL 29 (l' := [_, _, _, _, _, _, _, _, _, _, _, _, _, _, _, _, _, _, _, _, _, _, _, _, _, _, _, _, _, _, _, _, _, _]) H6 Tryz.sizeOf4 rfl rfl (by first | rfl | assumption) rfl rfl) ?_
      rintro _ w7 H7
      refine wl_val (r_nil rfl) (ltn rfl) ?_
      refine wl_val (r_fieldA 30 Tryz.underlying66 rfl rfl Tryz.sizeOf4 (by decide) rfl (by first | exact Nat.zero_add _ | rfl)) (ltn rfl) ?_
      refine wl_eff0 (e_storeL 30 (l' := [_, _, _, _, _, _, _, _, _, _, _, _, _, _, _, _, _, _, _, _, _, _, _, _, _, _, _, _, _, _, _, _, _, _]) H7 Tryz.sizeOf4 rfl rfl (by first | rfl | assumption) rfl rfl) ?_
      rintro _ w8 H8
      refine wl_val (r_nil rfl) (ltn rfl) ?_
      refine wl_val (r_fieldA 31 Tryz.underlying66 rfl rfl Tryz.sizeOf4 (by decide) rfl (by first | exact Nat.zero_add _ | rfl)) (ltn rfl) ?_
      refine wl_eff0 (e_storeL 31 (l' := [_, _, _, _, _, _, _, _, _, _, _, _, _, _, _, _, _, _, _, _, _, _, _, _, _, _, _, _, _, _, _, _, _, _]) H8 Tryz.sizeOf4 rfl rfl (by first | rfl | assumption) rfl rfl) ?_
      rintro _ w9 H9
      refine wl_val (r_nil rfl) (ltn rfl) ?_
      refine wl_val (r_fieldA 32 Tryz.underlying66 rfl rfl Tryz.sizeOf4 (by decide) rfl (by first | exact Nat.zero_add _ | rfl)) (ltn rfl) ?_
      refine wl_eff0 (e_storeL 32 (l' := [_, _, _, _, _, _, _, _, _, _, _, _, _, _, _, _, _, _, _, _, _, _, _, _, _, _, _, _, _, _, _, _, _, _]) H9 Tryz.sizeOf4 rfl rfl (by first | rfl | assumption) rfl rfl) ?_
      rintro _ w10 H10
      refine wl_val (r_nil rfl) (ltn rfl) ?_
      refine wl_val (r_fieldA 33 Tryz.underlying66 rfl rfl Tryz.sizeOf64 (by decide) rfl (by first | exact Nat.zero_add _ | rfl)) (ltn rfl) ?_
      refine wl_eff0 (e_storeL 33 (l' := [_, _, _, _, _, _, _, _, _, _, _, _, _, _, _, _, _, _, _, _, _, _, _, _, _, _, _, _, _, _, _, _, _, _]) H10 Tryz.sizeOf64 rfl rfl (by first | rfl | assumption) rfl rfl) ?_
      rintro _ w11 H11
      refine wl_nil ?_
      refine wq_seq ?_
      refine wc_seq ?_
      refine wc_region ?_
      refine wl_val (r_assign rfl) (ltn rfl) ?_
      refine wl_nil ?_
      refine wq_seq ?_
      refine wc_ret ?_
      refine wq_end1 (.inl rfl) Tryz.results11 rfl ?_
      have Ho12 := H11.f6.f6.f6.f6.f6
      have Hc13 := Holds.mk_was (c := s.c) Ho12
      exact ⟨by unfold EdS.beginE; rw [if_neg (by simp [hin])], by rw [beginS_no hin]; exact Holds.mk_edP (beginS_no hin ▸ begin_ok ok_e hin) rfl Hc13.f10.right.f10.right.f10.right.f9.f9.f9.f9.f9.f9.f9.f9⟩
end
end Go.Proofs.YtgmpclifphbjkaaGreatDoor
end
section
/- Editors: the small parts of commands. -/
set_option linter.unusedSimpArgs false
set_option linter.unusedVariables false
namespace Go.Proofs.YtgmpclifphbjkaaGreatDoor
open Go.RowKit
section
variable {w0 w : World} {F : HP} {e p h pr : Nat} {s : EdS} {x : Int} {b : Bool}
theorem setBuf_ok (h : EdSOk s) (L : List Int) (pt mk : Int) : EdSOk (s.setBuf L pt mk) := h
end
end Go.Proofs.YtgmpclifphbjkaaGreatDoor
end
section
/- Editors: Replace, Insert, Erase, Type. -/
set_option linter.unusedSimpArgs false
set_option linter.unusedVariables false
namespace Go.Proofs.YtgmpclifphbjkaaGreatDoor
open Go.RowKit
theorem repl_none {L : List Int} {i j : Int} {l : List Int} (h : replE L i j l ≠ 0) : replD L i j l = [] ∧ replI L i j l = [] := by unfold replD replI; rw [if_neg h, if_neg h]; exact ⟨rfl, rfl⟩
theorem repl_ok {L : List Int} {i j : Int} {l : List Int} (hL : L.length ≤ 1024) (h : 0 < (replD L i j l).length + (replI L i j l).length) : EdOk (replA L i j l, replD L i j l, replI L i j l) := by
  by_cases h0 : replE L i j l = 0
  · refine ⟨?_, h, ?_, ?_⟩
    · show 0 ≤ replA L i j l
      unfold replA; rw [if_pos h0]
      unfold replE at h0
      split at h0
      · cases h0
      · omega
    · show (replD L i j l).length ≤ 1024
      unfold replD; rw [if_pos h0]
      simp only [List.length_take, List.length_drop]; omega
    · show (replI L i j l).length ≤ 1024
      unfold replI; rw [if_pos h0]
      unfold replE at h0
      split at h0
      · cases h0
      · split at h0
        · cases h0
        · omega
  · rw [(repl_none h0).1, (repl_none h0).2] at h
    simp at h
theorem repl_len {L : List Int} {i j : Int} {l : List Int} (hL : L.length ≤ 1024) : (replD L i j l).length ≤ 1024 ∧ (replI L i j l).length ≤ 1024 := by
  by_cases h0 : replE L i j l = 0
  · refine ⟨?_, ?_⟩
    · unfold replD; rw [if_pos h0]
      simp only [List.length_take, List.length_drop]; omega
    · unfold replI; rw [if_pos h0]
      unfold replE at h0
      split at h0
      · cases h0
      · split at h0
        · cases h0
        · omega
  · rw [(repl_none h0).1, (repl_none h0).2]; simp
theorem note_nil {s : EdS} {x : EdA} (h : x.2.1.length + x.2.2.length = 0) : s.noteS x = s := by unfold EdS.noteS; rw [if_pos h]
theorem note_more {s : EdS} {x : EdA} (h : 0 < x.2.1.length + x.2.2.length) (k : ¬ 16384 ≤ uTot s.here s.put) : s.noteS x = { s with put := s.put ++ [x] } := by unfold EdS.noteS; rw [if_neg (by omega), if_neg k]
theorem note_full {s : EdS} {x : EdA} (h : 0 < x.2.1.length + x.2.2.length) (k : 16384 ≤ uTot s.here s.put) : s.noteS x = { s.setUn [] with put := [x], c := { (s.setUn []).c with run := false } } := by unfold EdS.noteS; rw [if_neg (by omega), if_pos k]
theorem uTot_split (G : List (List EdA)) (N : List EdA) : uTot G N = uTot G [] + N.length := by unfold uTot; simp
theorem note_ok {s : EdS} {x : EdA} (h : EdSOk s) (hx : 0 < x.2.1.length + x.2.2.length → EdOk x) : EdSOk (s.noteS x) := by
  by_cases h0 : x.2.1.length + x.2.2.length = 0
  · rw [note_nil h0]; exact h
  · have hx' := hx (by omega)
    obtain ⟨h1, h2, h3, h4, h5, h6⟩ := h
    by_cases hf : 16384 ≤ uTot s.here s.put
    · rw [note_full (by omega) hf]
      refine ⟨h1, h2, h3, fun e he => by rw [List.mem_singleton.1 he]; exact hx', ?_, ?_⟩
      · show uTot (updF s.c.un s.c.place [] s.c.place) [x] ≤ 16384
        rw [updF_same]; simp [uTot]
      · intro k g hg
        have hg' : g ∈ updF s.c.un s.c.place [] k := hg
        by_cases hk : k = s.c.place
        · subst hk; rw [updF_same] at hg'; cases hg'
        · rw [updF_not _ _ hk] at hg'; exact h6 k g hg'
    · rw [note_more (by omega) hf]
      refine ⟨h1, h2, h3, fun e he => ?_, ?_, h6⟩
      · rcases List.mem_append.1 he with he | he
        · exact h4 e he
        · rw [List.mem_singleton.1 he]; exact hx'
      · show uTot s.here (s.put ++ [x]) ≤ 16384
        rw [uTot_in]; omega
section
variable {w0 w : World} {F : HP} {e p h pr : Nat} {s : EdS} {i j x : Int} {b : Bool} {v : Value} {l : List Int}
theorem ed_replace_ret (H : Holds w0 w (EdRep e s • F)) (hr : FRdI w0 F .i32 v l) : Ret Tryz.prog 47 #[.pointer (some ⟨e, 0, none⟩), .int .i64 i, .int .i64 j, v] w fun v' w' => v' = .int .i64 (s.replEd i j l) ∧ Holds w0 w' (EdRep e (s.replS i j l) • F) := by
  refine ret_enter Tryz.func47 rfl Tryz.ntmps47 (Nat.le_of_ble_eq_true rfl) ?_
  dsimp only [slots0, Nat.reduceAdd]
  refine wc_seq ?_
  refine wc_region ?_
  refine wl_val (r_assign rfl) (ltn rfl) ?_
  refine wl_nil ?_
  refine wq_seq ?_
  refine wc_seq ?_
  refine wc_seq ?_
  refine wc_region ?_
  refine wl_val (r_move rfl) (ltn rfl) ?_
  refine wl_eff (e_call (r_call rfl Tryz.func51 rfl rfl) (ed_part_ret H)) (ltn rfl) ?_
  rintro _ _ ⟨rfl, rfl⟩
  refine wl_val (r_assign rfl) (ltn rfl) ?_
  refine wl_nil ?_
  refine wq_seq ?_
  refine wc_seq ?_
  refine wc_region ?_
  refine wl_val (r_move rfl) (ltn rfl) ?_
  refine wl_val (r_neq rfl rfl) (ltn rfl) ?_
  refine wl_nil ?_
  refine wq_seq ?_
  refine wc_cond rfl (fun h1 => ?_) (fun h1 => ?_)
  · (try simp only [cmpS] at h1)
    obtain ⟨hin, hpe⟩ := part_no h1
    refine wc_seq ?_
    refine wc_region ?_
    refine wl_val (r_move rfl) (ltn rfl) ?_
    refine wl_val (r_assign rfl) (ltn rfl) ?_
    refine wl_nil ?_
    refine wq_seq ?_
    refine wc_ret ?_
    refine wq_then_ret ?_
    refine wq_end1 (.inl rfl) Tryz.results47 rfl ?_
    rw [hpe]
    exact ⟨by simp [EdS.replEd, EdS.replS, hin], by rw [show s.replS i j l = s from by simp [EdS.replEd, EdS.replS, hin]]; exact H⟩
  · (try simp only [cmpS] at h1)
    have hin := part_yes h1
    refine wc_skip ?_
    refine wq_seq ?_
    refine wc_seq ?_
    obtain ⟨pb_e, pr_e, pw_e, pt_e, pm_e, ph_e, bl_e, pv_e, es_e, u0_e, u1_e, u2_e, u3_e, u4_e, u5_e, u6_e, u7_e, u8_e, u9_e, ua_e, ok_e, says_e, plen_e, HE_e⟩ := (H).edO
    have hL : s.c.L.length ≤ 1024 := by obtain ⟨a, c, xs, f, t, h1, h2, h3, h4, h5, h6, h7, hc1, hc2, hl, H1⟩ := (HE_e.f2).buf; exact h4
    have hE : s.replEd i j l = replE s.c.L i j l := by unfold EdS.replEd; rw [if_pos hin]
    have hS : s.replS i j l = (s.setBuf (replL s.c.L i j l) (replP s.c.L s.c.pt i j l) (replM s.c.L s.c.mark i j l)).noteS (replA s.c.L i j l, replD s.c.L i j l, replI s.c.L i j l) := by unfold EdS.replS; rw [if_pos hin]
    have hln := repl_len (i := i) (j := j) (l := l) hL
    have hput : uTot s.here s.put ≤ 16384 := ok_e.2.2.2.2.1
    have hsp : uTot s.here s.put = uTot (s.c.un s.c.place) [] + s.put.length := uTot_split _ _
    have hok := repl_ok (i := i) (j := j) (l := l) hL
    have hno := repl_none (L := s.c.L) (i := i) (j := j) (l := l)
    refine wc_region ?_
    refine wl_val (r_move rfl) (ltn rfl) ?_
    refine wl_val (r_nil rfl) (ltn rfl) ?_
    refine wl_val (r_fieldA 0 Tryz.underlying66 rfl rfl Tryz.sizeOf62 (by decide) rfl (by first | exact Nat.zero_add _ | rfl)) (ltn rfl) ?_
    refine wl_val (r_fieldA 0 Tryz.underlying62 rfl rfl Tryz.sizeOf57 (by decide) rfl (by first | exact Nat.zero_add _ | rfl)) (ltn rfl) ?_
    refine wl_val (r_load (plain_of Tryz.underlying57 rfl) rfl (cell_of_blk (HE_e).get.2 rfl)) (ltn rfl) ?_
    refine wl_val (r_move rfl) (ltn rfl) ?_
    refine wl_val (r_move rfl) (ltn rfl) ?_
    refine wl_val (r_move rfl) (ltn rfl) ?_
    refine wl_eff (e_call (r_call rfl Tryz.func113 rfl rfl) (buf_replace_ret HE_e.f2 (fun W HW => hr _ (HW.right.right.right.right.right.right.right.right.right.right)))) (ltn rfl) ?_
    rintro _ w3 ⟨d3, s3, rfl, H3⟩
    refine wl_val (r_move rfl) (ltn rfl) ?_
    refine wl_val (r_extract rfl rfl) (ltn rfl) ?_
    refine wl_val (r_extract rfl rfl) (ltn rfl) ?_
    refine wl_eff (e_allocL (l := [_, _, _]) H3 Tryz.zeroValue120 rfl) (ltn rfl) ?_
    rintro _ w4 ⟨b4, rfl, H4⟩
    refine wl_eff0 (e_storePL 0 (l' := [_, _, _]) (us := [_, _, _]) H4 Tryz.sizeOf120 rfl rfl rfl (ones_cons (by first | rfl | assumption) (ones_cons (by first | rfl | exact Rd.one ((H4.f2).row_rd)) (ones_cons (by first | rfl | exact Rd.one ((H4.f3).row_rd)) ones_nil))) rfl rfl) ?_
    rintro _ w5 H5
    refine wl_val (r_assign rfl) (ltn rfl) ?_
    refine wl_nil ?_
    refine wq_seq ?_
    refine wc_seq ?_
    refine wc_seq ?_
    refine wc_region ?_
    refine wl_val (r_move rfl) (ltn rfl) ?_
    refine wl_val (r_eql rfl rfl) (ltn rfl) ?_
    refine wl_split rfl (ltn rfl) (fun h2 => ?_) (fun h2 => ?_)
    · (try simp only [cmpS] at h2)
      refine wl_yes rfl rfl ?_
      refine wl_val (r_fieldA 1 Tryz.underlying120 rfl rfl Tryz.sizeOf22 (by decide) rfl (by first | exact Nat.zero_add _ | rfl)) (ltn rfl) ?_
      refine wl_yes rfl rfl ?_
      refine wl_val (r_load (plain_of Tryz.underlying22 rfl) rfl (cell_of_blk (H5).get.2 rfl)) (ltn rfl) ?_
      refine wl_yes rfl rfl ?_
      refine wl_val (r_lenR ((H5.f2).row_rd) Tryz.underlying22 rfl) (ltn rfl) ?_
      refine wl_yes rfl rfl ?_
      refine wl_val (r_fieldA 2 Tryz.underlying120 rfl rfl Tryz.sizeOf22 (by decide) rfl (by first | exact Nat.zero_add _ | rfl)) (ltn rfl) ?_
      refine wl_yes rfl rfl ?_
      refine wl_val (r_load (plain_of Tryz.underlying22 rfl) rfl (cell_of_blk (H5).get.2 rfl)) (ltn rfl) ?_
      refine wl_yes rfl rfl ?_
      refine wl_val (r_lenR ((H5.f3).row_rd) Tryz.underlying22 rfl) (ltn rfl) ?_
      refine wl_yes rfl rfl ?_
      refine wl_val (r_add rfl rfl (by omega)) (ltn rfl) ?_
      refine wl_yes rfl rfl ?_
      refine wl_val (r_gtr rfl rfl) (ltn rfl) ?_
      refine wl_val (r_pick_t rfl rfl) (ltn rfl) ?_
      refine wl_nil ?_
      refine wq_seq ?_
      refine wc_cond rfl (fun h3 => ?_) (fun h3 => ?_)
      · (try simp only [cmpS] at h3)
        have hlen : 0 < (replD s.c.L i j l).length + (replI s.c.L i j l).length := by omega
        refine wc_seq ?_
        refine wc_seq ?_
        have H6d5 := H5.drew
        have hS6d5 := Holds.kp (H6d5.f9.right.f13.f13.f13.f13.f13.f13.f13.f13.f13.f13.f13.f13.f13)
        refine wd_beginK [6] hS6d5 (by kernel_rfl) (by kernel_rfl) rfl ?_
        refine wd_takeT 0 rfl (by kernel_rfl) (by kernel_rfl) hS6d5 (fun _ => r_move rfl) (ltn rfl) ?_
        refine wd_takeT 3 rfl (by kernel_rfl) (by kernel_rfl) hS6d5 (fun _ => r_move rfl) (ltn rfl) ?_
        refine wd_takeT 4 rfl (by kernel_rfl) (by kernel_rfl) hS6d5 (fun _ => r_nil rfl) (ltn rfl) ?_
        refine wd_takeT 5 rfl (by kernel_rfl) (by kernel_rfl) hS6d5 (fun _ => r_fieldA 33 Tryz.underlying66 rfl rfl Tryz.sizeOf64 (by decide) rfl (by first | exact Nat.zero_add _ | rfl)) (ltn rfl) ?_
        refine wd_take 6 rfl (by kernel_rfl) (by kernel_rfl) hS6d5 (by decide) (fun W hW => r_load (plain_of Tryz.underlying64 rfl) rfl (cell_of_blk ((Kp.h hW).f5).get.2 rfl)) (ltn rfl) ?_
        refine wd_takeT 7 rfl (by kernel_rfl) (by kernel_rfl) hS6d5 (fun _ => r_lenS ((H6d5.f12).row_rd) Tryz.underlying64 rfl) (ltn rfl) ?_
        refine wd_eff 1 rfl (by kernel_rfl) (e_call (r_call rfl Tryz.func57 rfl rfl) (ed_list_ret H6d5.f9.f8.f7)) (ltn rfl) ?_
        rintro _ w6 ⟨lp6, rfl, H6⟩
        have hS6n := Holds.kp (H6.right.f14.f14.f14.f14.f14.f14.f14.f14.f14.f14.f14.f14.f14.f14)
        refine keepK hS6n (fun W hW => (Kp.h hW).right.f13.f13.f13.f13.f13.f13.f8.f13.f9.f13.f13.f13.f13) ?_
        refine wd_eff 2 rfl (by kernel_rfl) (e_call (r_call rfl Tryz.func114 rfl rfl) (undo_edits_ret H6)) (ltn rfl) ?_
        rintro _ w7 ⟨rfl, H7⟩
        have hS7n := Holds.kp (H7.f15.f15.f15.f15.f15.f15.f15.f15.f15.f15.f15.f15.f15.f15.f15)
        refine keepK hS7n (fun W hW => (Kp.h hW).right.f14.f14.f14.f14.f14.f14.f14.f14.f14.f14.f14.f14.f14.f14) ?_
        refine wd_takeT 8 rfl (by kernel_rfl) (by kernel_rfl) hS7n (fun _ => r_add rfl rfl (by omega)) (ltn rfl) ?_
        refine wd_takeT 9 rfl (by kernel_rfl) (by kernel_rfl) hS7n (fun _ => r_geq rfl rfl) (ltn rfl) ?_
        have Ho8 := H7.f2
        have Hc9 := Holds.mk_unhole_id Ho8
        refine wd_done (by kernel_rfl) ?_
        refine wq_seq ?_
        refine wc_cond rfl (fun h4 => ?_) (fun h4 => ?_)
        · (try simp only [cmpS] at h4)
          have htot' : 16384 ≤ uTot (s.setBuf (replL s.c.L i j l) (replP s.c.L s.c.pt i j l) (replM s.c.L s.c.mark i j l)).here (s.setBuf (replL s.c.L i j l) (replP s.c.L s.c.pt i j l) (replM s.c.L s.c.mark i j l)).put := by show 16384 ≤ uTot s.here s.put; omega
          refine wc_seq ?_
          refine wc_region ?_
          refine wl_val (r_move rfl) (ltn rfl) ?_
          refine wl_eff (e_call (r_call rfl Tryz.func57 rfl rfl) (ed_list_ret Hc9.f3.f3)) (ltn rfl) ?_
          rintro _ w10 ⟨lp10, rfl, H10⟩
          refine wl_eff (e_call (r_call rfl Tryz.func115 rfl rfl) (undo_clear_ret H10)) (ltn rfl) ?_
          rintro _ w11 H11
          have Ho12 := H11.f2
          have Hc13 := Holds.mk_unhole Ho12
          refine wl_nil ?_
          refine wq_seq ?_
          refine wc_region ?_
          refine wl_val (r_move rfl) (ltn rfl) ?_
          refine wl_val (r_move rfl) (ltn rfl) ?_
          refine wl_val (r_nil rfl) (ltn rfl) ?_
          refine wl_val (r_fieldA 33 Tryz.underlying66 rfl rfl Tryz.sizeOf64 (by decide) rfl (by first | exact Nat.zero_add _ | rfl)) (ltn rfl) ?_
          refine wl_eff0 (e_storeL 33 (l' := [_, _, _, _, _, _, _, _, _, _, _, _, _, _, _, _, _, _, _, _, _, _, _, _, _, _, _, _, _, _, _, _, _, _]) Hc13.f2 Tryz.sizeOf64 rfl rfl (by first | rfl | assumption) rfl rfl) ?_
          rintro _ w14 H14
          refine wl_val (r_nil rfl) (ltn rfl) ?_
          refine wl_val (r_fieldA 0 Tryz.underlying66 rfl rfl Tryz.sizeOf62 (by decide) rfl (by first | exact Nat.zero_add _ | rfl)) (ltn rfl) ?_
          refine wl_val (r_fieldA 10 Tryz.underlying62 rfl rfl Tryz.sizeOf4 (by decide) rfl (by first | exact Nat.zero_add _ | rfl)) (ltn rfl) ?_
          refine wl_eff0 (e_storeL 10 (l' := [_, _, _, _, _, _, _, _, _, _, _, _, _, _, _, _, _, _, _, _, _, _, _, _, _, _, _, _, _, _, _, _, _, _]) H14 Tryz.sizeOf4 rfl rfl (by first | rfl | assumption) rfl rfl) ?_
          rintro _ w15 H15
          refine wl_nil ?_
          refine wq_seq ?_
          have H9d15 := H15.drew
          have hS9d15 := Holds.kp (H9d15.f14.f14.f14.f14.f14.f14.f14.f14.f14.f14.f14.f14.f14.f14)
          refine wd_beginK [4, 5] hS9d15 (by kernel_rfl) (by kernel_rfl) rfl ?_
          refine wd_takeT 0 rfl (by kernel_rfl) (by kernel_rfl) hS9d15 (fun _ => r_move rfl) (ltn rfl) ?_
          refine wd_takeT 1 rfl (by kernel_rfl) (by kernel_rfl) hS9d15 (fun _ => r_move rfl) (ltn rfl) ?_
          refine wd_takeT 2 rfl (by kernel_rfl) (by kernel_rfl) hS9d15 (fun _ => r_nil rfl) (ltn rfl) ?_
          refine wd_takeT 3 rfl (by kernel_rfl) (by kernel_rfl) hS9d15 (fun _ => r_fieldA 33 Tryz.underlying66 rfl rfl Tryz.sizeOf64 (by decide) rfl (by first | exact Nat.zero_add _ | rfl)) (ltn rfl) ?_
          refine wd_take 4 rfl (by kernel_rfl) (by kernel_rfl) hS9d15 (by decide) (fun W hW => r_load (plain_of Tryz.underlying64 rfl) rfl (cell_of_blk ((Kp.h hW)).get.2 rfl)) (ltn rfl) ?_
          refine wd_take 5 rfl (by kernel_rfl) (by kernel_rfl) hS9d15 (by decide) (fun W hW => r_load_whole Tryz.underlying120 rfl Tryz.sizeOf120 rfl rfl ((Kp.h hW).f4).get.2) (ltn rfl) ?_
          refine wd_eff 6 rfl (by kernel_rfl) (e_lit_one H9d15 Tryz.underlying64 Tryz.sizeOf120 Tryz.zeroValue120 rfl rfl rfl (by decide) (by decide)) (ltn rfl) ?_
          rintro l16 w16 H16
          have hS16n := Holds.kp (H16.f15.f15.f15.f15.f15.f15.f15.f15.f15.f15.f15.f15.f15.f15.f15)
          refine keepK hS16n (fun W hW => (Kp.h hW).right.f14.f14.f14.f14.f14.f14.f14.f14.f14.f14.f14.f14.f14.f14) ?_
          refine wd_eff 7 rfl (by kernel_rfl) (e_append (H16.row_nil none) Tryz.underlying64 (show (Tryz.prog.info? 120).map (fun i => (i.zero, i.size, i.bytes)) = some (some (.agg #[.int .i64 0, .slice none 0 0, .slice none 0 0]), 3, 56) by kernel_rfl) rfl rfl rfl ((H16).row_rd) (ones_cons (by first | rfl | assumption) (ones_cons (by first | rfl | exact Rd.one ((H16.f6).row_rd)) (ones_cons (by first | rfl | exact Rd.one ((H16.f7).row_rd)) ones_nil))) (by omega) (by omega)) (ltn rfl) ?_
          rintro l17 w17 H17
          have Hd18 := H17.f2.right
          have hS18n := Holds.kp (Hd18.f15.f15.f15.f15.f15.f15.f15.f15.f15.f15.f15.f15.f15.f15.f15)
          refine keepX hS18n (by kernel_rfl) ?_
          refine wd_takeT 8 rfl (by kernel_rfl) (by kernel_rfl) hS18n (fun _ => r_nil rfl) (ltn rfl) ?_
          refine wd_takeT 9 rfl (by kernel_rfl) (by kernel_rfl) hS18n (fun _ => r_fieldA 33 Tryz.underlying66 rfl rfl Tryz.sizeOf64 (by decide) rfl (by first | exact Nat.zero_add _ | rfl)) (ltn rfl) ?_
          refine wd_eff0 10 rfl (by kernel_rfl) (e_storeL 33 (l' := [_, _, _, _, _, _, _, _, _, _, _, _, _, _, _, _, _, _, _, _, _, _, _, _, _, _, _, _, _, _, _, _, _, _]) Hd18.f2 Tryz.sizeOf64 rfl rfl (by first | rfl | exact Rd.one ((Hd18).row_rd)) rfl rfl) ?_
          rintro _ w19 H19
          have hS19n := Holds.kp (H19.f15.f15.f15.f15.f15.f15.f15.f15.f15.f15.f15.f15.f15.f15.f15)
          refine keepX hS19n (by kernel_rfl) ?_
          refine wd_done (by kernel_rfl) ?_
          refine wq_seq ?_
          refine wc_seq ?_
          refine wc_region ?_
          refine wl_val (r_move rfl) (ltn rfl) ?_
          refine wl_val (r_assign rfl) (ltn rfl) ?_
          refine wl_nil ?_
          refine wq_seq ?_
          refine wc_ret ?_
          refine wq_end1 (.inl rfl) Tryz.results47 rfl ?_
          have X := (H19.f5.right.f12.right.f12.right.f12.f12.f12.f6.f12.f8.f12.f12.f9.f10.f12.f12).freezeI.swap.freezeI.swap
          have X2 := Holds.edL_snoc (es := []) X.edsK_nil.f3.f3.f4
          exact ⟨by rw [hE]; rfl, by rw [hS, note_full (x := (replA s.c.L i j l, replD s.c.L i j l, replI s.c.L i j l)) hlen htot']; exact Holds.mk_edL (s := { (s.setBuf (replL s.c.L i j l) (replP s.c.L s.c.pt i j l) (replM s.c.L s.c.mark i j l)).setUn [] with put := [(replA s.c.L i j l, replD s.c.L i j l, replI s.c.L i j l)], c := { ((s.setBuf (replL s.c.L i j l) (replP s.c.L s.c.pt i j l) (replM s.c.L s.c.mark i j l)).setUn []).c with run := false } }) (note_full (x := (replA s.c.L i j l, replD s.c.L i j l, replI s.c.L i j l)) hlen htot' ▸ note_ok (setBuf_ok ok_e _ _ _) hok) rfl X2⟩
        · (try simp only [cmpS] at h4)
          have htot' : ¬ 16384 ≤ uTot (s.setBuf (replL s.c.L i j l) (replP s.c.L s.c.pt i j l) (replM s.c.L s.c.mark i j l)).here (s.setBuf (replL s.c.L i j l) (replP s.c.L s.c.pt i j l) (replM s.c.L s.c.mark i j l)).put := by show ¬ 16384 ≤ uTot s.here s.put; omega
          refine wc_skip ?_
          refine wq_seq ?_
          have H9d19 := Hc9.drew
          have hS9d19 := Holds.kp (H9d19.f14.f14.f14.f14.f14.f14.f14.f14.f14.f14.f14.f14.f14.f14)
          refine wd_beginK [4, 5] hS9d19 (by kernel_rfl) (by kernel_rfl) rfl ?_
          refine wd_takeT 0 rfl (by kernel_rfl) (by kernel_rfl) hS9d19 (fun _ => r_move rfl) (ltn rfl) ?_
          refine wd_takeT 1 rfl (by kernel_rfl) (by kernel_rfl) hS9d19 (fun _ => r_move rfl) (ltn rfl) ?_
          refine wd_takeT 2 rfl (by kernel_rfl) (by kernel_rfl) hS9d19 (fun _ => r_nil rfl) (ltn rfl) ?_
          refine wd_takeT 3 rfl (by kernel_rfl) (by kernel_rfl) hS9d19 (fun _ => r_fieldA 33 Tryz.underlying66 rfl rfl Tryz.sizeOf64 (by decide) rfl (by first | exact Nat.zero_add _ | rfl)) (ltn rfl) ?_
          refine wd_take 4 rfl (by kernel_rfl) (by kernel_rfl) hS9d19 (by decide) (fun W hW => r_load (plain_of Tryz.underlying64 rfl) rfl (cell_of_blk ((Kp.h hW).f2).get.2 rfl)) (ltn rfl) ?_
          refine wd_take 5 rfl (by kernel_rfl) (by kernel_rfl) hS9d19 (by decide) (fun W hW => r_load_whole Tryz.underlying120 rfl Tryz.sizeOf120 rfl rfl ((Kp.h hW).f4).get.2) (ltn rfl) ?_
          refine wd_eff 6 rfl (by kernel_rfl) (e_lit_one H9d19 Tryz.underlying64 Tryz.sizeOf120 Tryz.zeroValue120 rfl rfl rfl (by decide) (by decide)) (ltn rfl) ?_
          rintro l20 w20 H20
          have hS20n := Holds.kp (H20.f15.f15.f15.f15.f15.f15.f15.f15.f15.f15.f15.f15.f15.f15.f15)
          refine keepK hS20n (fun W hW => (Kp.h hW).right.f14.f14.f14.f14.f14.f14.f14.f14.f14.f14.f14.f14.f14.f14) ?_
          refine wd_eff 7 rfl (by kernel_rfl) (e_append H20.f13 Tryz.underlying64 (show (Tryz.prog.info? 120).map (fun i => (i.zero, i.size, i.bytes)) = some (some (.agg #[.int .i64 0, .slice none 0 0, .slice none 0 0]), 3, 56) by kernel_rfl) rfl rfl rfl ((H20).row_rd) (ones_cons (by first | rfl | assumption) (ones_cons (by first | rfl | exact Rd.one ((H20.f6).row_rd)) (ones_cons (by first | rfl | exact Rd.one ((H20.f7).row_rd)) ones_nil))) (by omega) (by omega)) (ltn rfl) ?_
          rintro l21 w21 H21
          have Hd22 := H21.f2.right
          have hS22n := Holds.kp (Hd22.f14.f14.f14.f14.f14.f14.f14.f14.f14.f14.f14.f14.f14.f14)
          refine keepX hS22n (by kernel_rfl) ?_
          refine wd_takeT 8 rfl (by kernel_rfl) (by kernel_rfl) hS22n (fun _ => r_nil rfl) (ltn rfl) ?_
          refine wd_takeT 9 rfl (by kernel_rfl) (by kernel_rfl) hS22n (fun _ => r_fieldA 33 Tryz.underlying66 rfl rfl Tryz.sizeOf64 (by decide) rfl (by first | exact Nat.zero_add _ | rfl)) (ltn rfl) ?_
          refine wd_eff0 10 rfl (by kernel_rfl) (e_storeL 33 (l' := [_, _, _, _, _, _, _, _, _, _, _, _, _, _, _, _, _, _, _, _, _, _, _, _, _, _, _, _, _, _, _, _, _, _]) Hd22.f3 Tryz.sizeOf64 rfl rfl (by first | rfl | exact Rd.one ((Hd22).row_rd)) rfl rfl) ?_
          rintro _ w23 H23
          have hS23n := Holds.kp (H23.f14.f14.f14.f14.f14.f14.f14.f14.f14.f14.f14.f14.f14.f14)
          refine keepX hS23n (by kernel_rfl) ?_
          refine wd_done (by kernel_rfl) ?_
          refine wq_seq ?_
          refine wc_seq ?_
          refine wc_region ?_
          refine wl_val (r_move rfl) (ltn rfl) ?_
          refine wl_val (r_assign rfl) (ltn rfl) ?_
          refine wl_nil ?_
          refine wq_seq ?_
          refine wc_ret ?_
          refine wq_end1 (.inl rfl) Tryz.results47 rfl ?_
          have X := (H23.f5.right.f13.f12.f12.f6.f12.f8.f12.f12.f9.f13.f11.f13.f13).freezeI.swap.freezeI.swap
          rw [← plen_e] at X
          have X2 := Holds.edL_snoc X.f3
          exact ⟨by rw [hE]; rfl, by rw [hS, note_more (x := (replA s.c.L i j l, replD s.c.L i j l, replI s.c.L i j l)) hlen htot']; exact Holds.mk_edL (s := { s.setBuf (replL s.c.L i j l) (replP s.c.L s.c.pt i j l) (replM s.c.L s.c.mark i j l) with put := s.put ++ [(replA s.c.L i j l, replD s.c.L i j l, replI s.c.L i j l)] }) (note_more (x := (replA s.c.L i j l, replD s.c.L i j l, replI s.c.L i j l)) hlen htot' ▸ note_ok (setBuf_ok ok_e _ _ _) hok) (by rw [List.map_append, says_e]; rfl) X2⟩
      · (try simp only [cmpS] at h3)
        have hlen : (replD s.c.L i j l).length + (replI s.c.L i j l).length = 0 := by omega
        refine wc_skip ?_
        refine wq_seq ?_
        refine wc_seq ?_
        refine wc_region ?_
        refine wl_val (r_move rfl) (ltn rfl) ?_
        refine wl_val (r_assign rfl) (ltn rfl) ?_
        refine wl_nil ?_
        refine wq_seq ?_
        refine wc_ret ?_
        refine wq_end1 (.inl rfl) Tryz.results47 rfl ?_
        exact ⟨by rw [hE]; rfl, by rw [hS, note_nil (x := (replA s.c.L i j l, replD s.c.L i j l, replI s.c.L i j l)) hlen]; exact Holds.mk_ed (s := s.setBuf (replL s.c.L i j l) (replP s.c.L s.c.pt i j l) (replM s.c.L s.c.mark i j l)) (setBuf_ok ok_e _ _ _) says_e H5.right.right.right.f11.f11.f11.f11.f11.f11.f11.f11.f11.f10.f11⟩
    · (try simp only [cmpS] at h2)
      have hlen : (replD s.c.L i j l).length + (replI s.c.L i j l).length = 0 := by rw [(hno h2).1, (hno h2).2]; rfl
      refine wl_no rfl rfl rfl (ltn rfl) ?_
      refine wl_no rfl rfl rfl (ltn rfl) ?_
      refine wl_no rfl rfl rfl (ltn rfl) ?_
      refine wl_no rfl rfl rfl (ltn rfl) ?_
      refine wl_no rfl rfl rfl (ltn rfl) ?_
      refine wl_no rfl rfl rfl (ltn rfl) ?_
      refine wl_no rfl rfl rfl (ltn rfl) ?_
      refine wl_no rfl rfl rfl (ltn rfl) ?_
      refine wl_val (r_pick_f rfl rfl) (ltn rfl) ?_
      refine wl_nil ?_
      refine wq_seq ?_
      refine wc_cond_f rfl ?_
      refine wc_skip ?_
      refine wq_seq ?_
      refine wc_seq ?_
      refine wc_region ?_
      refine wl_val (r_move rfl) (ltn rfl) ?_
      refine wl_val (r_assign rfl) (ltn rfl) ?_
      refine wl_nil ?_
      refine wq_seq ?_
      refine wc_ret ?_
      refine wq_end1 (.inl rfl) Tryz.results47 rfl ?_
      exact ⟨by rw [hE]; rfl, by rw [hS, note_nil (x := (replA s.c.L i j l, replD s.c.L i j l, replI s.c.L i j l)) hlen]; exact Holds.mk_ed (s := s.setBuf (replL s.c.L i j l) (replP s.c.L s.c.pt i j l) (replM s.c.L s.c.mark i j l)) (setBuf_ok ok_e _ _ _) says_e H5.right.right.right.f11.f11.f11.f11.f11.f11.f11.f11.f11.f10.f11⟩
theorem noteS_cls (s : EdS) (x : EdA) : (s.noteS x).cls = s.cls := by unfold EdS.noteS; split; rfl; split <;> rfl
theorem replS_cls (s : EdS) (i j : Int) (l : List Int) : (s.replS i j l).cls = s.cls := by unfold EdS.replS; split; rw [noteS_cls]; rfl; rfl
theorem ed_type_ret (H : Holds w0 w (EdRep e s • F)) (hr : FRdI w0 F .i32 v l) (hl : (l.length : Int) ≤ 4611686018427387904) : Ret Tryz.prog 21 #[.pointer (some ⟨e, 0, none⟩), v] w fun v' w' => v' = .int .i64 (s.typeE l) ∧ Holds w0 w' (EdRep e (s.typeS l) • F) := by
  refine ret_enter Tryz.func21 rfl Tryz.ntmps21 (Nat.le_of_ble_eq_true rfl) ?_
  dsimp only [slots0, Nat.reduceAdd]
  refine wc_seq ?_
  refine wc_region ?_
  refine wl_val (r_assign rfl) (ltn rfl) ?_
  refine wl_nil ?_
  refine wq_seq ?_
  refine wc_seq ?_
  refine wc_seq ?_
  refine wc_region ?_
  refine wl_val (r_move rfl) (ltn rfl) ?_
  refine wl_eff (e_call (r_call rfl Tryz.func51 rfl rfl) (ed_part_ret H)) (ltn rfl) ?_
  rintro _ _ ⟨rfl, rfl⟩
  refine wl_val (r_assign rfl) (ltn rfl) ?_
  refine wl_nil ?_
  refine wq_seq ?_
  refine wc_seq ?_
  refine wc_region ?_
  refine wl_val (r_move rfl) (ltn rfl) ?_
  refine wl_val (r_neq rfl rfl) (ltn rfl) ?_
  refine wl_nil ?_
  refine wq_seq ?_
  refine wc_cond rfl (fun h1 => ?_) (fun h1 => ?_)
  · (try simp only [cmpS] at h1)
    obtain ⟨hin, hpe⟩ := part_no h1
    refine wc_seq ?_
    refine wc_region ?_
    refine wl_val (r_move rfl) (ltn rfl) ?_
    refine wl_val (r_assign rfl) (ltn rfl) ?_
    refine wl_nil ?_
    refine wq_seq ?_
    refine wc_ret ?_
    refine wq_then_ret ?_
    refine wq_end1 (.inl rfl) Tryz.results21 rfl ?_
    rw [hpe]
    exact ⟨by simp [EdS.typeE, EdS.typeS, EdS.replEd, EdS.replS, hin], by rw [show s.typeS l = s from by simp [EdS.typeE, EdS.typeS, EdS.replEd, EdS.replS, hin]]; exact H⟩
  · (try simp only [cmpS] at h1)
    have hin := part_yes h1
    refine wc_skip ?_
    refine wq_seq ?_
    refine wc_seq ?_
    obtain ⟨pb_e, pr_e, pw_e, pt_e, pm_e, ph_e, bl_e, pv_e, es_e, u0_e, u1_e, u2_e, u3_e, u4_e, u5_e, u6_e, u7_e, u8_e, u9_e, ua_e, ok_e, says_e, plen_e, HE_e⟩ := (H).edO
    have hL : s.c.L.length ≤ 1024 ∧ 0 ≤ s.c.pt ∧ s.c.pt ≤ s.c.L.length := by obtain ⟨a, c, xs, f, t, h1, h2, h3, h4, h5, h6, h7, hc1, hc2, hl, H1⟩ := (HE_e.f2).buf; exact ⟨h4, h6⟩
    refine wc_region ?_
    refine wl_val (r_move rfl) (ltn rfl) ?_
    refine wl_val (r_nil rfl) (ltn rfl) ?_
    refine wl_val (r_fieldA 0 Tryz.underlying66 rfl rfl Tryz.sizeOf62 (by decide) rfl (by first | exact Nat.zero_add _ | rfl)) (ltn rfl) ?_
    refine wl_val (r_fieldA 0 Tryz.underlying62 rfl rfl Tryz.sizeOf57 (by decide) rfl (by first | exact Nat.zero_add _ | rfl)) (ltn rfl) ?_
    refine wl_val (r_load (plain_of Tryz.underlying57 rfl) rfl (cell_of_blk (HE_e).get.2 rfl)) (ltn rfl) ?_
    refine wl_eff (e_call (r_call rfl Tryz.func68 rfl rfl) (buf_point_ret HE_e.f2)) (ltn rfl) ?_
    rintro _ _ ⟨rfl, rfl⟩
    refine wl_val (r_assign rfl) (ltn rfl) ?_
    refine wl_nil ?_
    refine wq_seq ?_
    refine wc_seq ?_
    refine wc_seq ?_
    refine wc_region ?_
    refine wl_val (r_move rfl) (ltn rfl) ?_
    refine wl_val (r_nil rfl) (ltn rfl) ?_
    refine wl_val (r_fieldA 0 Tryz.underlying66 rfl rfl Tryz.sizeOf62 (by decide) rfl (by first | exact Nat.zero_add _ | rfl)) (ltn rfl) ?_
    refine wl_val (r_fieldA 5 Tryz.underlying62 rfl rfl Tryz.sizeOf4 (by decide) rfl (by first | exact Nat.zero_add _ | rfl)) (ltn rfl) ?_
    refine wl_val (r_load (plain_of Tryz.underlying4 rfl) rfl (cell_of_blk (HE_e).get.2 rfl)) (ltn rfl) ?_
    refine wl_nil ?_
    refine wq_seq ?_
    refine wc_cond rfl (fun h2 => ?_) (fun h2 => ?_)
    · (try simp only [cmpS] at h2)
      have hto : s.typeTo l = min (s.c.pt + l.length) s.c.L.length := by unfold EdS.typeTo; rw [if_pos h2]
      refine wc_region ?_
      refine wl_val (r_move rfl) (ltn rfl) ?_
      refine wl_val (r_move rfl) (ltn rfl) ?_
      refine wl_val (r_lenR (hr _ (HE_e.right.right.right.right.right.right.right.right.right.right.right)) Tryz.underlying22 rfl) (ltn rfl) ?_
      refine wl_val (r_add rfl rfl (by omega)) (ltn rfl) ?_
      refine wl_val (r_move rfl) (ltn rfl) ?_
      refine wl_val (r_nil rfl) (ltn rfl) ?_
      refine wl_val (r_fieldA 0 Tryz.underlying66 rfl rfl Tryz.sizeOf62 (by decide) rfl (by first | exact Nat.zero_add _ | rfl)) (ltn rfl) ?_
      refine wl_val (r_fieldA 0 Tryz.underlying62 rfl rfl Tryz.sizeOf57 (by decide) rfl (by first | exact Nat.zero_add _ | rfl)) (ltn rfl) ?_
      refine wl_val (r_load (plain_of Tryz.underlying57 rfl) rfl (cell_of_blk (HE_e).get.2 rfl)) (ltn rfl) ?_
      refine wl_eff (e_call (r_call rfl Tryz.func69 rfl rfl) (buf_len_ret HE_e.f2)) (ltn rfl) ?_
      rintro _ w4 ⟨rfl, hD4⟩
      have HD4 := HE_e.drewn hD4
      refine wl_val (r_min rfl rfl) (ltn rfl) ?_
      refine wl_val (r_assign rfl) (ltn rfl) ?_
      refine wl_nil ?_
      refine wq_seq ?_
      refine wc_seq ?_
      refine wc_region ?_
      refine wl_val (r_move rfl) (ltn rfl) ?_
      refine wl_val (r_move rfl) (ltn rfl) ?_
      refine wl_val (r_nil rfl) (ltn rfl) ?_
      refine wl_val (r_fieldA 0 Tryz.underlying66 rfl rfl Tryz.sizeOf62 (by decide) rfl (by first | exact Nat.zero_add _ | rfl)) (ltn rfl) ?_
      refine wl_val (r_fieldA 0 Tryz.underlying62 rfl rfl Tryz.sizeOf57 (by decide) rfl (by first | exact Nat.zero_add _ | rfl)) (ltn rfl) ?_
      refine wl_val (r_load (plain_of Tryz.underlying57 rfl) rfl (cell_of_blk (HD4).get.2 rfl)) (ltn rfl) ?_
      refine wl_eff (e_call (r_call rfl Tryz.func68 rfl rfl) (buf_point_ret HD4.f2)) (ltn rfl) ?_
      rintro _ _ ⟨rfl, rfl⟩
      have Ho7 := HD4.f11.f11.f11.f11.f11.f11.f11.f11.f11.f11.f11
      have Hc8 := Holds.mk_ed (s := s) ok_e says_e Ho7
      refine wl_val (r_move rfl) (ltn rfl) ?_
      refine wl_val (r_move rfl) (ltn rfl) ?_
      refine wl_eff (e_call (r_call rfl Tryz.func47 rfl rfl) (ed_replace_ret Hc8 (fun W HW => hr _ (HW)))) (ltn rfl) ?_
      rintro _ w9 ⟨rfl, H9⟩
      have HT : Holds w0 w9 (EdRep e (s.replS s.c.pt (s.typeTo l) l) • F) := by rw [hto]; exact H9
      have hc0 := replS_cls s s.c.pt (s.typeTo l) l
      have hE : s.typeE l = s.replEd s.c.pt (s.typeTo l) l := rfl
      rw [hto] at hE
      refine wl_val (r_assign rfl) (ltn rfl) ?_
      refine wl_nil ?_
      refine wq_seq ?_
      refine wc_seq ?_
      refine wc_seq ?_
      refine wc_region ?_
      refine wl_val (r_move rfl) (ltn rfl) ?_
      refine wl_val (r_eql rfl rfl) (ltn rfl) ?_
      refine wl_split rfl (ltn rfl) (fun h3 => ?_) (fun h3 => ?_)
      · (try simp only [cmpS] at h3)
        have hE0 := h3
        obtain ⟨pb_e, pr_e, pw_e, pt_e, pm_e, ph_e, bl_e, pv_e, es_e, u0_e, u1_e, u2_e, u3_e, u4_e, u5_e, u6_e, u7_e, u8_e, u9_e, ua_e, ok_e, says_e, plen_e, HE_e⟩ := (HT).edO
        refine wl_yes rfl rfl ?_
        refine wl_val (r_move rfl) (ltn rfl) ?_
        refine wl_yes rfl rfl ?_
        refine wl_val (r_nil rfl) (ltn rfl) ?_
        refine wl_yes rfl rfl ?_
        refine wl_val (r_fieldA 28 Tryz.underlying66 rfl rfl Tryz.sizeOf3 (by decide) rfl (by first | exact Nat.zero_add _ | rfl)) (ltn rfl) ?_
        refine wl_yes rfl rfl ?_
        refine wl_val (r_load (plain_of Tryz.underlying3 rfl) rfl (cell_of_blk (HE_e).get.2 rfl)) (ltn rfl) ?_
        refine wl_yes rfl rfl ?_
        refine wl_val (r_eql rfl rfl) (ltn rfl) ?_
        refine wl_val (r_pick_t rfl rfl) (ltn rfl) ?_
        refine wl_nil ?_
        refine wq_seq ?_
        refine wc_cond rfl (fun h4 => ?_) (fun h4 => ?_)
        · (try simp only [cmpS] at h4)
          have hcl := h4
          refine wc_region ?_
          refine wl_val (r_move rfl) (ltn rfl) ?_
          refine wl_val (r_nil rfl) (ltn rfl) ?_
          refine wl_val (r_fieldA 28 Tryz.underlying66 rfl rfl Tryz.sizeOf3 (by decide) rfl (by first | exact Nat.zero_add _ | rfl)) (ltn rfl) ?_
          refine wl_eff0 (e_storeL 28 (l' := [_, _, _, _, _, _, _, _, _, _, _, _, _, _, _, _, _, _, _, _, _, _, _, _, _, _, _, _, _, _, _, _, _, _]) HE_e Tryz.sizeOf3 rfl rfl (by first | rfl | assumption) rfl rfl) ?_
          rintro _ w11 H11
          refine wl_nil ?_
          refine wq_seq ?_
          refine wc_seq ?_
          refine wc_region ?_
          refine wl_val (r_move rfl) (ltn rfl) ?_
          refine wl_val (r_assign rfl) (ltn rfl) ?_
          refine wl_nil ?_
          refine wq_seq ?_
          refine wc_ret ?_
          refine wq_end1 (.inl rfl) Tryz.results21 rfl ?_
          have e1 : s.typeS l = { s.replS s.c.pt (s.typeTo l) l with cls := 3 } := by unfold EdS.typeS; rw [if_pos hin]; dsimp only; rw [if_pos ⟨hE.trans hE0, hc0.symm.trans hcl⟩]
          exact ⟨by rw [hE], by rw [e1]; exact Holds.mk_ed (s := { s.replS s.c.pt (s.typeTo l) l with cls := 3 }) ok_e says_e H11.f11.f11.f11.f11.f11.f11.f11.f11.f11.f11.f11⟩
        · (try simp only [cmpS] at h4)
          have hcl := h4
          refine wc_skip ?_
          refine wq_seq ?_
          refine wc_seq ?_
          refine wc_region ?_
          refine wl_val (r_move rfl) (ltn rfl) ?_
          refine wl_val (r_assign rfl) (ltn rfl) ?_
          refine wl_nil ?_
          refine wq_seq ?_
          refine wc_ret ?_
          refine wq_end1 (.inl rfl) Tryz.results21 rfl ?_
          have e1 : s.typeS l = s.replS s.c.pt (s.typeTo l) l := by unfold EdS.typeS; rw [if_pos hin]; dsimp only; rw [if_neg (fun h => hcl (hc0.trans h.2))]
          exact ⟨by rw [hE], by rw [e1]; exact Holds.mk_ed (s := s.replS s.c.pt (s.typeTo l) l) ok_e says_e HE_e.f11.f11.f11.f11.f11.f11.f11.f11.f11.f11.f11⟩
      · (try simp only [cmpS] at h3)
        have hE0 := h3
        refine wl_no rfl rfl rfl (ltn rfl) ?_
        refine wl_no rfl rfl rfl (ltn rfl) ?_
        refine wl_no rfl rfl rfl (ltn rfl) ?_
        refine wl_no rfl rfl rfl (ltn rfl) ?_
        refine wl_no rfl rfl rfl (ltn rfl) ?_
        refine wl_val (r_pick_f rfl rfl) (ltn rfl) ?_
        refine wl_nil ?_
        refine wq_seq ?_
        refine wc_cond_f rfl ?_
        refine wc_skip ?_
        refine wq_seq ?_
        refine wc_seq ?_
        refine wc_region ?_
        refine wl_val (r_move rfl) (ltn rfl) ?_
        refine wl_val (r_assign rfl) (ltn rfl) ?_
        refine wl_nil ?_
        refine wq_seq ?_
        refine wc_ret ?_
        refine wq_end1 (.inl rfl) Tryz.results21 rfl ?_
        have e1 : s.typeS l = s.replS s.c.pt (s.typeTo l) l := by unfold EdS.typeS; rw [if_pos hin]; dsimp only; rw [if_neg (fun h => hE0 (hE.symm.trans h.1))]
        exact ⟨by rw [hE], by rw [e1]; exact HT⟩
    · (try simp only [cmpS] at h2)
      have hto : s.typeTo l = s.c.pt := by unfold EdS.typeTo; rw [if_neg (by simp [h2])]
      refine wc_skip ?_
      refine wq_seq ?_
      refine wc_seq ?_
      refine wc_region ?_
      refine wl_val (r_move rfl) (ltn rfl) ?_
      refine wl_val (r_move rfl) (ltn rfl) ?_
      refine wl_val (r_nil rfl) (ltn rfl) ?_
      refine wl_val (r_fieldA 0 Tryz.underlying66 rfl rfl Tryz.sizeOf62 (by decide) rfl (by first | exact Nat.zero_add _ | rfl)) (ltn rfl) ?_
      refine wl_val (r_fieldA 0 Tryz.underlying62 rfl rfl Tryz.sizeOf57 (by decide) rfl (by first | exact Nat.zero_add _ | rfl)) (ltn rfl) ?_
      refine wl_val (r_load (plain_of Tryz.underlying57 rfl) rfl (cell_of_blk (HE_e).get.2 rfl)) (ltn rfl) ?_
      refine wl_eff (e_call (r_call rfl Tryz.func68 rfl rfl) (buf_point_ret HE_e.f2)) (ltn rfl) ?_
      rintro _ _ ⟨rfl, rfl⟩
      have Ho14 := HE_e.f11.f11.f11.f11.f11.f11.f11.f11.f11.f11.f11
      have Hc15 := Holds.mk_ed (s := s) ok_e says_e Ho14
      refine wl_val (r_move rfl) (ltn rfl) ?_
      refine wl_val (r_move rfl) (ltn rfl) ?_
      refine wl_eff (e_call (r_call rfl Tryz.func47 rfl rfl) (ed_replace_ret Hc15 (fun W HW => hr _ (HW)))) (ltn rfl) ?_
      rintro _ w16 ⟨rfl, H16⟩
      have HT : Holds w0 w16 (EdRep e (s.replS s.c.pt (s.typeTo l) l) • F) := by rw [hto]; exact H16
      have hc0 := replS_cls s s.c.pt (s.typeTo l) l
      have hE : s.typeE l = s.replEd s.c.pt (s.typeTo l) l := rfl
      rw [hto] at hE
      refine wl_val (r_assign rfl) (ltn rfl) ?_
      refine wl_nil ?_
      refine wq_seq ?_
      refine wc_seq ?_
      refine wc_seq ?_
      refine wc_region ?_
      refine wl_val (r_move rfl) (ltn rfl) ?_
      refine wl_val (r_eql rfl rfl) (ltn rfl) ?_
      refine wl_split rfl (ltn rfl) (fun h5 => ?_) (fun h5 => ?_)
      · (try simp only [cmpS] at h5)
        have hE0 := h5
        obtain ⟨pb_e, pr_e, pw_e, pt_e, pm_e, ph_e, bl_e, pv_e, es_e, u0_e, u1_e, u2_e, u3_e, u4_e, u5_e, u6_e, u7_e, u8_e, u9_e, ua_e, ok_e, says_e, plen_e, HE_e⟩ := (HT).edO
        refine wl_yes rfl rfl ?_
        refine wl_val (r_move rfl) (ltn rfl) ?_
        refine wl_yes rfl rfl ?_
        refine wl_val (r_nil rfl) (ltn rfl) ?_
        refine wl_yes rfl rfl ?_
        refine wl_val (r_fieldA 28 Tryz.underlying66 rfl rfl Tryz.sizeOf3 (by decide) rfl (by first | exact Nat.zero_add _ | rfl)) (ltn rfl) ?_
        refine wl_yes rfl rfl ?_
        refine wl_val (r_load (plain_of Tryz.underlying3 rfl) rfl (cell_of_blk (HE_e).get.2 rfl)) (ltn rfl) ?_
        refine wl_yes rfl rfl ?_
        refine wl_val (r_eql rfl rfl) (ltn rfl) ?_
        refine wl_val (r_pick_t rfl rfl) (ltn rfl) ?_
        refine wl_nil ?_
        refine wq_seq ?_
        refine wc_cond rfl (fun h6 => ?_) (fun h6 => ?_)
        · (try simp only [cmpS] at h6)
          have hcl := h6
          refine wc_region ?_
          refine wl_val (r_move rfl) (ltn rfl) ?_
          refine wl_val (r_nil rfl) (ltn rfl) ?_
          refine wl_val (r_fieldA 28 Tryz.underlying66 rfl rfl Tryz.sizeOf3 (by decide) rfl (by first | exact Nat.zero_add _ | rfl)) (ltn rfl) ?_
          refine wl_eff0 (e_storeL 28 (l' := [_, _, _, _, _, _, _, _, _, _, _, _, _, _, _, _, _, _, _, _, _, _, _, _, _, _, _, _, _, _, _, _, _, _]) HE_e Tryz.sizeOf3 rfl rfl (by first | rfl | assumption) rfl rfl) ?_
          rintro _ w18 H18
          refine wl_nil ?_
          refine wq_seq ?_
          refine wc_seq ?_
          refine wc_region ?_
          refine wl_val (r_move rfl) (ltn rfl) ?_
          refine wl_val (r_assign rfl) (ltn rfl) ?_
          refine wl_nil ?_
          refine wq_seq ?_
          refine wc_ret ?_
          refine wq_end1 (.inl rfl) Tryz.results21 rfl ?_
          have e1 : s.typeS l = { s.replS s.c.pt (s.typeTo l) l with cls := 3 } := by unfold EdS.typeS; rw [if_pos hin]; dsimp only; rw [if_pos ⟨hE.trans hE0, hc0.symm.trans hcl⟩]
          exact ⟨by rw [hE], by rw [e1]; exact Holds.mk_ed (s := { s.replS s.c.pt (s.typeTo l) l with cls := 3 }) ok_e says_e H18.f11.f11.f11.f11.f11.f11.f11.f11.f11.f11.f11⟩
        · (try simp only [cmpS] at h6)
          have hcl := h6
          refine wc_skip ?_
          refine wq_seq ?_
          refine wc_seq ?_
          refine wc_region ?_
          refine wl_val (r_move rfl) (ltn rfl) ?_
          refine wl_val (r_assign rfl) (ltn rfl) ?_
          refine wl_nil ?_
          refine wq_seq ?_
          refine wc_ret ?_
          refine wq_end1 (.inl rfl) Tryz.results21 rfl ?_
          have e1 : s.typeS l = s.replS s.c.pt (s.typeTo l) l := by unfold EdS.typeS; rw [if_pos hin]; dsimp only; rw [if_neg (fun h => hcl (hc0.trans h.2))]
          exact ⟨by rw [hE], by rw [e1]; exact Holds.mk_ed (s := s.replS s.c.pt (s.typeTo l) l) ok_e says_e HE_e.f11.f11.f11.f11.f11.f11.f11.f11.f11.f11.f11⟩
      · (try simp only [cmpS] at h5)
        have hE0 := h5
        refine wl_no rfl rfl rfl (ltn rfl) ?_
        refine wl_no rfl rfl rfl (ltn rfl) ?_
        refine wl_no rfl rfl rfl (ltn rfl) ?_
        refine wl_no rfl rfl rfl (ltn rfl) ?_
        refine wl_no rfl rfl rfl (ltn rfl) ?_
        refine wl_val (r_pick_f rfl rfl) (ltn rfl) ?_
        refine wl_nil ?_
        refine wq_seq ?_
        refine wc_cond_f rfl ?_
        refine wc_skip ?_
        refine wq_seq ?_
        refine wc_seq ?_
        refine wc_region ?_
        refine wl_val (r_move rfl) (ltn rfl) ?_
        refine wl_val (r_assign rfl) (ltn rfl) ?_
        refine wl_nil ?_
        refine wq_seq ?_
        refine wc_ret ?_
        refine wq_end1 (.inl rfl) Tryz.results21 rfl ?_
        have e1 : s.typeS l = s.replS s.c.pt (s.typeTo l) l := by unfold EdS.typeS; rw [if_pos hin]; dsimp only; rw [if_neg (fun h => hE0 (hE.symm.trans h.1))]
        exact ⟨by rw [hE], by rw [e1]; exact HT⟩
end
end Go.Proofs.YtgmpclifphbjkaaGreatDoor
end
section
/- Editors: Copy, Kill, Yank, Pop. -/
set_option linter.unusedSimpArgs false
set_option linter.unusedVariables false
namespace Go.Proofs.YtgmpclifphbjkaaGreatDoor
open Go.RowKit
section
variable {w0 w : World} {F : HP} {e p h pr : Nat} {s : EdS} {i j x : Int} {back : Bool} {v : Value} {l : List Int}
end
end Go.Proofs.YtgmpclifphbjkaaGreatDoor
end
