import Derived.Test.YtgmpclifphbjkaaGreatDoorZ14
/- Texts of mine, joined: EdF. -/
section
/- Editors: flush. -/
set_option linter.unusedSimpArgs false
set_option linter.unusedVariables false
namespace Go.Proofs.YtgmpclifphbjkaaGreatDoor
open Go.RowKit
theorem info_ed : (Tryz.prog.info? 120).map (fun i => (i.zero, i.size, i.bytes)) = some (some (.agg #[.int .i64 0, .slice none 0 0, .slice none 0 0]), 3, 56) := by kernel_rfl
def oldHP (c : Nat) (g : List EdA) : HP := exHP fun (x : Value × List BEd) => fact (x.2.map BEd.says = g) • blk c (.cells #[x.1] 64 (0, 0)) • Row 120 3 x.1 x.2.length (x.2.flatMap BEd.enc) • edsK x.2
section
variable {w0 w : World} {F : HP} {e p c n m : Nat} {s : EdS} {i j x : Int} {on : Bool} {v : Value} {g : List EdA} {oes es : List BEd} {xs : List Value}
theorem edits_clone_ret (H : Holds w0 w F) (hr : FRd w0 F 3 v n xs) (hon : ∀ u ∈ xs, u.oneCell' = true) (hb : n ≤ 1099511627776) :
    Ret Tryz.prog 81 #[v] w fun v' w' => Holds w0 w' (Row 120 3 v' n xs • F) := by
  obtain ⟨hlen, a, c, rfl, h2, h3, h4⟩ := hr w H
  refine ret_enter Tryz.func81 rfl Tryz.ntmps81 (Nat.le_of_ble_eq_true rfl) ?_
  dsimp only [slots0, Nat.reduceAdd]
  refine wc_seq ?_
  refine wc_region ?_
  refine wl_val (r_assign rfl) (ltn rfl) ?_
  refine wl_nil ?_
  refine wq_seq ?_
  refine wc_seq ?_
  refine wc_seq ?_
  refine wc_region ?_
  refine wl_val (r_move rfl) (ltn rfl) ?_
  refine wl_val (r_slice_nil Tryz.underlying64 rfl rfl) (ltn rfl) ?_
  refine wl_nil ?_
  refine wq_seq ?_
  refine wc_cond rfl (fun h1 => ?_) (fun h1 => ?_)
  · (try simp only [cmpS] at h1)
    try (exfalso; first | contradiction | omega)
    all_goals
      
      refine wc_seq ?_
      refine wc_region ?_
      refine wl_val (r_assign rfl) (ltn rfl) ?_
      refine wl_nil ?_
      refine wq_seq ?_
      refine wc_ret ?_
      refine wq_then_ret ?_
      refine wq_end1 (.inl rfl) Tryz.results81 rfl ?_
      obtain rfl : a = none := by simpa using h1
      obtain rfl : n = 0 := by
        rcases Nat.eq_zero_or_pos n with h | h
        · exact h
        · obtain ⟨b, o, e, _⟩ := h4 h; cases e
      obtain rfl : xs = [] := List.eq_nil_of_length_eq_zero (by omega)
      exact H.row_nil none
  · (try simp only [cmpS] at h1)
    try (exfalso; first | contradiction | omega)
    all_goals
      
      refine wc_skip ?_
      refine wq_seq ?_
      refine wc_seq ?_
      refine wc_region ?_
      refine wl_eff (e_lit_none H Tryz.underlying64 Tryz.sizeOf120 Tryz.zeroValue120) (ltn rfl) ?_
      rintro _ w1 H1
      refine wl_val (r_move rfl) (ltn rfl) ?_
      refine wl_eff (e_append H1 Tryz.underlying64 info_ed rfl rfl rfl (hr.under _ H1) hon (by omega) (by omega)) (ltn rfl) ?_
      rintro _ w2 H2
      refine wl_val (r_assign rfl) (ltn rfl) ?_
      refine wl_nil ?_
      refine wq_seq ?_
      refine wc_ret ?_
      refine wq_end1 (.inl rfl) Tryz.results81 rfl ?_
      exact H2.of_eq (by rw [Nat.zero_add, List.nil_append])
theorem Holds.old (H : Holds w0 w (oldHP c g • F)) : ∃ v es, es.map BEd.says = g ∧ Holds w0 w (blk c (.cells #[v] 64 (0, 0)) • Row 120 3 v es.length (es.flatMap BEd.enc) • edsK es • F) := by
  obtain ⟨⟨v, es⟩, H⟩ := H.ex_sep
  obtain ⟨h, H⟩ := H.flat.fact
  exact ⟨v, es, h, H.of_eq (by simp only [sep_assoc])⟩
theorem Holds.mk_old (h : es.map BEd.says = g) (H : Holds w0 w (blk c (.cells #[v] 64 (0, 0)) • Row 120 3 v es.length (es.flatMap BEd.enc) • edsK es • F)) : Holds w0 w (oldHP c g • F) :=
  Holds.mk_ex_sep (v, es) (Holds.deep (Holds.mk_fact h (H.of_eq (by simp only [sep_assoc]))))
theorem Holds.old_nil (hg : g = []) (H : Holds w0 w (blk c (.cells #[.slice none 0 0] 64 (0, 0)) • F)) : Holds w0 w (oldHP c g • F) :=
  Holds.mk_old (v := .slice none 0 0) (es := []) hg.symm ((H.edL_nil none).of_eq (by unfold EdL; ac_rfl))
theorem Holds.app_eds (hm : m = es.length) (H : Holds w0 w (Row 120 3 v (oes.length + m) (oes.flatMap BEd.enc ++ es.flatMap BEd.enc) • edsK oes • edsK es • F)) : Holds w0 w (Row 120 3 v (oes ++ es).length ((oes ++ es).flatMap BEd.enc) • edsK (oes ++ es) • F) := by
  subst hm
  have h1 : Holds w0 w (edsK oes • edsK es • Row 120 3 v (oes.length + es.length) (oes.flatMap BEd.enc ++ es.flatMap BEd.enc) • F) := H.of_eq (by ac_rfl)
  have h2 : Holds w0 w (edsK (oes ++ es) • Row 120 3 v (oes.length + es.length) (oes.flatMap BEd.enc ++ es.flatMap BEd.enc) • F) := h1.ent (know_two (fun I h g => h.app g) _)
  exact h2.swap.of_eq (by rw [List.length_append, List.flatMap_append])
/-- What is ready for a group: the edits ahead (oes), the groups ahead (G1). -/
def FlOk (s : EdS) (on : Bool) (oes : List BEd) (G1 : List (List EdA)) : Prop := uTot G1 [] + oes.length = uTot s.here [] ∧ (∀ e ∈ oes, EdOk e.says) ∧ s.flushG on = G1 ++ [oes.map BEd.says ++ s.put]
theorem flush_off (hp : s.put ≠ []) (hn : on = false) : FlOk s on [] s.here := by
  subst hn
  refine ⟨by simp, by simp, ?_⟩
  unfold EdS.flushG
  rw [if_neg hp, if_neg (by decide)]
  rfl
theorem dropLast_sum : ∀ {G : List (List EdA)}, G ≠ [] → (G.dropLast.map List.length).sum + (G.getLastD []).length = (G.map List.length).sum := by
  intro G hG
  have h := List.dropLast_concat_getLast hG
  have h2 : G.getLastD [] = G.getLast hG := by rw [List.getLastD_eq_getLast?, List.getLast?_eq_some_getLast hG]; rfl
  rw [h2]
  conv => rhs; rw [← h]
  simp
theorem flush_on (hp : s.put ≠ []) (hn : on = true) (hO : ∀ g ∈ s.here, ∀ e ∈ g, EdOk e) (h : oes.map BEd.says = s.here.getLastD []) : FlOk s on oes s.here.dropLast := by
  subst hn
  have hlen : oes.length = (s.here.getLastD []).length := by rw [← h]; simp
  have hm : ∀ e ∈ oes, e.says ∈ s.here.getLastD [] := fun e he => by rw [← h]; exact List.mem_map.2 ⟨e, he, rfl⟩
  unfold FlOk EdS.flushG
  rw [if_neg hp, if_pos rfl]
  by_cases h0 : s.here = []
  · rw [h0] at h hlen hm
    have : oes = [] := List.eq_nil_of_length_eq_zero (by simpa using hlen)
    subst this
    rw [h0]
    exact ⟨by simp, by simp, rfl⟩
  · have h2 : s.here.getLastD [] = s.here.getLast h0 := by rw [List.getLastD_eq_getLast?, List.getLast?_eq_some_getLast h0]; rfl
    refine ⟨?_, fun e he => hO _ (List.getLast_mem h0) _ (h2 ▸ hm e he), ?_⟩
    · have := dropLast_sum h0
      show (s.here.dropLast.map List.length).sum + 0 + oes.length = (s.here.map List.length).sum + 0
      rw [hlen]; omega
    · rw [List.getLast?_eq_some_getLast h0, h, h2]
theorem allG_nil (G : List (List EdA)) : allG G [] = G.reverse := by unfold allG closeG; rw [if_pos rfl]
theorem allG_first (G : List (List EdA)) : (allG G []).getD 0 [] = G.getLastD [] := by
  rw [allG_nil, List.getD_eq_getElem?_getD, List.getLastD_eq_getLast?]
  congr 1
  cases G.eq_nil_or_concat with
  | inl h => subst h; rfl
  | inr h => obtain ⟨L, b, rfl⟩ := h; simp
theorem allG_okE {G : List (List EdA)} (h : UOk G [] 0) : (∀ g ∈ allG G [], ∀ e ∈ g, EB e) ∧ ∀ g ∈ allG G [], g.length ≤ 16384 := by
  rw [allG_nil]
  refine ⟨fun g hg => h.2.2.2.2.1 g (List.mem_reverse.1 hg), fun g hg => ?_⟩
  have h1 := len_mem (List.mem_reverse.1 hg)
  have h2 := h.2.1
  unfold uTot at h2
  simp at h2; omega
theorem end_one (G : List (List EdA)) (N : List EdA) : endG G N (0 + 1) = closeG G N ∧ endN N (0 + 1) = [] ∧ endO (0 + 1) = 0 := ⟨if_pos rfl, if_pos rfl, by unfold endO; rw [if_neg (by decide)]; rfl⟩
theorem undo_drop (G : List (List EdA)) : undoG G [] = G.dropLast ∧ undoN G [] = [] ∧ undoO G [] 0 = 0 := by
  unfold undoG undoN undoO closeG
  by_cases h : G.length + ([] : List EdA).length = 0
  · have : G = [] := List.eq_nil_of_length_eq_zero (by simpa using h)
    subst this
    simp
  · rw [if_neg h, if_neg h, if_neg h, if_pos rfl]; simp
theorem flushS_nil {s : EdS} (h : s.put = []) : s.flushS on = s := by unfold EdS.flushS; rw [if_pos h]
theorem flushS_some {s : EdS} (h : s.put ≠ []) : s.flushS on = { s.setUn (s.flushG on) with put := [] } := by unfold EdS.flushS; rw [if_neg h]
theorem uTot_one (G : List (List EdA)) (g : List EdA) : uTot (G ++ [g]) [] = uTot G [] + g.length := by unfold uTot; simp
theorem flush_ok (h : EdSOk s) {G1 : List (List EdA)} (hF : FlOk s on oes G1) (hp : s.put ≠ []) (hG : ∀ g ∈ G1, ∀ e ∈ g, EdOk e) : EdSOk (s.flushS on) := by
  rw [flushS_some hp]
  obtain ⟨h1, h2, h3, h4, h5, h6⟩ := h
  obtain ⟨f1, f2, f3⟩ := hF
  refine ⟨h1, h2, h3, by simp, ?_, ?_⟩
  · show uTot (updF s.c.un s.c.place (s.flushG on) s.c.place) [] ≤ 16384
    rw [updF_same, f3, uTot_one]
    have := uTot_split s.here s.put
    simp; omega
  · intro k g hg e he
    have hg' : g ∈ updF s.c.un s.c.place (s.flushG on) k := hg
    by_cases hk : k = s.c.place
    · subst hk
      rw [updF_same, f3] at hg'
      rcases List.mem_append.1 hg' with hg' | hg'
      · exact hG g hg' e he
      · rw [List.mem_singleton.1 hg'] at he
        rcases List.mem_append.1 he with he | he
        · obtain ⟨q, hq, rfl⟩ := List.mem_map.1 he; exact f2 q hq
        · exact h4 e he
    · rw [updF_not _ _ hk] at hg'; exact h6 k g hg' e he
theorem getD_says {es : List BEd} {k : Nat} (hk : k < es.length) : (es.take (k + 1)).map BEd.says = (es.take k).map BEd.says ++ [(es.getD k default).says] := by
  rw [List.take_succ_eq_append_getElem hk, List.map_append, List.getD_eq_getElem?_getD, List.getElem?_eq_getElem hk]; rfl
theorem ed_flush_ret (H : Holds w0 w (EdRep e s • F)) : Ret Tryz.prog 53 #[.pointer (some ⟨e, 0, none⟩), .bool on] w fun _ w' => Holds w0 w' (EdRep e (s.flushS on) • F) := by
  refine ret_enter Tryz.func53 rfl Tryz.ntmps53 (Nat.le_of_ble_eq_true rfl) ?_
  dsimp only [slots0, Nat.reduceAdd]
  refine wc_seq ?_
  refine wc_seq ?_
  obtain ⟨pb_e, pr_e, pw_e, pt_e, pm_e, ph_e, bl_e, pv_e, es_e, u0_e, u1_e, u2_e, u3_e, u4_e, u5_e, u6_e, u7_e, u8_e, u9_e, ua_e, ok_e, says_e, plen_e, HE_e⟩ := (H).edO
  have hput : uTot s.here s.put ≤ 16384 := ok_e.2.2.2.2.1
  have hsp := uTot_split s.here s.put
  have hO : ∀ g ∈ s.here, ∀ x ∈ g, EdOk x := ok_e.2.2.2.2.2 s.c.place
  have hPO : ∀ x ∈ es_e, EdOk x.says := fun x hx => ok_e.2.2.2.1 _ (by rw [← says_e]; exact List.mem_map.2 ⟨x, hx, rfl⟩)
  have hones := (HE_e.f10).edL_ones
  refine wc_region ?_
  refine wl_val (r_move rfl) (ltn rfl) ?_
  refine wl_val (r_nil rfl) (ltn rfl) ?_
  refine wl_val (r_fieldA 33 Tryz.underlying66 rfl rfl Tryz.sizeOf64 (by decide) rfl (by first | exact Nat.zero_add _ | rfl)) (ltn rfl) ?_
  refine wl_val (r_load (plain_of Tryz.underlying64 rfl) rfl (cell_of_blk (HE_e).get.2 rfl)) (ltn rfl) ?_
  refine wl_val (r_lenS ((HE_e.f9).row_rd) Tryz.underlying64 rfl) (ltn rfl) ?_
  refine wl_val (r_eql rfl rfl) (ltn rfl) ?_
  refine wl_nil ?_
  refine wq_seq ?_
  refine wc_cond rfl (fun h1 => ?_) (fun h1 => ?_)
  · (try simp only [cmpS] at h1)
    
    refine wc_ret ?_
    refine wq_then_ret ?_
    refine wq_end0 (.inl rfl) Tryz.results53 ?_
    rw [flushS_nil (List.eq_nil_of_length_eq_zero (by omega))]
    exact Holds.mk_ed ok_e says_e HE_e.f11.f11.f11.f11.f11.f11.f11.f11.f11.f11.f11
  · (try simp only [cmpS] at h1)
    have hp : s.put ≠ [] := by rintro hz; rw [hz] at h1; simp at h1
    refine wc_skip ?_
    refine wq_seq ?_
    refine wc_seq ?_
    refine wc_region ?_
    refine wl_val (r_move rfl) (ltn rfl) ?_
    refine wl_eff (e_call (r_call rfl Tryz.func57 rfl rfl) (ed_list_ret HE_e.f6.f5.f3)) (ltn rfl) ?_
    rintro _ w2 ⟨lp2, rfl, H2⟩
    refine wl_val (r_assign rfl) (ltn rfl) ?_
    refine wl_nil ?_
    refine wq_seq ?_
    refine wc_seq ?_
    refine wc_region ?_
    refine wl_eff (e_allocL (l := [_]) H2 Tryz.zeroValue64 rfl) (ltn rfl) ?_
    rintro _ w3 ⟨b3, rfl, H3⟩
    refine wl_nil ?_
    refine wq_seq ?_
    refine wc_seq ?_
    refine wc_seq ?_
    obtain ⟨R4, hR4, HR4⟩ := Holds.hide2 (H3.f2.f2)
    refine wc_region ?_
    refine wl_val (r_move rfl) (ltn rfl) ?_
    refine wl_nil ?_
    refine wq_seq ?_
    refine wc_cond rfl (fun h2 => ?_) (fun h2 => ?_)
    · (try simp only [cmpS] at h2)
      have hn : on = true := h2
      refine wc_seq ?_
      refine wc_seq ?_
      refine wc_region ?_
      refine wl_val (r_move rfl) (ltn rfl) ?_
      refine wl_eff (e_call (r_call rfl Tryz.func120 rfl rfl) (undo_groups_ret HR4.f2)) (ltn rfl) ?_
      rintro _ w5 ⟨bG5, rfl, H5⟩
      refine wl_nil ?_
      refine wq_seq ?_
      refine wc_block ?_
      obtain ⟨_, _, _, _, k1, _⟩ := (H5.f2).ulist
      obtain ⟨hB, hL⟩ := allG_okE k1
      have HF0 := Holds.mk_fact (q := (0 : Nat) = 0) rfl H5
      obtain ⟨R6, hR6, HR6⟩ := Holds.hide3 (HF0.f4.f2.f3)
      refine wc_rangeFunc rfl (groups_iter bG5 hB hL) (fun j => fact (j = 0) • blk b3 (.cells #[.slice none 0 0] 64 (0, 0)) • R6) (fact False) (fun id => if id = 0 then oldHP b3 (s.here.getLastD []) • R6 else fact False) (HR6.f3.f3.f3.f3.f3.f3.comm) (by rfl) ?_ ?_ ?_ ?_
      · rintro l7 j hkR0 vs7 A7 ⟨u1, fs1, hfs1, rfl, rfl⟩ G7 w7 H7
        try simp only [sep_assoc, emp_sep, sep_emp] at H7
        refine ⟨rfl, ?_⟩
        dsimp only [zipL]
        have HQ := (H7).edL
        obtain rfl : j = 0 := (HQ.f3).fact.1
        have hon := (HQ.f2).edL_ones
        have hlen1 : fs1.length ≤ 16384 := by
          have h9 := hL _ (getD_mem' (d := []) hkR0)
          rw [← hfs1] at h9
          simpa using h9
        refine wc_region ?_
        refine wl_val (r_assign rfl) (ltn rfl) ?_
        refine wl_nil ?_
        refine wq_mid (HQ.g5) ?_
        intro G8 w8 H8
        try simp only [sep_assoc] at H8
        refine wc_block ?_
        refine wc_seq ?_
        refine wc_region ?_
        refine wl_val (r_move rfl) (ltn rfl) ?_
        refine wl_eff (e_call (r_call rfl Tryz.func81 rfl rfl) (edits_clone_ret H8 (fun W HW => (HW).row_rd) hon (by omega))) (ltn rfl) ?_
        rintro u9 w9 H9
        refine wl_eff0 (e_storeL 0 (l' := [_]) H9.f5 Tryz.sizeOf64 rfl rfl (by first | rfl | exact Rd.one ((H9).row_rd)) rfl rfl) ?_
        rintro _ w10 H10
        refine wl_nil ?_
        refine wq_seq ?_
        refine wc_exit ?_
        refine wq_block_miss (by decide) ?_
        refine wq_rexit ?_
        rw [if_pos rfl]
        exact (Holds.mk_old (hfs1.trans (allG_first _)) H10.f3.right.f4.right.f3.f3.f3).deep
      · rintro D11 w11 H11
        have H11d := H11.ed
        try simp only [sep_assoc, emp_sep, sep_emp] at H11d
        have H11m := H11d.mark1
        have hz := (H11m.f3).fact.1
        rw [allG_nil, List.length_reverse] at hz
        have hg0 : s.here.getLastD [] = [] := by show (s.c.un s.c.place).getLastD [] = []; rw [List.eq_nil_of_length_eq_zero hz]; rfl
        have Ho12 := H11m.f4
        have Hc13 := Holds.old_nil hg0 Ho12
        have Hd14 := Hc13.f4.right
        subst hR6
        subst hR4
        refine wq_block_normal ?_
        refine wq_seq ?_
        refine wc_region ?_
        refine wl_val (r_move rfl) (ltn rfl) ?_
        refine wl_eff (e_call (r_call rfl Tryz.func58 rfl rfl) (undo_undo_ret Hd14.f4)) (ltn rfl) ?_
        rintro _ w15 ⟨u15, fs15, rfl, hfs15, H15⟩
        have Hd16 := H15.right
        have Hd17 := Hd16.right
        have Hd18 := Hd17.f4.right
        obtain ⟨h9a, h9b, h9c⟩ := undo_drop (s.c.un s.c.place)
        have HX := Hd18
        rw [h9a, h9b, h9c] at HX
        obtain ⟨ov, oes, hoes, HO⟩ := (HX.f2).old
        have hF := flush_on hp hn hO hoes
        have hG1 : ∀ g ∈ s.here.dropLast, ∀ x ∈ g, EdOk x := fun g hg => hO g (List.dropLast_subset _ hg)
        obtain ⟨G1, hG1e⟩ : ∃ q, q = (s.c.un s.c.place).dropLast := ⟨_, rfl⟩
        rw [show s.here.dropLast = (s.c.un s.c.place).dropLast from rfl] at hF hG1
        have HX2 := HO
        rw [← hG1e] at hF hG1 HX2
        refine wl_nil ?_
        refine wq_seq ?_
        refine wc_seq ?_
        obtain ⟨hF1, hF2, hF3⟩ := hF
        have hl1 : oes.length ≤ 16384 := by omega
        have hl2 : s.put.length ≤ 16384 := by omega
        refine wc_region ?_
        refine wl_val (r_move rfl) (ltn rfl) ?_
        refine wl_eff (e_call (r_call rfl Tryz.func121 rfl rfl) (undo_begin_ret HX2.f4 (by omega))) (ltn rfl) ?_
        rintro _ w19 ⟨rfl, H19⟩
        refine wl_nil ?_
        refine wq_seq ?_
        refine wc_seq ?_
        refine wc_seq ?_
        have H9d19 := H19.drew
        have hS9d19 := Holds.kp (H9d19.f16.f16.f16.f16.f16.f16.f16.f16.f16.f16.f16.f16.f16.f16.f16.f16)
        refine wd_beginK [0, 4] hS9d19 (by kernel_rfl) (by kernel_rfl) rfl ?_
        refine wd_take 0 rfl (by kernel_rfl) (by kernel_rfl) hS9d19 (by decide) (fun W hW => r_load (plain_of Tryz.underlying64 rfl) rfl (cell_of_blk ((Kp.h hW).f2).get.2 rfl)) (ltn rfl) ?_
        refine wd_takeT 1 rfl (by kernel_rfl) (by kernel_rfl) hS9d19 (fun _ => r_move rfl) (ltn rfl) ?_
        refine wd_takeT 2 rfl (by kernel_rfl) (by kernel_rfl) hS9d19 (fun _ => r_nil rfl) (ltn rfl) ?_
        refine wd_takeT 3 rfl (by kernel_rfl) (by kernel_rfl) hS9d19 (fun _ => r_fieldA 33 Tryz.underlying66 rfl rfl Tryz.sizeOf64 (by decide) rfl (by first | exact Nat.zero_add _ | rfl)) (ltn rfl) ?_
        refine wd_take 4 rfl (by kernel_rfl) (by kernel_rfl) hS9d19 (by decide) (fun W hW => r_load (plain_of Tryz.underlying64 rfl) rfl (cell_of_blk ((Kp.h hW).f7).get.2 rfl)) (ltn rfl) ?_
        refine wd_takeT 7 rfl (by kernel_rfl) (by kernel_rfl) hS9d19 (fun _ => r_move rfl) (ltn rfl) ?_
        refine wd_eff 5 rfl (by kernel_rfl) (e_append H9d19.f3 Tryz.underlying64 (show (Tryz.prog.info? 120).map (fun i => (i.zero, i.size, i.bytes)) = some (some (.agg #[.int .i64 0, .slice none 0 0, .slice none 0 0]), 3, 56) by kernel_rfl) rfl rfl rfl ((H9d19.f14).row_rd) (by assumption) (by omega) (by omega)) (ltn rfl) ?_
        rintro l20 w20 H20
        have hS20n := Holds.kp (H20.f16.f16.f16.f16.f16.f16.f16.f16.f16.f16.f16.f16.f16.f16.f16.f16)
        refine keepX hS20n (by kernel_rfl) ?_
        have Ho21 := H20.f15.f5.f3
        have Hc22 := Holds.app_eds plen_e.symm Ho21
        obtain ⟨AE, hAE⟩ : ∃ q, q = oes ++ es_e := ⟨_, rfl⟩
        have HA := Hc22
        rw [← hAE] at HA
        have hAl : AE.length = oes.length + s.put.length := by rw [hAE, List.length_append, plen_e]
        have hAs : AE.map BEd.says = oes.map BEd.says ++ s.put := by rw [hAE, List.map_append, says_e]
        have hAO : ∀ x ∈ AE, EdOk x.says := fun x hx => by
          rw [hAE] at hx
          rcases List.mem_append.1 hx with hx | hx
          · exact hF2 x hx
          · exact hPO x hx
        refine wd_takeT 6 rfl (by kernel_rfl) (by kernel_rfl) hS20n (fun _ => r_lenS ((HA).row_rd) Tryz.underlying64 rfl) (ltn rfl) ?_
        refine wd_done (by kernel_rfl) ?_
        refine wq_seq ?_
        refine wc_block ?_
        obtain ⟨R23, hR23, HR23⟩ := Holds.hide3 (HA.f2.f2.f3)
        refine wc_loop [(0, _), (4, _), (32, _), (33, _)] (fun (i : Nat) => [(34, .int .i64 (i : Int))]) (fun (i : Nat) W => i ≤ AE.length ∧ Holds w0 W (UList lp2 G1 ((AE.take i).map BEd.says) (0 + 1) • Row 120 3 l20 AE.length (AE.flatMap BEd.enc) • edsK AE • R23)) (fun (i : Nat) => AE.length - i) (0) (Sub.cons rfl (Sub.cons rfl (Sub.cons rfl (Sub.cons rfl (Sub.nil _))))) (Sub.cons rfl (Sub.nil _)) ⟨by omega, HR23⟩ ?_
        rintro i w24 ⟨hi, HL⟩
        dsimp only [List.cons_append, List.nil_append]
        refine wc_seq ?_
        refine wc_region ?_
        refine wl_val (r_lss rfl rfl) (ltn rfl) ?_
        refine wl_nil ?_
        refine wq_seq ?_
        refine wc_seq ?_
        refine wc_cond rfl (fun h3 => ?_) (fun h3 => ?_)
        · (try simp only [cmpS] at h3)
          
          refine wc_skip ?_
          refine wq_seq ?_
          refine wc_seq ?_
          refine wc_block ?_
          refine wc_seq ?_
          refine wc_region ?_
          obtain ⟨bl20, ol20, cl20, el20⟩ := Rd.posV ((HL.f2).row_rd) (by omega)
          cases el20
          refine wl_val (r_index Tryz.underlying64 Tryz.sizeOf120 rfl rfl (by omega)) (ltn rfl) ?_
          refine wl_val (r_load_elem (ys := [_, _, _]) ((HL.f2).row_rd) (by omega) Tryz.underlying120 rfl Tryz.sizeOf120 rfl (flat_elem BEd.enc_len (by omega) default) rfl) (ltn rfl) ?_
          have hkl : i < AE.length := by omega
          have hx : EdOk (AE.getD i default).says := hAO _ (by rw [List.getD_eq_getElem?_getD, List.getElem?_eq_getElem hkl]; exact List.getElem_mem hkl)
          have hx1 : (AE.getD i default).dl.length ≤ 1024 := hx.2.2.1
          have hx2 : (AE.getD i default).il.length ≤ 1024 := hx.2.2.2
          refine wl_eff (e_allocL (l := [_, _, _]) HL Tryz.zeroValue120 rfl) (ltn rfl) ?_
          rintro _ w25 ⟨b25, rfl, H25⟩
          refine wl_eff0 (e_storePL 0 (l' := [_, _, _]) (us := [_, _, _]) H25 Tryz.sizeOf120 rfl rfl rfl (ones_cons (by first | rfl | assumption) (ones_cons (by first | rfl | exact Rd.one (((H25.f4).edsK_ii hkl).1)) (ones_cons (by first | rfl | exact Rd.one (((H25.f4).edsK_ii hkl).2)) ones_nil))) rfl rfl) ?_
          rintro _ w26 H26
          refine wl_nil ?_
          refine wq_seq ?_
          refine wc_region ?_
          refine wl_val (r_move rfl) (ltn rfl) ?_
          refine wl_val (r_load_whole Tryz.underlying120 rfl Tryz.sizeOf120 rfl rfl (H26).get.2) (ltn rfl) ?_
          refine wl_eff (e_call (r_call rfl Tryz.func122 rfl rfl) (undo_add_ret H26.f2 (fun W HW => ((HW.f3).edsK_ii hkl).1) (fun W HW => ((HW.f3).edsK_ii hkl).2) (by omega) (by omega))) (ltn rfl) ?_
          rintro _ w27 ⟨rfl, H27⟩
          have hadd : addE G1 ((AE.take i).map BEd.says) (AE.getD i default).a (AE.getD i default).dl (AE.getD i default).il = 0 := by
            have hx3 : 0 < (AE.getD i default).dl.length + (AE.getD i default).il.length := hx.2.1
            have hx4 : 0 ≤ (AE.getD i default).a := hx.1
            have hx5 := uTot_split G1 ((AE.take i).map BEd.says)
            rw [List.length_map, List.length_take] at hx5
            unfold addE
            rw [if_neg (by omega), if_neg (by omega)]
          have HA2 := H27
          rw [addG_in hadd (by decide), addN_in hadd (by decide)] at HA2
          refine wl_nil ?_
          refine wq_block_normal ?_
          refine wq_seq ?_
          refine wc_region ?_
          refine wl_val (r_add rfl rfl (by omega)) (ltn rfl) ?_
          refine wl_val (r_move rfl) (ltn rfl) ?_
          refine wl_nil ?_
          refine wq_round (i + 1) ?_ ?_ ?_ ?_
          · exact (Sub.cons rfl (Sub.nil _))
          · exact (Sub.cons rfl (Sub.cons rfl (Sub.cons rfl (Sub.cons rfl (Sub.nil _)))))
          · (try dsimp only)
            first | done | exact ⟨by omega, by rw [getD_says hkl]; exact HA2.f2.right.f3.f3.f3⟩
          · (try dsimp only); omega
        · (try simp only [cmpS] at h3)
          
          refine wc_exit ?_
          refine wq_then_exit ?_
          have hil : i = AE.length := by omega
          have HB := HL
          rw [hil, List.take_length] at HB
          subst hR23
          refine wq_then_exit ?_
          refine wq_block_hit ?_
          refine wq_seq ?_
          refine wc_seq ?_
          refine wc_region ?_
          refine wl_val (r_move rfl) (ltn rfl) ?_
          refine wl_eff (e_call (r_call rfl Tryz.func123 rfl rfl) (undo_end_ret HB)) (ltn rfl) ?_
          rintro _ w28 ⟨rfl, H28⟩
          obtain ⟨h8a, h8b, h8c⟩ := end_one G1 (AE.map BEd.says)
          have HC := H28
          rw [h8a, h8b, h8c, hAs, closeG_snoc (by intro hz; exact hp (List.append_eq_nil_iff.1 hz).2), ← hF3] at HC
          have Ho29 := HC.f6
          have Hc30 := Holds.mk_unhole Ho29
          refine wl_nil ?_
          refine wq_seq ?_
          refine wc_region ?_
          refine wl_val (r_move rfl) (ltn rfl) ?_
          refine wl_val (r_nil rfl) (ltn rfl) ?_
          refine wl_val (r_fieldA 33 Tryz.underlying66 rfl rfl Tryz.sizeOf64 (by decide) rfl (by first | exact Nat.zero_add _ | rfl)) (ltn rfl) ?_
          refine wl_eff0 (e_storeL 33 (l' := [_, _, _, _, _, _, _, _, _, _, _, _, _, _, _, _, _, _, _, _, _, _, _, _, _, _, _, _, _, _, _, _, _, _]) Hc30.f6 Tryz.sizeOf64 rfl rfl (by first | rfl | assumption) rfl rfl) ?_
          rintro _ w31 H31
          refine wl_nil ?_
          refine wq_endM (.inr rfl) (H31.f6) (fun w32 H32 => ?_)
          refine ⟨_, res0 Tryz.results53, ?_⟩
          rw [flushS_some hp]
          exact Holds.mk_edP (s := { s.setUn (s.flushG on) with put := [] }) (flushS_some hp ▸ flush_ok ok_e ⟨hF1, hF2, hF3⟩ hp hG1) rfl H32.f3.right.f3.right.f3.right.f9.right.f9.f9.f9.f5.f9.f7.f9.f9.f9
      · rintro D w H; exact absurd H.swap.fact.1 id
      · rintro id D33 w33 H33
        refine Decidable.byCases (fun hid : id = 0 => ?_) (fun hid => by rw [if_neg hid] at H33; exact absurd H33.swap.fact.1 fun h => h)
        subst hid
        rw [if_pos rfl] at H33
        have H33d := H33.ed
        try simp only [sep_assoc, emp_sep, sep_emp] at H33d
        have H33m := H33d.mark1
        subst hR6
        subst hR4
        refine wq_block_hit ?_
        refine wq_seq ?_
        refine wc_region ?_
        refine wl_val (r_move rfl) (ltn rfl) ?_
        refine wl_eff (e_call (r_call rfl Tryz.func58 rfl rfl) (undo_undo_ret H33m.f4)) (ltn rfl) ?_
        rintro _ w34 ⟨u34, fs34, rfl, hfs34, H34⟩
        have Hd35 := H34.right
        have Hd36 := Hd35.right
        have Hd37 := Hd36.f3.right
        obtain ⟨h9a, h9b, h9c⟩ := undo_drop (s.c.un s.c.place)
        have HX := Hd37
        rw [h9a, h9b, h9c] at HX
        obtain ⟨ov, oes, hoes, HO⟩ := (HX.f3).old
        have hF := flush_on hp hn hO hoes
        have hG1 : ∀ g ∈ s.here.dropLast, ∀ x ∈ g, EdOk x := fun g hg => hO g (List.dropLast_subset _ hg)
        obtain ⟨G1, hG1e⟩ : ∃ q, q = (s.c.un s.c.place).dropLast := ⟨_, rfl⟩
        rw [show s.here.dropLast = (s.c.un s.c.place).dropLast from rfl] at hF hG1
        have HX2 := HO
        rw [← hG1e] at hF hG1 HX2
        refine wl_nil ?_
        refine wq_seq ?_
        refine wc_seq ?_
        obtain ⟨hF1, hF2, hF3⟩ := hF
        have hl1 : oes.length ≤ 16384 := by omega
        have hl2 : s.put.length ≤ 16384 := by omega
        refine wc_region ?_
        refine wl_val (r_move rfl) (ltn rfl) ?_
        refine wl_eff (e_call (r_call rfl Tryz.func121 rfl rfl) (undo_begin_ret HX2.f4 (by omega))) (ltn rfl) ?_
        rintro _ w38 ⟨rfl, H38⟩
        refine wl_nil ?_
        refine wq_seq ?_
        refine wc_seq ?_
        refine wc_seq ?_
        have H9d38 := H38.drew
        have hS9d38 := Holds.kp (H9d38.f16.f16.f16.f16.f16.f16.f16.f16.f16.f16.f16.f16.f16.f16.f16.f16)
        refine wd_beginK [0, 4] hS9d38 (by kernel_rfl) (by kernel_rfl) rfl ?_
        refine wd_take 0 rfl (by kernel_rfl) (by kernel_rfl) hS9d38 (by decide) (fun W hW => r_load (plain_of Tryz.underlying64 rfl) rfl (cell_of_blk ((Kp.h hW).f2).get.2 rfl)) (ltn rfl) ?_
        refine wd_takeT 1 rfl (by kernel_rfl) (by kernel_rfl) hS9d38 (fun _ => r_move rfl) (ltn rfl) ?_
        refine wd_takeT 2 rfl (by kernel_rfl) (by kernel_rfl) hS9d38 (fun _ => r_nil rfl) (ltn rfl) ?_
        refine wd_takeT 3 rfl (by kernel_rfl) (by kernel_rfl) hS9d38 (fun _ => r_fieldA 33 Tryz.underlying66 rfl rfl Tryz.sizeOf64 (by decide) rfl (by first | exact Nat.zero_add _ | rfl)) (ltn rfl) ?_
        refine wd_take 4 rfl (by kernel_rfl) (by kernel_rfl) hS9d38 (by decide) (fun W hW => r_load (plain_of Tryz.underlying64 rfl) rfl (cell_of_blk ((Kp.h hW).f7).get.2 rfl)) (ltn rfl) ?_
        refine wd_takeT 7 rfl (by kernel_rfl) (by kernel_rfl) hS9d38 (fun _ => r_move rfl) (ltn rfl) ?_
        refine wd_eff 5 rfl (by kernel_rfl) (e_append H9d38.f3 Tryz.underlying64 (show (Tryz.prog.info? 120).map (fun i => (i.zero, i.size, i.bytes)) = some (some (.agg #[.int .i64 0, .slice none 0 0, .slice none 0 0]), 3, 56) by kernel_rfl) rfl rfl rfl ((H9d38.f14).row_rd) (by assumption) (by omega) (by omega)) (ltn rfl) ?_
        rintro l39 w39 H39
        have hS39n := Holds.kp (H39.f16.f16.f16.f16.f16.f16.f16.f16.f16.f16.f16.f16.f16.f16.f16.f16)
        refine keepX hS39n (by kernel_rfl) ?_
        have Ho40 := H39.f15.f5.f3
        have Hc41 := Holds.app_eds plen_e.symm Ho40
        obtain ⟨AE, hAE⟩ : ∃ q, q = oes ++ es_e := ⟨_, rfl⟩
        have HA := Hc41
        rw [← hAE] at HA
        have hAl : AE.length = oes.length + s.put.length := by rw [hAE, List.length_append, plen_e]
        have hAs : AE.map BEd.says = oes.map BEd.says ++ s.put := by rw [hAE, List.map_append, says_e]
        have hAO : ∀ x ∈ AE, EdOk x.says := fun x hx => by
          rw [hAE] at hx
          rcases List.mem_append.1 hx with hx | hx
          · exact hF2 x hx
          · exact hPO x hx
        refine wd_takeT 6 rfl (by kernel_rfl) (by kernel_rfl) hS39n (fun _ => r_lenS ((HA).row_rd) Tryz.underlying64 rfl) (ltn rfl) ?_
        refine wd_done (by kernel_rfl) ?_
        refine wq_seq ?_
        refine wc_block ?_
        obtain ⟨R42, hR42, HR42⟩ := Holds.hide3 (HA.f2.f2.f3)
        refine wc_loop [(0, _), (4, _), (32, _), (33, _)] (fun (i : Nat) => [(34, .int .i64 (i : Int))]) (fun (i : Nat) W => i ≤ AE.length ∧ Holds w0 W (UList lp2 G1 ((AE.take i).map BEd.says) (0 + 1) • Row 120 3 l39 AE.length (AE.flatMap BEd.enc) • edsK AE • R42)) (fun (i : Nat) => AE.length - i) (0) (Sub.cons rfl (Sub.cons rfl (Sub.cons rfl (Sub.cons rfl (Sub.nil _))))) (Sub.cons rfl (Sub.nil _)) ⟨by omega, HR42⟩ ?_
        rintro i w43 ⟨hi, HL⟩
        dsimp only [List.cons_append, List.nil_append]
        refine wc_seq ?_
        refine wc_region ?_
        refine wl_val (r_lss rfl rfl) (ltn rfl) ?_
        refine wl_nil ?_
        refine wq_seq ?_
        refine wc_seq ?_
        refine wc_cond rfl (fun h4 => ?_) (fun h4 => ?_)
        · (try simp only [cmpS] at h4)
          
          refine wc_skip ?_
          refine wq_seq ?_
          refine wc_seq ?_
          refine wc_block ?_
          refine wc_seq ?_
          refine wc_region ?_
          obtain ⟨bl39, ol39, cl39, el39⟩ := Rd.posV ((HL.f2).row_rd) (by omega)
          cases el39
          refine wl_val (r_index Tryz.underlying64 Tryz.sizeOf120 rfl rfl (by omega)) (ltn rfl) ?_
          refine wl_val (r_load_elem (ys := [_, _, _]) ((HL.f2).row_rd) (by omega) Tryz.underlying120 rfl Tryz.sizeOf120 rfl (flat_elem BEd.enc_len (by omega) default) rfl) (ltn rfl) ?_
          have hkl : i < AE.length := by omega
          have hx : EdOk (AE.getD i default).says := hAO _ (by rw [List.getD_eq_getElem?_getD, List.getElem?_eq_getElem hkl]; exact List.getElem_mem hkl)
          have hx1 : (AE.getD i default).dl.length ≤ 1024 := hx.2.2.1
          have hx2 : (AE.getD i default).il.length ≤ 1024 := hx.2.2.2
          refine wl_eff (e_allocL (l := [_, _, _]) HL Tryz.zeroValue120 rfl) (ltn rfl) ?_
          rintro _ w44 ⟨b44, rfl, H44⟩
          refine wl_eff0 (e_storePL 0 (l' := [_, _, _]) (us := [_, _, _]) H44 Tryz.sizeOf120 rfl rfl rfl (ones_cons (by first | rfl | assumption) (ones_cons (by first | rfl | exact Rd.one (((H44.f4).edsK_ii hkl).1)) (ones_cons (by first | rfl | exact Rd.one (((H44.f4).edsK_ii hkl).2)) ones_nil))) rfl rfl) ?_
          rintro _ w45 H45
          refine wl_nil ?_
          refine wq_seq ?_
          refine wc_region ?_
          refine wl_val (r_move rfl) (ltn rfl) ?_
          refine wl_val (r_load_whole Tryz.underlying120 rfl Tryz.sizeOf120 rfl rfl (H45).get.2) (ltn rfl) ?_
          refine wl_eff (e_call (r_call rfl Tryz.func122 rfl rfl) (undo_add_ret H45.f2 (fun W HW => ((HW.f3).edsK_ii hkl).1) (fun W HW => ((HW.f3).edsK_ii hkl).2) (by omega) (by omega))) (ltn rfl) ?_
          rintro _ w46 ⟨rfl, H46⟩
          have hadd : addE G1 ((AE.take i).map BEd.says) (AE.getD i default).a (AE.getD i default).dl (AE.getD i default).il = 0 := by
            have hx3 : 0 < (AE.getD i default).dl.length + (AE.getD i default).il.length := hx.2.1
            have hx4 : 0 ≤ (AE.getD i default).a := hx.1
            have hx5 := uTot_split G1 ((AE.take i).map BEd.says)
            rw [List.length_map, List.length_take] at hx5
            unfold addE
            rw [if_neg (by omega), if_neg (by omega)]
          have HA2 := H46
          rw [addG_in hadd (by decide), addN_in hadd (by decide)] at HA2
          refine wl_nil ?_
          refine wq_block_normal ?_
          refine wq_seq ?_
          refine wc_region ?_
          refine wl_val (r_add rfl rfl (by omega)) (ltn rfl) ?_
          refine wl_val (r_move rfl) (ltn rfl) ?_
          refine wl_nil ?_
          refine wq_round (i + 1) ?_ ?_ ?_ ?_
          · exact (Sub.cons rfl (Sub.nil _))
          · exact (Sub.cons rfl (Sub.cons rfl (Sub.cons rfl (Sub.cons rfl (Sub.nil _)))))
          · (try dsimp only)
            first | done | exact ⟨by omega, by rw [getD_says hkl]; exact HA2.f2.right.f3.f3.f3⟩
          · (try dsimp only); omega
        · (try simp only [cmpS] at h4)
          
          refine wc_exit ?_
          refine wq_then_exit ?_
          have hil : i = AE.length := by omega
          have HB := HL
          rw [hil, List.take_length] at HB
          subst hR42
          refine wq_then_exit ?_
          refine wq_block_hit ?_
          refine wq_seq ?_
          refine wc_seq ?_
          refine wc_region ?_
          refine wl_val (r_move rfl) (ltn rfl) ?_
          refine wl_eff (e_call (r_call rfl Tryz.func123 rfl rfl) (undo_end_ret HB)) (ltn rfl) ?_
          rintro _ w47 ⟨rfl, H47⟩
          obtain ⟨h8a, h8b, h8c⟩ := end_one G1 (AE.map BEd.says)
          have HC := H47
          rw [h8a, h8b, h8c, hAs, closeG_snoc (by intro hz; exact hp (List.append_eq_nil_iff.1 hz).2), ← hF3] at HC
          have Ho48 := HC.f6
          have Hc49 := Holds.mk_unhole Ho48
          refine wl_nil ?_
          refine wq_seq ?_
          refine wc_region ?_
          refine wl_val (r_move rfl) (ltn rfl) ?_
          refine wl_val (r_nil rfl) (ltn rfl) ?_
          refine wl_val (r_fieldA 33 Tryz.underlying66 rfl rfl Tryz.sizeOf64 (by decide) rfl (by first | exact Nat.zero_add _ | rfl)) (ltn rfl) ?_
          refine wl_eff0 (e_storeL 33 (l' := [_, _, _, _, _, _, _, _, _, _, _, _, _, _, _, _, _, _, _, _, _, _, _, _, _, _, _, _, _, _, _, _, _, _]) Hc49.f6 Tryz.sizeOf64 rfl rfl (by first | rfl | assumption) rfl rfl) ?_
          rintro _ w50 H50
          refine wl_nil ?_
          refine wq_endM (.inr rfl) (H50.f6) (fun w51 H51 => ?_)
          refine ⟨_, res0 Tryz.results53, ?_⟩
          rw [flushS_some hp]
          exact Holds.mk_edP (s := { s.setUn (s.flushG on) with put := [] }) (flushS_some hp ▸ flush_ok ok_e ⟨hF1, hF2, hF3⟩ hp hG1) rfl H51.f3.right.f3.right.f3.right.f9.right.f9.f9.f9.f5.f9.f7.f9.f9.f9
    · (try simp only [cmpS] at h2)
      have hn : on = false := h2
      obtain ⟨ov, oes, G1, hF, hG1, HF⟩ : ∃ ov oes G1, FlOk s on oes G1 ∧ (∀ g ∈ G1, ∀ x ∈ g, EdOk x) ∧ Holds w0 w3 (blk b3 (.cells #[ov] 64 (0, 0)) • Row 120 3 ov oes.length (oes.flatMap BEd.enc) • edsK oes • UList lp2 G1 [] 0 • R4) :=
        ⟨.slice none 0 0, [], s.here, flush_off hp hn, hO, (Holds.edL_nil HR4.f2.f2 none).of_eq (by unfold EdL; ac_rfl)⟩
      subst hR4
      refine wc_skip ?_
      refine wq_seq ?_
      refine wc_seq ?_
      obtain ⟨hF1, hF2, hF3⟩ := hF
      have hl1 : oes.length ≤ 16384 := by omega
      have hl2 : s.put.length ≤ 16384 := by omega
      refine wc_region ?_
      refine wl_val (r_move rfl) (ltn rfl) ?_
      refine wl_eff (e_call (r_call rfl Tryz.func121 rfl rfl) (undo_begin_ret HF.f4 (by omega))) (ltn rfl) ?_
      rintro _ w52 ⟨rfl, H52⟩
      refine wl_nil ?_
      refine wq_seq ?_
      refine wc_seq ?_
      refine wc_seq ?_
      have H9d52 := H52.drew
      have hS9d52 := Holds.kp (H9d52.f15.f15.f15.f15.f15.f15.f15.f15.f15.f15.f15.f15.f15.f15.f15)
      refine wd_beginK [0, 4] hS9d52 (by kernel_rfl) (by kernel_rfl) rfl ?_
      refine wd_take 0 rfl (by kernel_rfl) (by kernel_rfl) hS9d52 (by decide) (fun W hW => r_load (plain_of Tryz.underlying64 rfl) rfl (cell_of_blk ((Kp.h hW).f2).get.2 rfl)) (ltn rfl) ?_
      refine wd_takeT 1 rfl (by kernel_rfl) (by kernel_rfl) hS9d52 (fun _ => r_move rfl) (ltn rfl) ?_
      refine wd_takeT 2 rfl (by kernel_rfl) (by kernel_rfl) hS9d52 (fun _ => r_nil rfl) (ltn rfl) ?_
      refine wd_takeT 3 rfl (by kernel_rfl) (by kernel_rfl) hS9d52 (fun _ => r_fieldA 33 Tryz.underlying66 rfl rfl Tryz.sizeOf64 (by decide) rfl (by first | exact Nat.zero_add _ | rfl)) (ltn rfl) ?_
      refine wd_take 4 rfl (by kernel_rfl) (by kernel_rfl) hS9d52 (by decide) (fun W hW => r_load (plain_of Tryz.underlying64 rfl) rfl (cell_of_blk ((Kp.h hW).f6).get.2 rfl)) (ltn rfl) ?_
      refine wd_takeT 7 rfl (by kernel_rfl) (by kernel_rfl) hS9d52 (fun _ => r_move rfl) (ltn rfl) ?_
      refine wd_eff 5 rfl (by kernel_rfl) (e_append H9d52.f3 Tryz.underlying64 (show (Tryz.prog.info? 120).map (fun i => (i.zero, i.size, i.bytes)) = some (some (.agg #[.int .i64 0, .slice none 0 0, .slice none 0 0]), 3, 56) by kernel_rfl) rfl rfl rfl ((H9d52.f13).row_rd) (by assumption) (by omega) (by omega)) (ltn rfl) ?_
      rintro l53 w53 H53
      have hS53n := Holds.kp (H53.f15.f15.f15.f15.f15.f15.f15.f15.f15.f15.f15.f15.f15.f15.f15)
      refine keepX hS53n (by kernel_rfl) ?_
      have Ho54 := H53.f14.f5.f3
      have Hc55 := Holds.app_eds plen_e.symm Ho54
      obtain ⟨AE, hAE⟩ : ∃ q, q = oes ++ es_e := ⟨_, rfl⟩
      have HA := Hc55
      rw [← hAE] at HA
      have hAl : AE.length = oes.length + s.put.length := by rw [hAE, List.length_append, plen_e]
      have hAs : AE.map BEd.says = oes.map BEd.says ++ s.put := by rw [hAE, List.map_append, says_e]
      have hAO : ∀ x ∈ AE, EdOk x.says := fun x hx => by
        rw [hAE] at hx
        rcases List.mem_append.1 hx with hx | hx
        · exact hF2 x hx
        · exact hPO x hx
      refine wd_takeT 6 rfl (by kernel_rfl) (by kernel_rfl) hS53n (fun _ => r_lenS ((HA).row_rd) Tryz.underlying64 rfl) (ltn rfl) ?_
      refine wd_done (by kernel_rfl) ?_
      refine wq_seq ?_
      refine wc_block ?_
      obtain ⟨R56, hR56, HR56⟩ := Holds.hide3 (HA.f2.f2.f3)
      refine wc_loop [(0, _), (4, _), (32, _), (33, _)] (fun (i : Nat) => [(34, .int .i64 (i : Int))]) (fun (i : Nat) W => i ≤ AE.length ∧ Holds w0 W (UList lp2 G1 ((AE.take i).map BEd.says) (0 + 1) • Row 120 3 l53 AE.length (AE.flatMap BEd.enc) • edsK AE • R56)) (fun (i : Nat) => AE.length - i) (0) (Sub.cons rfl (Sub.cons rfl (Sub.cons rfl (Sub.cons rfl (Sub.nil _))))) (Sub.cons rfl (Sub.nil _)) ⟨by omega, HR56⟩ ?_
      rintro i w57 ⟨hi, HL⟩
      dsimp only [List.cons_append, List.nil_append]
      refine wc_seq ?_
      refine wc_region ?_
      refine wl_val (r_lss rfl rfl) (ltn rfl) ?_
      refine wl_nil ?_
      refine wq_seq ?_
      refine wc_seq ?_
      refine wc_cond rfl (fun h5 => ?_) (fun h5 => ?_)
      · (try simp only [cmpS] at h5)
        
        refine wc_skip ?_
        refine wq_seq ?_
        refine wc_seq ?_
        refine wc_block ?_
        refine wc_seq ?_
        refine wc_region ?_
        obtain ⟨bl53, ol53, cl53, el53⟩ := Rd.posV ((HL.f2).row_rd) (by omega)
        cases el53
        refine wl_val (r_index Tryz.underlying64 Tryz.sizeOf120 rfl rfl (by omega)) (ltn rfl) ?_
        refine wl_val (r_load_elem (ys := [_, _, _]) ((HL.f2).row_rd) (by omega) Tryz.underlying120 rfl Tryz.sizeOf120 rfl (flat_elem BEd.enc_len (by omega) default) rfl) (ltn rfl) ?_
        have hkl : i < AE.length := by omega
        have hx : EdOk (AE.getD i default).says := hAO _ (by rw [List.getD_eq_getElem?_getD, List.getElem?_eq_getElem hkl]; exact List.getElem_mem hkl)
        have hx1 : (AE.getD i default).dl.length ≤ 1024 := hx.2.2.1
        have hx2 : (AE.getD i default).il.length ≤ 1024 := hx.2.2.2
        refine wl_eff (e_allocL (l := [_, _, _]) HL Tryz.zeroValue120 rfl) (ltn rfl) ?_
        rintro _ w58 ⟨b58, rfl, H58⟩
        refine wl_eff0 (e_storePL 0 (l' := [_, _, _]) (us := [_, _, _]) H58 Tryz.sizeOf120 rfl rfl rfl (ones_cons (by first | rfl | assumption) (ones_cons (by first | rfl | exact Rd.one (((H58.f4).edsK_ii hkl).1)) (ones_cons (by first | rfl | exact Rd.one (((H58.f4).edsK_ii hkl).2)) ones_nil))) rfl rfl) ?_
        rintro _ w59 H59
        refine wl_nil ?_
        refine wq_seq ?_
        refine wc_region ?_
        refine wl_val (r_move rfl) (ltn rfl) ?_
        refine wl_val (r_load_whole Tryz.underlying120 rfl Tryz.sizeOf120 rfl rfl (H59).get.2) (ltn rfl) ?_
        refine wl_eff (e_call (r_call rfl Tryz.func122 rfl rfl) (undo_add_ret H59.f2 (fun W HW => ((HW.f3).edsK_ii hkl).1) (fun W HW => ((HW.f3).edsK_ii hkl).2) (by omega) (by omega))) (ltn rfl) ?_
        rintro _ w60 ⟨rfl, H60⟩
        have hadd : addE G1 ((AE.take i).map BEd.says) (AE.getD i default).a (AE.getD i default).dl (AE.getD i default).il = 0 := by
          have hx3 : 0 < (AE.getD i default).dl.length + (AE.getD i default).il.length := hx.2.1
          have hx4 : 0 ≤ (AE.getD i default).a := hx.1
          have hx5 := uTot_split G1 ((AE.take i).map BEd.says)
          rw [List.length_map, List.length_take] at hx5
          unfold addE
          rw [if_neg (by omega), if_neg (by omega)]
        have HA2 := H60
        rw [addG_in hadd (by decide), addN_in hadd (by decide)] at HA2
        refine wl_nil ?_
        refine wq_block_normal ?_
        refine wq_seq ?_
        refine wc_region ?_
        refine wl_val (r_add rfl rfl (by omega)) (ltn rfl) ?_
        refine wl_val (r_move rfl) (ltn rfl) ?_
        refine wl_nil ?_
        refine wq_round (i + 1) ?_ ?_ ?_ ?_
        · exact (Sub.cons rfl (Sub.nil _))
        · exact (Sub.cons rfl (Sub.cons rfl (Sub.cons rfl (Sub.cons rfl (Sub.nil _)))))
        · (try dsimp only)
          first | done | exact ⟨by omega, by rw [getD_says hkl]; exact HA2.f2.right.f3.f3.f3⟩
        · (try dsimp only); omega
      · (try simp only [cmpS] at h5)
        
        refine wc_exit ?_
        refine wq_then_exit ?_
        have hil : i = AE.length := by omega
        have HB := HL
        rw [hil, List.take_length] at HB
        subst hR56
        refine wq_then_exit ?_
        refine wq_block_hit ?_
        refine wq_seq ?_
        refine wc_seq ?_
        refine wc_region ?_
        refine wl_val (r_move rfl) (ltn rfl) ?_
        refine wl_eff (e_call (r_call rfl Tryz.func123 rfl rfl) (undo_end_ret HB)) (ltn rfl) ?_
        rintro _ w61 ⟨rfl, H61⟩
        obtain ⟨h8a, h8b, h8c⟩ := end_one G1 (AE.map BEd.says)
        have HC := H61
        rw [h8a, h8b, h8c, hAs, closeG_snoc (by intro hz; exact hp (List.append_eq_nil_iff.1 hz).2), ← hF3] at HC
        have Ho62 := HC.f5
        have Hc63 := Holds.mk_unhole Ho62
        refine wl_nil ?_
        refine wq_seq ?_
        refine wc_region ?_
        refine wl_val (r_move rfl) (ltn rfl) ?_
        refine wl_val (r_nil rfl) (ltn rfl) ?_
        refine wl_val (r_fieldA 33 Tryz.underlying66 rfl rfl Tryz.sizeOf64 (by decide) rfl (by first | exact Nat.zero_add _ | rfl)) (ltn rfl) ?_
        refine wl_eff0 (e_storeL 33 (l' := [_, _, _, _, _, _, _, _, _, _, _, _, _, _, _, _, _, _, _, _, _, _, _, _, _, _, _, _, _, _, _, _, _, _]) Hc63.f5 Tryz.sizeOf64 rfl rfl (by first | rfl | assumption) rfl rfl) ?_
        rintro _ w64 H64
        refine wl_nil ?_
        refine wq_end0 (.inr rfl) Tryz.results53 ?_
        rw [flushS_some hp]
        exact Holds.mk_edP (s := { s.setUn (s.flushG on) with put := [] }) (flushS_some hp ▸ flush_ok ok_e ⟨hF1, hF2, hF3⟩ hp hG1) rfl H64.f3.right.f3.right.f3.right.f9.right.f9.f9.f9.f5.f9.f7.f9.f9.f9
end
end Go.Proofs.YtgmpclifphbjkaaGreatDoor
end
