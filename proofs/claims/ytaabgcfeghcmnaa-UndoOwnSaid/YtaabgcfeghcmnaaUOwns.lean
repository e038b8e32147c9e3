/- Copies of edits whose texts are one's own; the groups that are told, handed over so; a store into a row of structs. -/
import Derived.Test.YtaabgcfeghcmnaaUGroups2
import Derived.Test.YtaabgcfeghcmnaaOwns
set_option linter.unusedSimpArgs false
set_option linter.unusedVariables false
namespace Go.Proofs.Ytaabgcfeghcmnaa
open Go.RowKit
section
variable {P : Program} {L : List (Nat × Value)} {w0 w : World} {F : HP} {ty : TypeId}
/-- A store into a row of structs. -/
theorem e_store_rowS {t e sz n n' : Nat} {x y : Operand} {b o c : Nat} {i : Int} (off : Nat) {xs : List Value} {u : Value} (H : Holds w0 w (Row e sz (.slice (some ⟨b, o, none⟩) n' c) n xs • F)) (hs : ∀ w, (sizeOf t).run P w = .ok 1 w)
    (hx : ev L x = some (.pointer (some ⟨b, o + i.toNat * sz + off, none⟩))) (hy : ev L y = some u) (h1 : u.oneCell' = true) (hi : i.toNat < n) (ho : off < sz) :
    Eff P L (.store t x y) ty w fun _ w' => Holds w0 w' (Row e sz (.slice (some ⟨b, o, none⟩) n' c) n (xs.set (i.toNat * sz + off) u) • F) := by
  have hlen := H.row_len
  rcases H.row_open with ⟨a, hv, hn, hxs, H1⟩ | ⟨g, o', c', cur, hv, h2, h3, h4, h5, H1⟩
  · omega
  cases hv
  have hlt : i.toNat * sz + off < n * sz := Nat.lt_of_lt_of_le (by omega : i.toNat * sz + off < i.toNat * sz + sz) (by rw [← Nat.succ_mul]; exact Nat.mul_le_mul_right _ hi)
  have hle : n * sz ≤ c * sz := Nat.mul_le_mul_right _ h2
  refine (e_store H1 hs hx hy h1 (by omega)).mono fun v w' H2 => ?_
  refine H2.row_mk (o := o) (by simpa using hlen) rfl h2 h3 (by simp; omega) fun q hq => ?_
  rw [Array.getElem?_setIfInBounds]
  by_cases e1 : q = i.toNat * sz + off
  · subst e1
    rw [if_pos (by omega), if_pos (by omega)]
    simp [List.getD_eq_getElem?_getD, show i.toNat * sz + off < xs.length from by omega]
  · rw [if_neg (by omega), h5 q hq]
    simp only [List.getD_eq_getElem?_getD]
    rw [List.getElem?_set_ne (by omega)]
end
section
variable {w0 w : World} {F : HP} {p c k : Nat} {G : List (List EdA)} {N : List EdA} {op : Int} {v u wv : Value} {es fs : List BEd} {gs hs : List (Value × List BEd)}
theorem Holds.hideI1 {e : TypeId} {k : IntKind} {v : Value} {l : List Int} {B : HP} (h : Holds w0 w (RowI e k v l • B • F)) : ∃ n R, (l.length = n ∧ (n : Int) ≤ 9223372036854775807) ∧ F = R ∧ ∃ m, m.length = n ∧ Holds w0 w (RowI e k v m • B • R) := ⟨_, F, ⟨rfl, by
  obtain ⟨a, c, _, h1, h2, _⟩ := RdI.open h.row_rd
  omega⟩, rfl, l, rfl, h⟩
theorem copied_own (H : Holds w0 w F) (hv : FRd w0 F 3 v es.length (es.flatMap BEd.enc)) (he : ∀ k, k < es.length → FRdI w0 F .i32 (es.getD k default).d (es.getD k default).dl ∧ FRdI w0 F .i32 (es.getD k default).i (es.getD k default).il)
    (hB : ∀ k, k < es.length → EB (es.getD k default).says) (hL : es.length ≤ 16384) :
    Ret Try.prog 52 #[v] w fun v' w' => ∃ fs : List BEd, Holds w0 w' (Row 24 3 v' fs.length (fs.flatMap BEd.enc) • Owns 21 .i32 (fs.map (·.i)) (fs.map (·.il)) • F) := by
  refine ret_enter Try.func52 rfl Try.ntmps52 (Nat.le_of_ble_eq_true rfl) ?_
  dsimp only [slots0, Nat.reduceAdd]
  refine wc_seq ?_
  refine wc_region ?_
  refine wl_val (r_assign rfl) (ltn rfl) ?_
  refine wl_nil ?_
  refine wq_seq ?_
  refine wc_seq ?_
  refine wc_region ?_
  refine wl_val (r_assign rfl) (ltn rfl) ?_
  refine wl_nil ?_
  refine wq_seq ?_
  refine wc_seq ?_
  refine wc_seq ?_
  refine wc_region ?_
  refine wl_val (r_move rfl) (ltn rfl) ?_
  refine wl_val (r_lenS (hv _ (H)) Try.underlying39 rfl) (ltn rfl) ?_
  refine wl_val (r_move rfl) (ltn rfl) ?_
  refine wl_nil ?_
  refine wq_seq ?_
  refine wc_block ?_
  refine wc_loop [(6, _), (7, _)] (fun (⟨k, u⟩ : Nat × Value) => [(3, u), (8, .int .i64 (k : Int))]) (fun (⟨k, u⟩ : Nat × Value) W => k ≤ es.length ∧ ∃ fs : List BEd, fs.length = k ∧ Holds w0 W (Row 24 3 u fs.length (fs.flatMap BEd.enc) • Owns 21 .i32 (fs.map (·.i)) (fs.map (·.il)) • F)) (fun (⟨k, u⟩ : Nat × Value) => es.length - k) ((0, .slice none 0 0)) (Sub.cons rfl (Sub.cons rfl (Sub.nil _))) (Sub.cons rfl (Sub.cons rfl (Sub.nil _))) ⟨by omega, [], rfl, (H.owns_nil.row_nil none)⟩ ?_
  rintro ⟨k, u⟩ w1 ⟨hk, fs, hfl, HL⟩
  dsimp only [List.cons_append, List.nil_append]
  refine wc_seq ?_
  refine wc_region ?_
  refine wl_val (r_lss rfl rfl) (ltn rfl) ?_
  refine wl_nil ?_
  refine wq_seq ?_
  refine wc_seq ?_
  refine wc_cond rfl (fun h1 => ?_) (fun h1 => ?_)
  · (try simp only [beq_iff_eq, bne_iff_ne, ne_eq, decide_eq_true_eq, decide_eq_false_iff_not, beq_eq_false_iff_ne, bne_eq_false_iff_eq, Bool.not_eq_true', Bool.not_eq_false', Bool.not_eq_eq_eq_not, Bool.not_true, Bool.not_false, gt_iff_lt, ge_iff_le, Int.not_lt, Int.not_le] at h1)
    try (exfalso; first | contradiction | omega)
    all_goals
      
      refine wc_skip ?_
      refine wq_seq ?_
      refine wc_seq ?_
      refine wc_block ?_
      refine wc_seq ?_
      refine wc_region ?_
      obtain ⟨bv, ov, cv, ev⟩ := Rd.posV (hv _ (HL.right.right)) (by omega)
      cases ev
      refine wl_val (r_index Try.underlying39 Try.sizeOf24 rfl rfl (by omega)) (ltn rfl) ?_
      refine wl_val (r_load_elem (ys := [_, _, _]) (hv _ (HL.right.right)) (by omega) Try.underlying24 rfl Try.sizeOf24 rfl (flat_elem BEd.enc_len (by omega) default) rfl) (ltn rfl) ?_
      have hkl : k < es.length := by omega
      obtain ⟨f1, f2⟩ := he k hkl
      obtain ⟨hb1, hb2⟩ := hB k hkl
      have hb1 : (es.getD k default).dl.length ≤ 35184372087808 := hb1
      have hb2 : (es.getD k default).il.length ≤ 35184372087808 := hb2
      refine wl_eff (e_allocL (l := [_, _, _]) HL Try.zeroValue24 rfl) (ltn rfl) ?_
      rintro _ w2 ⟨b2, rfl, H2⟩
      refine wl_eff0 (e_storePL 0 (l' := [_, _, _]) (us := [_, _, _]) H2 Try.sizeOf24 rfl rfl rfl (ones_cons (by first | rfl | assumption) (ones_cons (by first | rfl | exact Rd.one (f1 _ (H2.right.right.right))) (ones_cons (by first | rfl | exact Rd.one (f2 _ (H2.right.right.right))) ones_nil))) rfl rfl) ?_
      rintro _ w3 H3
      refine wl_nil ?_
      refine wq_seq ?_
      refine wc_region ?_
      refine wl_val (r_move rfl) (ltn rfl) ?_
      refine wl_val (r_load_whole Try.underlying24 rfl Try.sizeOf24 rfl rfl (H3).get.2) (ltn rfl) ?_
      refine wl_eff (e_call (r_call rfl Try.func50 rfl rfl) (undo_own_ret H3 (fun W HW => f1 _ (HW.right.right.right)) (fun W HW => f2 _ (HW.right.right.right)) (by omega) (by omega))) (ltn rfl) ?_
      rintro _ w4 ⟨d4, s4, rfl, H4⟩
      refine wl_eff (e_lit_one H4 Try.underlying39 Try.sizeOf24 Try.zeroValue24 rfl rfl rfl (by decide) (by decide)) (ltn rfl) ?_
      rintro l5 w5 H5
      refine wl_eff (e_append H5.f5 Try.underlying39 (show (Try.prog.info? 24).map (fun i => (i.zero, i.size, i.bytes)) = some (some (.agg #[.int .i64 0, .slice none 0 0, .slice none 0 0]), 3, 56) by kernel_rfl) rfl rfl rfl ((H5).row_rd) (ones_cons (by first | rfl | assumption) (ones_cons (by first | rfl | exact Rd.one ((H5.f2).row_rd)) (ones_cons (by first | rfl | exact Rd.one ((H5.f3).row_rd)) ones_nil))) (by omega) (by omega)) (ltn rfl) ?_
      rintro l6 w6 H6
      have Hd7 := H6.f2.right
      refine wl_val (r_assign rfl) (ltn rfl) ?_
      refine wl_nil ?_
      refine wq_block_normal ?_
      refine wq_seq ?_
      refine wc_region ?_
      refine wl_val (r_add rfl rfl (by omega)) (ltn rfl) ?_
      refine wl_val (r_move rfl) (ltn rfl) ?_
      refine wl_nil ?_
      refine wq_round ((k + 1, l6)) ?_ ?_ ?_ ?_
      · exact (Sub.cons rfl (Sub.cons rfl (Sub.nil _)))
      · exact (Sub.cons rfl (Sub.cons rfl (Sub.nil _)))
      · (try dsimp only)
        exact ⟨by omega, fs ++ [⟨(es.getD k default).a, d4, (es.getD k default).dl, s4, (es.getD k default).il⟩], by simp [hfl], by simp only [List.length_append, List.flatMap_append, List.map_append]; exact ((Hd7.f2.right.f3.right.f2.f3).owns_snoc.f2).of_eq rfl⟩
      · (try dsimp only); omega
  · (try simp only [beq_iff_eq, bne_iff_ne, ne_eq, decide_eq_true_eq, decide_eq_false_iff_not, beq_eq_false_iff_ne, bne_eq_false_iff_eq, Bool.not_eq_true', Bool.not_eq_false', Bool.not_eq_eq_eq_not, Bool.not_true, Bool.not_false, gt_iff_lt, ge_iff_le, Int.not_lt, Int.not_le] at h1)
    try (exfalso; first | contradiction | omega)
    all_goals
      
      refine wc_exit ?_
      refine wq_then_exit ?_
      refine wq_then_exit ?_
      refine wq_block_hit ?_
      refine wq_seq ?_
      refine wc_seq ?_
      refine wc_region ?_
      refine wl_val (r_move rfl) (ltn rfl) ?_
      refine wl_val (r_assign rfl) (ltn rfl) ?_
      refine wl_nil ?_
      refine wq_seq ?_
      refine wc_ret ?_
      refine wq_end1 (.inl rfl) Try.results52 rfl ?_
      exact ⟨_, HL.f2.f2⟩
theorem copied_elO_ret (H : Holds w0 w (elK v es • F)) (hB : ∀ k, k < es.length → EB (es.getD k default).says) (hL : es.length ≤ 16384) :
    Ret Try.prog 52 #[v] w fun v' w' => ∃ fs : List BEd, Holds w0 w' (Row 24 3 v' fs.length (fs.flatMap BEd.enc) • Owns 21 .i32 (fs.map (·.i)) (fs.map (·.il)) • elK v es • F) :=
  copied_own H (fun W HW => HW.elK_rd) (fun k hk => ⟨fun W HW => HW.elK_d hk, fun W HW => HW.elK_i hk⟩) hB hL
theorem groups_iterO (c : Nat) (hB : ∀ g ∈ allG G N, ∀ e ∈ g, EB e) (hL : ∀ g ∈ allG G N, g.length ≤ 16384) : Iter Try.prog w0 (.func (.func 54) #[] #[.pointer (some ⟨c, 0, none⟩)]) (grpHP c G N G.length) (allG G N).length
    (fun k vs A => ∃ u, ∃ fs : List BEd, vs = [u] ∧ A = (Row 24 3 u fs.length (fs.flatMap BEd.enc) • Owns 21 .i32 (fs.map (·.i)) (fs.map (·.il)))) := by
  intro l J X w hy H
  refine ⟨54, [], [.pointer (some ⟨c, 0, none⟩)], _, _, rfl, Try.func54, rfl, rfl, ?_⟩
  obtain ⟨v, hs, hhs, hhl, H1⟩ := H.comm.grp_open
  have hhs' := hhs
  rw [List.take_of_length_le (by simp), ← allG_eq] at hhs
  have hlen : hs.length = (allG G N).length := by have := congrArg List.length hhs; simpa using this
  obtain ⟨a, d, hv, hc1, hc2, _⟩ := (H1.swap.row_rd).form
  subst hv
  simp only [List.nil_append, List.cons_append]
  refine ret_enter Try.func54 rfl Try.ntmps54 (Nat.le_of_ble_eq_true rfl) ?_
  dsimp only [slots0, Nat.reduceAdd]
  refine wc_seq ?_
  refine wc_region ?_
  refine wl_val (r_load (plain_of Try.underlying43 rfl) rfl (cell_of_blk (H1).get.2 rfl)) (ltn rfl) ?_
  refine wl_val (r_lenS ((H1.f2).row_rd) Try.underlying43 rfl) (ltn rfl) ?_
  refine wl_val (r_move rfl) (ltn rfl) ?_
  refine wl_nil ?_
  refine wq_seq ?_
  refine wc_block ?_
  refine wc_loop [(0, _), (5, _), (6, _)] (fun (k : Nat) => [(7, .int .i64 (k : Int))]) (fun (k : Nat) W => k ≤ hs.length ∧ Holds w0 W (blk c (.cells #[.slice a hs.length d] 43 (0, 0)) • Row 39 1 (.slice a hs.length d) hs.length (hs.map (·.1)) • elsK hs • J k)) (fun (k : Nat) => hs.length - k) (0) (Sub.cons rfl (Sub.cons rfl (Sub.cons rfl (Sub.nil _)))) (Sub.cons rfl (Sub.nil _)) ⟨by omega, H1⟩ ?_
  rintro k w1 ⟨hk, HL⟩
  dsimp only [List.cons_append, List.nil_append]
  refine wc_seq ?_
  refine wc_region ?_
  refine wl_val (r_lss rfl rfl) (ltn rfl) ?_
  refine wl_nil ?_
  refine wq_seq ?_
  refine wc_seq ?_
  refine wc_cond rfl (fun h1 => ?_) (fun h1 => ?_)
  · (try simp only [beq_iff_eq, bne_iff_ne, ne_eq, decide_eq_true_eq, decide_eq_false_iff_not, beq_eq_false_iff_ne, bne_eq_false_iff_eq, Bool.not_eq_true', Bool.not_eq_false', Bool.not_eq_eq_eq_not, Bool.not_true, Bool.not_false, gt_iff_lt, ge_iff_le, Int.not_lt, Int.not_le] at h1)
    try (exfalso; first | contradiction | omega)
    all_goals
      
      refine wc_skip ?_
      refine wq_seq ?_
      refine wc_seq ?_
      refine wc_block ?_
      refine wc_seq ?_
      refine wc_region ?_
      obtain ⟨bv, ov, cv, ev⟩ := Rd.posV ((HL.f2).row_rd) (by omega)
      cases ev
      refine wl_val (r_index Try.underlying43 Try.sizeOf39 rfl rfl (by omega)) (ltn rfl) ?_
      refine wl_val (r_load (plain_of Try.underlying39 rfl) rfl (by first | exact Rd.at1n ((HL.f2).row_rd) (by omega) | exact Rd.at0 ((HL.f2).row_rd) (by omega) | exact Rd.at1 ((HL.f2).row_rd) (by omega))) (ltn rfl) ?_
      have hkl : k < hs.length := by omega
      rw [show (hs.map (·.1)).getD k undef = (hs.getD k default).1 from by simp [List.getD_eq_getElem?_getD, hkl]]
      obtain ⟨gl, ges, hg⟩ : ∃ gl ges, hs.getD k default = (gl, ges) := ⟨_, _, rfl⟩
      rw [hg]
      have Ho2 := HL.f3
      have Hc3 := Ho2.elsK_at hkl hg
      have hge : ges.map BEd.says = (allG G N).getD k [] := by
        rw [← hhs]
        have h9 : (hs.map (fun g => g.2.map BEd.says)).getD k [] = (hs.getD k default).2.map BEd.says := by simp [List.getD_eq_getElem?_getD, hkl]
        rw [h9, hg]
      have hgm : (allG G N).getD k [] ∈ allG G N := getD_mem' (by omega)
      have hBg := EB_of hge (hB _ hgm)
      have hLg : ges.length ≤ 16384 := by
        have h7 := congrArg List.length hge
        rw [List.length_map] at h7
        have := hL _ hgm
        omega
      refine wl_val (r_assign rfl) (ltn rfl) ?_
      refine wl_nil ?_
      refine wq_seq ?_
      refine wc_seq ?_
      refine wc_region ?_
      refine wl_val (r_move rfl) (ltn rfl) ?_
      refine wl_val (r_move rfl) (ltn rfl) ?_
      refine wl_eff (e_call (r_call rfl Try.func52 rfl rfl) (copied_elO_ret Hc3 hBg hLg)) (ltn rfl) ?_
      rintro u4 w4 ⟨fs4, H4⟩
      obtain ⟨es2, rfl⟩ : ∃ q, q = fs4 := ⟨_, rfl⟩
      have Hd5 := H4.f3.right
      refine wl_eff (e_yield rfl rfl (hy k (by omega) _ _ ⟨_, es2, rfl, rfl⟩ (elsK hs • Row 39 1 (.slice (some ⟨bv, ov, none⟩) hs.length d) hs.length (hs.map (·.1)) • blk c (.cells #[.slice (some ⟨bv, ov, none⟩) hs.length d] 43 (0, 0))) _ (Hd5.of_eq (by ac_rfl))).bool) (ltn rfl) ?_
      rintro _ w6 ⟨t, rfl, ht1, ht2⟩
      refine wl_val (r_not rfl) (ltn rfl) ?_
      refine wl_nil ?_
      refine wq_seq ?_
      refine wc_cond rfl (fun h2 => ?_) (fun h2 => ?_)
      · (try simp only [beq_iff_eq, bne_iff_ne, ne_eq, decide_eq_true_eq, decide_eq_false_iff_not, beq_eq_false_iff_ne, bne_eq_false_iff_eq, Bool.not_eq_true', Bool.not_eq_false', Bool.not_eq_eq_eq_not, Bool.not_true, Bool.not_false, gt_iff_lt, ge_iff_le, Int.not_lt, Int.not_le] at h2)
        try (exfalso; first | contradiction | omega)
        all_goals
          have HX := ht2 (by simpa using h2)
          refine wc_ret ?_
          refine wq_block_ret ?_
          refine wq_then_ret ?_
          refine wq_then_ret ?_
          refine wq_block_ret ?_
          refine wq_end0 (.inl rfl) Try.results54 ?_
          exact .inr (Holds.comm (Holds.mk_grp (u := .slice (some ⟨bv, ov, none⟩) hs.length d) hhs' (HX.of_eq (by unfold EdLL; ac_rfl))))
      · (try simp only [beq_iff_eq, bne_iff_ne, ne_eq, decide_eq_true_eq, decide_eq_false_iff_not, beq_eq_false_iff_ne, bne_eq_false_iff_eq, Bool.not_eq_true', Bool.not_eq_false', Bool.not_eq_eq_eq_not, Bool.not_true, Bool.not_false, gt_iff_lt, ge_iff_le, Int.not_lt, Int.not_le] at h2)
        try (exfalso; first | contradiction | omega)
        all_goals
          have HN : Holds w0 w6 (blk c (.cells #[.slice (some ⟨bv, ov, none⟩) hs.length d] 43 (0, 0)) • Row 39 1 (.slice (some ⟨bv, ov, none⟩) hs.length d) hs.length (hs.map (·.1)) • elsK hs • J (k + 1)) := by
            have h9 := ht1 (by simpa using h2)
            exact h9.of_eq (by ac_rfl)
          refine wc_skip ?_
          refine wq_block_normal ?_
          refine wq_seq ?_
          refine wc_region ?_
          refine wl_val (r_add rfl rfl (by omega)) (ltn rfl) ?_
          refine wl_val (r_move rfl) (ltn rfl) ?_
          refine wl_nil ?_
          refine wq_round (k + 1) ?_ ?_ ?_ ?_
          · exact (Sub.cons rfl (Sub.nil _))
          · exact (Sub.cons rfl (Sub.cons rfl (Sub.cons rfl (Sub.nil _))))
          · (try dsimp only)
            exact ⟨by omega, HN.f3.f3.f3⟩
          · (try dsimp only); omega
  · (try simp only [beq_iff_eq, bne_iff_ne, ne_eq, decide_eq_true_eq, decide_eq_false_iff_not, beq_eq_false_iff_ne, bne_eq_false_iff_eq, Bool.not_eq_true', Bool.not_eq_false', Bool.not_eq_eq_eq_not, Bool.not_true, Bool.not_false, gt_iff_lt, ge_iff_le, Int.not_lt, Int.not_le] at h1)
    try (exfalso; first | contradiction | omega)
    all_goals
      
      refine wc_exit ?_
      refine wq_then_exit ?_
      refine wq_then_exit ?_
      refine wq_block_hit ?_
      refine wq_end0 (.inr rfl) Try.results54 ?_
      obtain rfl : k = hs.length := by omega
      rw [← hlen]
      exact .inl (Holds.comm (Holds.mk_grp (u := .slice a hs.length d) hhs' (HL.of_eq (by unfold EdLL; ac_rfl))))
end
end Go.Proofs.Ytaabgcfeghcmnaa
