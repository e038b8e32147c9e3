import Derived.Test.YtgmpclifphbjkaaGreatDoorZ9
import Derived.Test.YtgmpclifphbjkaaGreatDoorZ8
import Derived.Test.YtgmpclifphbjkaaGreatDoorZ7
/- Texts of mine, joined: UList5 UList6 UList7 Grp0 Hist EdM. -/
section
/- Lists of edits that are taken back: End; copies. -/
set_option linter.unusedSimpArgs false
set_option linter.unusedVariables false
namespace Go.Proofs.YtgmpclifphbjkaaGreatDoor
open Go.RowKit
def endE (op : Int) : Int := if op = 0 then 1 else 0
def endG (G : List (List EdA)) (N : List EdA) (op : Int) : List (List EdA) := if op = 1 then closeG G N else G
def endN (N : List EdA) (op : Int) : List EdA := if op = 1 then [] else N
def endO (op : Int) : Int := if op = 0 then 0 else op - 1
theorem take_says {es : List BEd} {k : Nat} (hk : k < es.length) : (es.take (k + 1)).map BEd.says = (es.take k).map BEd.says ++ [(es.getD k default).says] := by
  rw [List.take_succ_eq_append_getElem hk, List.map_append, List.getD_eq_getElem?_getD, List.getElem?_eq_getElem hk]
  rfl
section
variable {w0 w : World} {F : HP} {p : Nat} {G : List (List EdA)} {N : List EdA} {op : Int} {gv nv v : Value} {gs : List (Value × List BEd)} {now es : List BEd} {a : Int} {d z : Value} {dl il : List Int}
theorem undo_end_ret (H : Holds w0 w (UList p G N op • F)) : Ret Tryz.prog 123 #[.pointer (some ⟨p, 0, none⟩)] w fun v w' => v = .int .i64 (endE op) ∧ Holds w0 w' (UList p (endG G N op) (endN N op) (endO op) • F) := by
  unfold endE endG endN endO
  refine ret_enter Tryz.func123 rfl Tryz.ntmps123 (Nat.le_of_ble_eq_true rfl) ?_
  dsimp only [slots0, Nat.reduceAdd]
  refine wc_seq ?_
  refine wc_region ?_
  refine wl_val (r_assign rfl) (ltn rfl) ?_
  refine wl_nil ?_
  refine wq_seq ?_
  refine wc_seq ?_
  refine wc_seq ?_
  refine wc_region ?_
  refine wl_val (r_move rfl) (ltn rfl) ?_
  refine wl_eff (e_call (r_call rfl Tryz.func127 rfl rfl) (undo_none_ret H)) (ltn rfl) ?_
  rintro _ _ ⟨rfl, rfl⟩
  refine wl_nil ?_
  refine wq_seq ?_
  refine wc_cond_f rfl ?_
  refine wc_skip ?_
  refine wq_seq ?_
  refine wc_seq ?_
  refine wc_seq ?_
  obtain ⟨gv_p, nv_p, gs_p, now_p, k1_p, k2_p, k3_p, k4_p, k5_p, k6_p, HU_p⟩ := (H).ulist
  have hop := k1_p.2.2.1
  have hop2 := k1_p.2.2.2.1
  refine wc_region ?_
  refine wl_val (r_move rfl) (ltn rfl) ?_
  refine wl_val (r_nil rfl) (ltn rfl) ?_
  refine wl_val (r_fieldA 0 Tryz.underlying171 rfl rfl Tryz.sizeOf169 (by decide) rfl (by first | exact Nat.zero_add _ | rfl)) (ltn rfl) ?_
  refine wl_val (r_fieldA 2 Tryz.underlying169 rfl rfl Tryz.sizeOf3 (by decide) rfl (by first | exact Nat.zero_add _ | rfl)) (ltn rfl) ?_
  refine wl_val (r_load (plain_of Tryz.underlying3 rfl) rfl (cell_of_blk (HU_p).get.2 rfl)) (ltn rfl) ?_
  refine wl_val (r_eql rfl rfl) (ltn rfl) ?_
  refine wl_nil ?_
  refine wq_seq ?_
  refine wc_cond rfl (fun h1 => ?_) (fun h1 => ?_)
  · (try simp only [cmpS] at h1)
    have h0 : op = 0 := by omega
    refine wc_seq ?_
    refine wc_region ?_
    refine wl_val (r_assign rfl) (ltn rfl) ?_
    refine wl_nil ?_
    refine wq_seq ?_
    refine wc_ret ?_
    refine wq_then_ret ?_
    refine wq_end1 (.inl rfl) Tryz.results123 rfl ?_
    have Ho4 := HU_p.f5.f5.f5.f5.f5
    have Hc5 := Holds.mk_ulistF k1_p k2_p k3_p rfl Ho4
    subst h0
    exact ⟨rfl, Hc5⟩
  · (try simp only [cmpS] at h1)
    have h0 : ¬ op = 0 := by omega
    refine wc_skip ?_
    refine wq_seq ?_
    refine wc_seq ?_
    refine wc_seq ?_
    refine wc_region ?_
    refine wl_val (r_move rfl) (ltn rfl) ?_
    refine wl_val (r_nil rfl) (ltn rfl) ?_
    refine wl_val (r_fieldA 0 Tryz.underlying171 rfl rfl Tryz.sizeOf169 (by decide) rfl (by first | exact Nat.zero_add _ | rfl)) (ltn rfl) ?_
    refine wl_val (r_fieldA 2 Tryz.underlying169 rfl rfl Tryz.sizeOf3 (by decide) rfl (by first | exact Nat.zero_add _ | rfl)) (ltn rfl) ?_
    refine wl_val (r_load (plain_of Tryz.underlying3 rfl) rfl (cell_of_blk (HU_p).get.2 rfl)) (ltn rfl) ?_
    refine wl_val (r_sub rfl rfl (by omega)) (ltn rfl) ?_
    refine wl_val (r_nil rfl) (ltn rfl) ?_
    refine wl_val (r_fieldA 0 Tryz.underlying171 rfl rfl Tryz.sizeOf169 (by decide) rfl (by first | exact Nat.zero_add _ | rfl)) (ltn rfl) ?_
    refine wl_val (r_fieldA 2 Tryz.underlying169 rfl rfl Tryz.sizeOf3 (by decide) rfl (by first | exact Nat.zero_add _ | rfl)) (ltn rfl) ?_
    refine wl_eff0 (e_storeL 2 (l' := [_, _, _, _, _]) HU_p Tryz.sizeOf3 rfl rfl (by first | rfl | assumption) rfl rfl) ?_
    rintro _ w6 H6
    refine wl_nil ?_
    refine wq_seq ?_
    refine wc_seq ?_
    refine wc_region ?_
    refine wl_val (r_move rfl) (ltn rfl) ?_
    refine wl_val (r_nil rfl) (ltn rfl) ?_
    refine wl_val (r_fieldA 0 Tryz.underlying171 rfl rfl Tryz.sizeOf169 (by decide) rfl (by first | exact Nat.zero_add _ | rfl)) (ltn rfl) ?_
    refine wl_val (r_fieldA 2 Tryz.underlying169 rfl rfl Tryz.sizeOf3 (by decide) rfl (by first | exact Nat.zero_add _ | rfl)) (ltn rfl) ?_
    refine wl_val (r_load (plain_of Tryz.underlying3 rfl) rfl (cell_of_blk (H6).get.2 rfl)) (ltn rfl) ?_
    refine wl_val (r_eql rfl rfl) (ltn rfl) ?_
    refine wl_nil ?_
    refine wq_seq ?_
    refine wc_cond rfl (fun h2 => ?_) (fun h2 => ?_)
    · (try simp only [cmpS] at h2)
      have h1 : op = 1 := by omega
      have Ho7 := H6.f5.f5.f5.f5.f5
      have Hc8 := Holds.mk_ulistF (op := op - 1) ⟨k1_p.1, k1_p.2.1, by omega, by omega, k1_p.2.2.2.2⟩ k2_p k3_p rfl Ho7
      refine wc_region ?_
      refine wl_val (r_move rfl) (ltn rfl) ?_
      refine wl_eff (e_call (r_call rfl Tryz.func128 rfl rfl) (undo_close_ret Hc8)) (ltn rfl) ?_
      rintro _ w9 H9
      refine wl_nil ?_
      refine wq_seq ?_
      refine wc_seq ?_
      refine wc_region ?_
      refine wl_val (r_assign rfl) (ltn rfl) ?_
      refine wl_nil ?_
      refine wq_seq ?_
      refine wc_ret ?_
      refine wq_end1 (.inl rfl) Tryz.results123 rfl ?_
      subst h1
      exact ⟨rfl, H9⟩
    · (try simp only [cmpS] at h2)
      have h1 : ¬ op = 1 := by omega
      refine wc_skip ?_
      refine wq_seq ?_
      refine wc_seq ?_
      refine wc_region ?_
      refine wl_val (r_assign rfl) (ltn rfl) ?_
      refine wl_nil ?_
      refine wq_seq ?_
      refine wc_ret ?_
      refine wq_end1 (.inl rfl) Tryz.results123 rfl ?_
      rw [if_neg h0, if_neg h1, if_neg h1, if_neg h0]
      exact ⟨rfl, Holds.mk_ulistF ⟨k1_p.1, k1_p.2.1, by omega, by omega, k1_p.2.2.2.2⟩ k2_p k3_p rfl H6.f5.f5.f5.f5.f5⟩
theorem copied_any (H : Holds w0 w F) (hv : FRd w0 F 3 v es.length (es.flatMap BEd.enc)) (he : ∀ k, k < es.length → FRdI w0 F .i32 (es.getD k default).d (es.getD k default).dl ∧ FRdI w0 F .i32 (es.getD k default).i (es.getD k default).il)
    (hB : ∀ k, k < es.length → EB (es.getD k default).says) (hL : es.length ≤ 16384) :
    Ret Tryz.prog 164 #[v] w fun v' w' => ∃ fs : List BEd, fs.map BEd.says = es.map BEd.says ∧ Holds w0 w' (Row 120 3 v' fs.length (fs.flatMap BEd.enc) • edsK fs • F) := by
  refine ret_enter Tryz.func164 rfl Tryz.ntmps164 (Nat.le_of_ble_eq_true rfl) ?_
  dsimp only [slots0, Nat.reduceAdd]
  refine wc_seq ?_
  refine wc_region ?_
  refine wl_val (r_assign rfl) (ltn rfl) ?_
  refine wl_nil ?_
  refine wq_seq ?_
  refine wc_seq ?_
  refine wc_region ?_
  refine wl_val (r_assign rfl) (ltn rfl) ?_
  refine wl_nil ?_
  refine wq_seq ?_
  refine wc_seq ?_
  refine wc_seq ?_
  refine wc_region ?_
  refine wl_val (r_move rfl) (ltn rfl) ?_
  refine wl_val (r_lenS (hv _ (H)) Tryz.underlying64 rfl) (ltn rfl) ?_
  refine wl_val (r_move rfl) (ltn rfl) ?_
  refine wl_nil ?_
  refine wq_seq ?_
  refine wc_block ?_
  refine wc_loop [(6, _), (7, _)] (fun (⟨k, u⟩ : Nat × Value) => [(3, u), (8, .int .i64 (k : Int))]) (fun (⟨k, u⟩ : Nat × Value) W => k ≤ es.length ∧ ∃ fs : List BEd, fs.map BEd.says = (es.take k).map BEd.says ∧ Holds w0 W (Row 120 3 u fs.length (fs.flatMap BEd.enc) • edsK fs • F)) (fun (⟨k, u⟩ : Nat × Value) => es.length - k) ((0, .slice none 0 0)) (Sub.cons rfl (Sub.cons rfl (Sub.nil _))) (Sub.cons rfl (Sub.cons rfl (Sub.nil _))) ⟨by omega, [], rfl, (H.edL_nil none).edL⟩ ?_
  rintro ⟨k, u⟩ w1 ⟨hk, fs, hfs, HL⟩
  dsimp only [List.cons_append, List.nil_append]
  refine wc_seq ?_
  refine wc_region ?_
  refine wl_val (r_lss rfl rfl) (ltn rfl) ?_
  refine wl_nil ?_
  refine wq_seq ?_
  refine wc_seq ?_
  refine wc_cond rfl (fun h1 => ?_) (fun h1 => ?_)
  · (try simp only [cmpS] at h1)
    try (exfalso; first | contradiction | omega)
    all_goals
      
      refine wc_skip ?_
      refine wq_seq ?_
      refine wc_seq ?_
      refine wc_block ?_
      refine wc_seq ?_
      refine wc_region ?_
      obtain ⟨bv, ov, cv, ev⟩ := Rd.posV (hv _ (HL.right.right)) (by omega)
      cases ev
      refine wl_val (r_index Tryz.underlying64 Tryz.sizeOf120 rfl rfl (by omega)) (ltn rfl) ?_
      refine wl_val (r_load_elem (ys := [_, _, _]) (hv _ (HL.right.right)) (by omega) Tryz.underlying120 rfl Tryz.sizeOf120 rfl (flat_elem BEd.enc_len (by omega) default) rfl) (ltn rfl) ?_
      have hkl : k < es.length := by omega
      obtain ⟨f1, f2⟩ := he k hkl
      obtain ⟨hb1, hb2⟩ := hB k hkl
      have hb1 : (es.getD k default).dl.length ≤ 35184372087808 := hb1
      have hb2 : (es.getD k default).il.length ≤ 35184372087808 := hb2
      have hfl : fs.length = k := by have h9 := congrArg List.length hfs; simp at h9; omega
      refine wl_eff (e_allocL (l := [_, _, _]) HL Tryz.zeroValue120 rfl) (ltn rfl) ?_
      rintro _ w2 ⟨b2, rfl, H2⟩
      refine wl_eff0 (e_storePL 0 (l' := [_, _, _]) (us := [_, _, _]) H2 Tryz.sizeOf120 rfl rfl rfl (ones_cons (by first | rfl | assumption) (ones_cons (by first | rfl | exact Rd.one (f1 _ (H2.right.right.right))) (ones_cons (by first | rfl | exact Rd.one (f2 _ (H2.right.right.right))) ones_nil))) rfl rfl) ?_
      rintro _ w3 H3
      refine wl_nil ?_
      refine wq_seq ?_
      refine wc_region ?_
      refine wl_val (r_move rfl) (ltn rfl) ?_
      refine wl_val (r_load_whole Tryz.underlying120 rfl Tryz.sizeOf120 rfl rfl (H3).get.2) (ltn rfl) ?_
      refine wl_eff (e_call (r_call rfl Tryz.func170 rfl rfl) (undo_own_ret H3 (fun W HW => f1 _ (HW.right.right.right)) (fun W HW => f2 _ (HW.right.right.right)) (by omega) (by omega))) (ltn rfl) ?_
      rintro _ w4 ⟨d4, s4, rfl, H4⟩
      refine wl_eff (e_lit_one H4 Tryz.underlying64 Tryz.sizeOf120 Tryz.zeroValue120 rfl rfl rfl (by decide) (by decide)) (ltn rfl) ?_
      rintro l5 w5 H5
      refine wl_eff (e_append H5.f5 Tryz.underlying64 (show (Tryz.prog.info? 120).map (fun i => (i.zero, i.size, i.bytes)) = some (some (.agg #[.int .i64 0, .slice none 0 0, .slice none 0 0]), 3, 56) by kernel_rfl) rfl rfl rfl ((H5).row_rd) (ones_cons (by first | rfl | assumption) (ones_cons (by first | rfl | exact Rd.one ((H5.f2).row_rd)) (ones_cons (by first | rfl | exact Rd.one ((H5.f3).row_rd)) ones_nil))) (by omega) (by omega)) (ltn rfl) ?_
      rintro l6 w6 H6
      have Hd7 := H6.f2.right
      refine wl_val (r_assign rfl) (ltn rfl) ?_
      refine wl_nil ?_
      refine wq_block_normal ?_
      refine wq_seq ?_
      refine wc_region ?_
      refine wl_val (r_add rfl rfl (by omega)) (ltn rfl) ?_
      refine wl_val (r_move rfl) (ltn rfl) ?_
      refine wl_nil ?_
      refine wq_round ((k + 1, l6)) ?_ ?_ ?_ ?_
      · exact (Sub.cons rfl (Sub.cons rfl (Sub.nil _)))
      · exact (Sub.cons rfl (Sub.cons rfl (Sub.nil _)))
      · (try dsimp only)
        first | done | exact ⟨by omega, _, by rw [List.map_append, hfs, take_says (by omega)]; rfl, (Holds.edL_snoc (Hd7.f4.right.f4.f2.f4.f4).freezeI.swap.freezeI.swap.f3).edL⟩
      · (try dsimp only); omega
  · (try simp only [cmpS] at h1)
    try (exfalso; first | contradiction | omega)
    all_goals
      
      refine wc_exit ?_
      refine wq_then_exit ?_
      refine wq_then_exit ?_
      refine wq_block_hit ?_
      refine wq_seq ?_
      refine wc_seq ?_
      refine wc_region ?_
      refine wl_val (r_move rfl) (ltn rfl) ?_
      refine wl_val (r_assign rfl) (ltn rfl) ?_
      refine wl_nil ?_
      refine wq_seq ?_
      refine wc_ret ?_
      refine wq_end1 (.inl rfl) Tryz.results164 rfl ?_
      rw [List.take_of_length_le (by omega)] at hfs
      exact ⟨_, hfs, HL.f2.f2⟩
theorem Holds.edsK_ii {es : List BEd} (H : Holds w0 w (edsK es • F)) {k : Nat} (hk : k < es.length) : RdI w .i32 (es.getD k default).d (es.getD k default).dl ∧ RdI w .i32 (es.getD k default).i (es.getD k default).il := let ⟨I, h, hI⟩ := H.of_know; ⟨(h k hk).1.rd hI, (h k hk).2.rd hI⟩
theorem copied_row_ret (H : Holds w0 w (Row 120 3 v es.length (es.flatMap BEd.enc) • edsK es • F)) (hB : ∀ k, k < es.length → EB (es.getD k default).says) (hL : es.length ≤ 16384) :
    Ret Tryz.prog 164 #[v] w fun v' w' => ∃ fs : List BEd, fs.map BEd.says = es.map BEd.says ∧ Holds w0 w' (Row 120 3 v' fs.length (fs.flatMap BEd.enc) • edsK fs • Row 120 3 v es.length (es.flatMap BEd.enc) • edsK es • F) :=
  copied_any H (fun W HW => HW.row_rd) (fun k hk => ⟨fun W HW => (HW.right.edsK_ii hk).1, fun W HW => (HW.right.edsK_ii hk).2⟩) hB hL
theorem copied_el_ret (H : Holds w0 w (elK v es • F)) (hB : ∀ k, k < es.length → EB (es.getD k default).says) (hL : es.length ≤ 16384) :
    Ret Tryz.prog 164 #[v] w fun v' w' => ∃ fs : List BEd, fs.map BEd.says = es.map BEd.says ∧ Holds w0 w' (Row 120 3 v' fs.length (fs.flatMap BEd.enc) • edsK fs • elK v es • F) :=
  copied_any H (fun W HW => HW.elK_rd) (fun k hk => ⟨fun W HW => HW.elK_d hk, fun W HW => HW.elK_i hk⟩) hB hL
end
end Go.Proofs.YtgmpclifphbjkaaGreatDoor
end
section
/- Lists of edits that are taken back: Clear, Revert. -/
set_option linter.unusedSimpArgs false
set_option linter.unusedVariables false
namespace Go.Proofs.YtgmpclifphbjkaaGreatDoor
open Go.RowKit
def revR (G : List (List EdA)) (N : List EdA) : List EdA := (closeG G N).flatten.reverse.map invA
section
variable {w0 w : World} {F : HP} {p : Nat} {G : List (List EdA)} {N : List EdA} {op : Int} {gv nv v u : Value} {gs : List (Value × List BEd)} {now es fs : List BEd} {a : Int} {d z : Value} {dl il : List Int}
theorem undo_clear_ret (H : Holds w0 w (UList p G N op • F)) : Ret Tryz.prog 115 #[.pointer (some ⟨p, 0, none⟩)] w fun _ w' => Holds w0 w' (UList p [] [] 0 • F) := by
  refine ret_enter Tryz.func115 rfl Tryz.ntmps115 (Nat.le_of_ble_eq_true rfl) ?_
  dsimp only [slots0, Nat.reduceAdd]
  refine wc_seq ?_
  refine wc_region ?_
  refine wl_val (r_move rfl) (ltn rfl) ?_
  refine wl_eff (e_call (r_call rfl Tryz.func127 rfl rfl) (undo_none_ret H)) (ltn rfl) ?_
  rintro _ _ ⟨rfl, rfl⟩
  refine wl_val (r_not rfl) (ltn rfl) ?_
  refine wl_nil ?_
  refine wq_seq ?_
  refine wc_cond rfl (fun h1 => ?_) (fun h => by exfalso; (try simp only [cmpS] at h); simp at h)
  (try simp only [cmpS] at h1)
  obtain ⟨gv_p, nv_p, gs_p, now_p, k1_p, k2_p, k3_p, k4_p, k5_p, k6_p, HU_p⟩ := (H).ulist
  refine wc_region ?_
  refine wl_val (r_move rfl) (ltn rfl) ?_
  refine wl_val (r_build (pl := #[(0, 4), (4, 1)]) (#[_, _, _, _, _]) Tryz.underlying171 Tryz.zeroValue171 (fun w => by kernel_rfl) rfl (rfl)) (ltn rfl) ?_
  refine wl_val (r_nil rfl) (ltn rfl) ?_
  refine wl_eff0 (e_storePL 0 (l' := [_, _, _, _, _]) (us := [_, _, _, _, _]) HU_p Tryz.sizeOf171 rfl rfl rfl (ones_cons (by first | rfl | assumption) (ones_cons (by first | rfl | assumption) (ones_cons (by first | rfl | assumption) (ones_cons (by first | rfl | assumption) (ones_cons (by first | rfl | assumption) ones_nil))))) rfl rfl) ?_
  rintro _ w3 H3
  refine wl_nil ?_
  refine wq_end0 (.inr rfl) Tryz.results115 ?_
  refine Holds.mk_ulist (gv := .slice none 0 0) (nv := .slice none 0 0) (gs := []) (now := []) ⟨by simp, by decide, by decide, by decide, by simp, by simp⟩ rfl rfl rfl ?_
  exact (((H3.f2.right.f2.right.f2.right.f2.right).edL_nil none).edLL_nil none).of_eq (by ac_rfl)
theorem Holds.elsK_at (H : Holds w0 w (elsK gs • F)) {k : Nat} {gl : Value} {ges : List BEd} (hk : k < gs.length) (hg : gs.getD k default = (gl, ges)) : Holds w0 w (elK gl ges • elsK gs • F) := by
  have := H.elsK_get hk
  rwa [hg] at this
end
end Go.Proofs.YtgmpclifphbjkaaGreatDoor
end
section
/- Lists of edits that are taken back: Clone. -/
set_option linter.unusedSimpArgs false
set_option linter.unusedVariables false
namespace Go.Proofs.YtgmpclifphbjkaaGreatDoor
open Go.RowKit
theorem take_getD {G : List (List EdA)} {k : Nat} (hk : k < G.length) : G.take (k + 1) = G.take k ++ [G.getD k []] := by
  rw [List.take_succ_eq_append_getElem hk, List.getD_eq_getElem?_getD, List.getElem?_eq_getElem hk]
  rfl
theorem len_mem {G : List (List EdA)} {g : List EdA} (h : g ∈ G) : g.length ≤ (G.map List.length).sum := by
  induction G with
  | nil => cases h
  | cons x G ih =>
    rw [List.map_cons, List.sum_cons]
    rcases List.mem_cons.1 h with rfl | h
    · omega
    · have := ih h; omega
theorem EB_of {es : List BEd} {l : List EdA} (h : es.map BEd.says = l) (hl : ∀ e ∈ l, EB e) : ∀ k, k < es.length → EB (es.getD k default).says := fun k hk =>
  hl _ (by rw [← h]; exact List.mem_map_of_mem (getD_mem' hk))
section
variable {w0 w : World} {F : HP} {p : Nat} {G : List (List EdA)} {N : List EdA} {op : Int}
theorem undo_clone_ret (H : Holds w0 w (UList p G N op • F)) : Ret Tryz.prog 112 #[.pointer (some ⟨p, 0, none⟩)] w fun v w' => ∃ q, v = .pointer (some ⟨q, 0, none⟩) ∧ Holds w0 w' (UList q G N op • UList p G N op • F) := by
  refine ret_enter Tryz.func112 rfl Tryz.ntmps112 (Nat.le_of_ble_eq_true rfl) ?_
  dsimp only [slots0, Nat.reduceAdd]
  refine wc_seq ?_
  refine wc_region ?_
  refine wl_val (r_assign rfl) (ltn rfl) ?_
  refine wl_nil ?_
  refine wq_seq ?_
  refine wc_seq ?_
  refine wc_seq ?_
  refine wc_region ?_
  refine wl_val (r_move rfl) (ltn rfl) ?_
  refine wl_eff (e_call (r_call rfl Tryz.func127 rfl rfl) (undo_none_ret H)) (ltn rfl) ?_
  rintro _ _ ⟨rfl, rfl⟩
  refine wl_nil ?_
  refine wq_seq ?_
  refine wc_cond_f rfl ?_
  refine wc_skip ?_
  refine wq_seq ?_
  refine wc_seq ?_
  obtain ⟨gv_p, nv_p, gs_p, now_p, k1_p, k2_p, k3_p, k4_p, k5_p, k6_p, HU_p⟩ := (H).ulist
  have hLn : now_p.length ≤ 16384 := by omega
  have hBn := EB_of k3_p k1_p.2.2.2.2.2
  refine wc_region ?_
  refine wl_val (r_move rfl) (ltn rfl) ?_
  refine wl_val (r_nil rfl) (ltn rfl) ?_
  refine wl_val (r_load_whole Tryz.underlying171 rfl Tryz.sizeOf171 rfl rfl (HU_p).get.2) (ltn rfl) ?_
  refine wl_eff (e_allocL (l := [_, _, _, _, _]) HU_p Tryz.zeroValue171 rfl) (ltn rfl) ?_
  rintro _ w3 ⟨b3, rfl, H3⟩
  refine wl_eff0 (e_storePL 0 (l' := [_, _, _, _, _]) (us := [_, _, _, _, _]) H3 Tryz.sizeOf171 rfl rfl rfl (ones_cons (by first | rfl | exact Rd.one ((H3.f3).row_rd)) (ones_cons (by first | rfl | exact Rd.one ((H3.f5).row_rd)) (ones_cons (by first | rfl | assumption) (ones_cons (by first | rfl | assumption) (ones_cons (by first | rfl | assumption) ones_nil))))) rfl rfl) ?_
  rintro _ w4 H4
  refine wl_nil ?_
  refine wq_seq ?_
  refine wc_seq ?_
  refine wc_region ?_
  refine wl_val (r_move rfl) (ltn rfl) ?_
  refine wl_val (r_nil rfl) (ltn rfl) ?_
  refine wl_val (r_fieldA 0 Tryz.underlying171 rfl rfl Tryz.sizeOf169 (by decide) rfl (by first | exact Nat.zero_add _ | rfl)) (ltn rfl) ?_
  refine wl_val (r_fieldA 1 Tryz.underlying169 rfl rfl Tryz.sizeOf64 (by decide) rfl (by first | exact Nat.zero_add _ | rfl)) (ltn rfl) ?_
  refine wl_val (r_load (plain_of Tryz.underlying64 rfl) rfl (cell_of_blk (H4.f2).get.2 rfl)) (ltn rfl) ?_
  refine wl_eff (e_call (r_call rfl Tryz.func164 rfl rfl) (copied_row_ret H4.f6.f6 hBn hLn)) (ltn rfl) ?_
  rintro u5 w5 ⟨fs5, hfs5, H5⟩
  obtain ⟨es1, rfl⟩ : ∃ q, q = fs5 := ⟨_, rfl⟩
  have hes1 := hfs5
  refine wl_val (r_fieldA 0 Tryz.underlying171 rfl rfl Tryz.sizeOf169 (by decide) rfl (by first | exact Nat.zero_add _ | rfl)) (ltn rfl) ?_
  refine wl_val (r_fieldA 0 Tryz.underlying169 rfl rfl Tryz.sizeOf167 (by decide) rfl (by first | exact Nat.zero_add _ | rfl)) (ltn rfl) ?_
  refine wl_eff0 (e_storeL 0 (l' := [_, _, _, _, _]) H5.f5 Tryz.sizeOf167 rfl rfl (by first | rfl | assumption) rfl rfl) ?_
  rintro _ w6 H6
  refine wl_val (r_fieldA 0 Tryz.underlying171 rfl rfl Tryz.sizeOf169 (by decide) rfl (by first | exact Nat.zero_add _ | rfl)) (ltn rfl) ?_
  refine wl_val (r_fieldA 1 Tryz.underlying169 rfl rfl Tryz.sizeOf64 (by decide) rfl (by first | exact Nat.zero_add _ | rfl)) (ltn rfl) ?_
  refine wl_eff0 (e_storeL 1 (l' := [_, _, _, _, _]) H6 Tryz.sizeOf64 rfl rfl (by first | rfl | exact Rd.one ((H6.f2).row_rd)) rfl rfl) ?_
  rintro _ w7 H7
  refine wl_nil ?_
  refine wq_seq ?_
  refine wc_seq ?_
  refine wc_seq ?_
  refine wc_region ?_
  refine wl_val (r_move rfl) (ltn rfl) ?_
  refine wl_val (r_nil rfl) (ltn rfl) ?_
  refine wl_val (r_fieldA 0 Tryz.underlying171 rfl rfl Tryz.sizeOf169 (by decide) rfl (by first | exact Nat.zero_add _ | rfl)) (ltn rfl) ?_
  refine wl_val (r_fieldA 0 Tryz.underlying169 rfl rfl Tryz.sizeOf167 (by decide) rfl (by first | exact Nat.zero_add _ | rfl)) (ltn rfl) ?_
  refine wl_val (r_load (plain_of Tryz.underlying167 rfl) rfl (cell_of_blk (H7.f6).get.2 rfl)) (ltn rfl) ?_
  refine wl_val (r_lenS ((H7.f7).row_rd) Tryz.underlying167 rfl) (ltn rfl) ?_
  refine wl_val (r_move rfl) (ltn rfl) ?_
  refine wl_nil ?_
  refine wq_seq ?_
  refine wc_block ?_
  obtain ⟨agv_p, cgv_p, egv_p, -⟩ := ((H7.f7).row_rd).form
  subst egv_p
  refine wc_loop [(3, _), (25, _), (26, _)] (fun (k : Nat) => [(27, .int .i64 (k : Int))]) (fun (k : Nat) W => k ≤ gs_p.length ∧ ∃ gu, ∃ hs : List (Value × List BEd), hs.map (fun g => g.2.map BEd.says) = G.take k ∧ Holds w0 W (blk b3 (.cells #[gu, u5, .int .i64 op, .int .i64 (uTot G N : Nat), .bool true] 171 (0, 0)) • Row 64 1 gu hs.length (hs.map (·.1)) • elsK hs • Row 120 3 u5 es1.length (es1.flatMap BEd.enc) • edsK es1 • blk p (.cells #[(.slice agv_p (gs_p.length) cgv_p), nv_p, .int .i64 op, .int .i64 (uTot G N : Nat), .bool true] 171 (0, 0)) • Row 64 1 (.slice agv_p (gs_p.length) cgv_p) gs_p.length (gs_p.map (·.1)) • elsK gs_p • Row 120 3 nv_p now_p.length (now_p.flatMap BEd.enc) • edsK now_p • F)) (fun (k : Nat) => gs_p.length - k) (0) (Sub.cons rfl (Sub.cons rfl (Sub.cons rfl (Sub.nil _)))) (Sub.cons rfl (Sub.nil _)) ⟨by omega, _, [], rfl, ((H7.f5.f5.f8.f8.f8.f6.f8.f8).edLL_nil none).edLL.f5⟩ ?_
  rintro k w9 ⟨hk, gu, hs, hhs, HL⟩
  dsimp only [List.cons_append, List.nil_append]
  refine wc_seq ?_
  refine wc_region ?_
  refine wl_val (r_lss rfl rfl) (ltn rfl) ?_
  refine wl_nil ?_
  refine wq_seq ?_
  refine wc_seq ?_
  refine wc_cond rfl (fun h1 => ?_) (fun h1 => ?_)
  · (try simp only [cmpS] at h1)
    
    refine wc_skip ?_
    refine wq_seq ?_
    refine wc_seq ?_
    refine wc_block ?_
    refine wc_seq ?_
    refine wc_region ?_
    obtain ⟨bgv_p, ogv_p, rfl⟩ := Rd.pos ((HL.f7).row_rd) (by omega)
    refine wl_val (r_index Tryz.underlying167 Tryz.sizeOf64 rfl rfl (by omega)) (ltn rfl) ?_
    refine wl_val (r_load (plain_of Tryz.underlying64 rfl) rfl (by first | exact Rd.at1n ((HL.f7).row_rd) (by omega) | exact Rd.at0 ((HL.f7).row_rd) (by omega) | exact Rd.at1 ((HL.f7).row_rd) (by omega))) (ltn rfl) ?_
    have hkl : k < gs_p.length := by omega
    rw [show (gs_p.map (·.1)).getD k undef = (gs_p.getD k default).1 from by simp [List.getD_eq_getElem?_getD, hkl]]
    obtain ⟨gl, ges, hg⟩ : ∃ gl ges, gs_p.getD k default = (gl, ges) := ⟨_, _, rfl⟩
    rw [hg]
    have Ho10 := HL.f8
    have Hc11 := Ho10.elsK_at hkl hg
    have hge : ges.map BEd.says = G.getD k [] := by
      rw [← k2_p]
      have h9 : (gs_p.map (fun g => g.2.map BEd.says)).getD k [] = (gs_p.getD k default).2.map BEd.says := by simp [List.getD_eq_getElem?_getD, hkl]
      rw [h9, hg]
    have hgm : G.getD k [] ∈ G := getD_mem' (by omega)
    have hBg := EB_of hge (k1_p.2.2.2.2.1 _ hgm)
    have hLg : ges.length ≤ 16384 := by
      have h8 := k1_p.2.1
      unfold uTot at h8
      have h7 := congrArg List.length hge
      rw [List.length_map] at h7
      have h6 := len_mem hgm
      omega
    have hhl := congrArg List.length hhs
    rw [List.length_map, List.length_take] at hhl
    refine wl_val (r_assign rfl) (ltn rfl) ?_
    refine wl_nil ?_
    refine wq_seq ?_
    have H8d11 := Hc11.drew
    have hS8d11 := Holds.kp (H8d11.f11.f11.f11.f11.f11.f11.f11.f11.f11.f11.f11)
    refine wd_beginK [2] hS8d11 (by kernel_rfl) (by kernel_rfl) rfl ?_
    refine wd_takeT 0 rfl (by kernel_rfl) (by kernel_rfl) hS8d11 (fun _ => r_fieldA 0 Tryz.underlying171 rfl rfl Tryz.sizeOf169 (by decide) rfl (by first | exact Nat.zero_add _ | rfl)) (ltn rfl) ?_
    refine wd_takeT 1 rfl (by kernel_rfl) (by kernel_rfl) hS8d11 (fun _ => r_fieldA 0 Tryz.underlying169 rfl rfl Tryz.sizeOf167 (by decide) rfl (by first | exact Nat.zero_add _ | rfl)) (ltn rfl) ?_
    refine wd_take 2 rfl (by kernel_rfl) (by kernel_rfl) hS8d11 (by decide) (fun W hW => r_load (plain_of Tryz.underlying167 rfl) rfl (cell_of_blk ((Kp.h hW).f3).get.2 rfl)) (ltn rfl) ?_
    refine wd_takeT 3 rfl (by kernel_rfl) (by kernel_rfl) hS8d11 (fun _ => r_move rfl) (ltn rfl) ?_
    refine wd_eff 4 rfl (by kernel_rfl) (e_call (r_call rfl Tryz.func164 rfl rfl) (copied_el_ret H8d11 hBg hLg)) (ltn rfl) ?_
    rintro u12 w12 ⟨fs12, hfs12, H12⟩
    obtain ⟨es2, rfl⟩ : ∃ q, q = fs12 := ⟨_, rfl⟩
    have hes2 := hfs12
    have hS12n := Holds.kp (H12.f13.f13.f13.f13.f13.f13.f13.f13.f13.f13.f13.f13.f13)
    refine keepK hS12n (fun W hW => (Kp.h hW).right.right.f11.f11.f11.f11.f11.f11.f11.f11.f11.f11.f11) ?_
    refine wd_eff 5 rfl (by kernel_rfl) (e_lit_row (vs := [_]) H12 Tryz.underlying167 Tryz.sizeOf64 Tryz.zeroValue64 rfl rfl rfl (by decide) (ones_cons (by first | rfl | exact Rd.one ((H12).row_rd)) ones_nil)) (ltn rfl) ?_
    rintro l13 w13 H13
    have hS13n := Holds.kp (H13.f14.f14.f14.f14.f14.f14.f14.f14.f14.f14.f14.f14.f14.f14)
    refine keepK hS13n (fun W hW => (Kp.h hW).right.f13.f13.f13.f13.f13.f13.f13.f13.f13.f13.f13.f13.f13) ?_
    refine wd_eff 6 rfl (by kernel_rfl) (e_append H13.f7 Tryz.underlying167 (show (Tryz.prog.info? 64).map (fun i => (i.zero, i.size, i.bytes)) = some (some (.slice none 0 0), 1, 24) by kernel_rfl) rfl rfl rfl ((H13).row_rd) (ones_cons (by first | rfl | exact Rd.one ((H13.f2).row_rd)) ones_nil) (by omega) (by omega)) (ltn rfl) ?_
    rintro l14 w14 H14
    have Hd15 := H14.f2.right
    have hS15n := Holds.kp (Hd15.f13.f13.f13.f13.f13.f13.f13.f13.f13.f13.f13.f13.f13)
    refine keepX hS15n (by kernel_rfl) ?_
    refine wd_takeT 7 rfl (by kernel_rfl) (by kernel_rfl) hS15n (fun _ => r_fieldA 0 Tryz.underlying171 rfl rfl Tryz.sizeOf169 (by decide) rfl (by first | exact Nat.zero_add _ | rfl)) (ltn rfl) ?_
    refine wd_takeT 8 rfl (by kernel_rfl) (by kernel_rfl) hS15n (fun _ => r_fieldA 0 Tryz.underlying169 rfl rfl Tryz.sizeOf167 (by decide) rfl (by first | exact Nat.zero_add _ | rfl)) (ltn rfl) ?_
    refine wd_eff0 9 rfl (by kernel_rfl) (e_storeL 0 (l' := [_, _, _, _, _]) Hd15.f6 Tryz.sizeOf167 rfl rfl (by first | rfl | exact Rd.one ((Hd15).row_rd)) rfl rfl) ?_
    rintro _ w16 H16
    have hS16n := Holds.kp (H16.f13.f13.f13.f13.f13.f13.f13.f13.f13.f13.f13.f13.f13)
    refine keepX hS16n (by kernel_rfl) ?_
    have X := Holds.edL_freeze (es := es2) (H16.f5.right.f12.f12.f7.f12.f12.f12.f12.f8.f12.f10.f12.f12).deep
    have HN := (Holds.edLL_snoc X.swap).edLL.f3
    have hnew : (hs ++ [(u12, es2)]).map (fun g => g.2.map BEd.says) = G.take (k + 1) := by rw [List.map_append, hhs, take_getD (by omega), ← hge, ← hes2]; rfl
    refine wd_done (by kernel_rfl) ?_
    refine wq_block_normal ?_
    refine wq_seq ?_
    refine wc_region ?_
    refine wl_val (r_add rfl rfl (by omega)) (ltn rfl) ?_
    refine wl_val (r_move rfl) (ltn rfl) ?_
    refine wl_nil ?_
    refine wq_round (k + 1) ?_ ?_ ?_ ?_
    · exact (Sub.cons rfl (Sub.nil _))
    · exact (Sub.cons rfl (Sub.cons rfl (Sub.cons rfl (Sub.nil _))))
    · (try dsimp only)
      first | done | exact ⟨by omega, _, _, hnew, HN⟩
    · (try dsimp only); omega
  · (try simp only [cmpS] at h1)
    
    refine wc_exit ?_
    refine wq_then_exit ?_
    refine wq_then_exit ?_
    refine wq_block_hit ?_
    refine wq_seq ?_
    refine wc_seq ?_
    refine wc_region ?_
    refine wl_val (r_assign rfl) (ltn rfl) ?_
    refine wl_nil ?_
    refine wq_seq ?_
    refine wc_ret ?_
    refine wq_end1 (.inl rfl) Tryz.results112 rfl ?_
    rw [List.take_of_length_le (by omega)] at hhs
    have X := Holds.mk_ulistF (gs := hs) (now := es1) k1_p hhs (hes1.trans k3_p) rfl (HL.f10.f10.f10.f10.f10.f10.f10.f10.f10.f10)
    have Y := Holds.mk_ulistF k1_p k2_p k3_p rfl X.f6.f6.f6.f6.f6
    exact ⟨_, rfl, Y.swap⟩
end
end Go.Proofs.YtgmpclifphbjkaaGreatDoor
end
section
/- All groups of a list, the last one first. -/
set_option linter.unusedSimpArgs false
set_option linter.unusedVariables false
namespace Go.Proofs.YtgmpclifphbjkaaGreatDoor
open Go.RowKit
def allG (G : List (List EdA)) (N : List EdA) : List (List EdA) := (closeG G N).reverse
def nowG (N : List EdA) : List (List EdA) := if N = [] then [] else [N]
theorem nowG_len (N : List EdA) : (nowG N).length ≤ 1 := by unfold nowG; split <;> simp
theorem allG_eq (G : List (List EdA)) (N : List EdA) : allG G N = nowG N ++ G.reverse := by
  unfold allG nowG closeG; split <;> simp
end Go.Proofs.YtgmpclifphbjkaaGreatDoor
end
section
/- Histories: what stands in memory; New, none, Len, At, Clone. -/
set_option linter.unusedSimpArgs false
set_option linter.unusedVariables false
namespace Go.Proofs.YtgmpclifphbjkaaGreatDoor
open Go.RowKit
abbrev HLn := ByteArray × Int
def hlEnc (x : HLn) : List Value := [.string x.1, .int .i64 x.2]
theorem hlEnc_len (x : HLn) : (hlEnc x).length = 2 := rfl
def hlOk (x : HLn) : Prop := x.1.size ≤ 16384 ∧ 0 ≤ x.2
def HOk (hl : List HLn) (base most : Int) : Prop := hl.length ≤ 4096 ∧ 1 ≤ base ∧ base ≤ 4611686018427387904 ∧ (hl.length : Int) ≤ most ∧ most ≤ 4096 ∧ ∀ x ∈ hl, hlOk x
def HistRep (p : Nat) (hl : List HLn) (base most : Int) : HP := exHP fun (v : Value) => fact (HOk hl base most) • blk p (.cells #[v, .int .i64 base, .int .i64 most] 97 (0, 0)) • Row 152 2 v hl.length (hl.flatMap hlEnc)
section
variable {P : Program} {L : List (Nat × Value)} {w0 w : World} {F : HP} {ty : TypeId} {p : Nat} {hl : List HLn} {base most : Int} {v : Value}
/-- A literal of no structs. -/
theorem e_lit_none {t e sz : Nat} {z : Value} (H : Holds w0 w F) (ht : P.underlying t = some (.slice e)) (hs : ∀ w, (sizeOf e).run P w = .ok sz w) (hz : ∀ w, (zeroValue e).run P w = .ok z w) :
    Eff P L (.buildSlice t 0 #[]) ty w fun v w' => Holds w0 w' (Row e sz v 0 [] • F) := by
  refine e_val (v := .slice (some ⟨w.heap.size, 0, none⟩) 0 0) (w' := w.alloc (.cells #[] e)) ?_ ?_
  · intro ρ hρ d pos aft g
    simp only [execOp, Instr.buildSlice, Sem.run_bind, run_underlying ht, Result.andThen_ok, hs]
    have h0 : Array.map (fun (_ : Nat) => (default : Value)) (Array.range 0) = #[] := Array.eq_empty_of_size_eq_zero (by simp)
    simp [Instr.fill, newRow, h0]
  · exact (H.alloc _).right.row_nil _
theorem Holds.hist (H : Holds w0 w (HistRep p hl base most • F)) : ∃ v, HOk hl base most ∧ Holds w0 w (blk p (.cells #[v, .int .i64 base, .int .i64 most] 97 (0, 0)) • Row 152 2 v hl.length (hl.flatMap hlEnc) • F) := by
  obtain ⟨v, H⟩ := H.ex_sep
  obtain ⟨h, H⟩ := H.flat.fact
  exact ⟨v, h, H.flat⟩
theorem Holds.mk_hist (h : HOk hl base most) (H : Holds w0 w (blk p (.cells #[v, .int .i64 base, .int .i64 most] 97 (0, 0)) • Row 152 2 v hl.length (hl.flatMap hlEnc) • F)) : Holds w0 w (HistRep p hl base most • F) :=
  Holds.mk_ex_sep v (Holds.deep (Holds.mk_fact h H.deep))
theorem hl_ones {hl : List HLn} : ∀ x ∈ hl.flatMap hlEnc, x.oneCell' = true := by
  intro x hx
  obtain ⟨e, _, hx⟩ := List.mem_flatMap.1 hx
  simp [hlEnc] at hx
  rcases hx with rfl | rfl <;> rfl
theorem info_hl : (Tryz.prog.info? 152).map (fun i => (i.zero, i.size, i.bytes)) = some (some (.agg #[.string .empty, .int .i64 0]), 2, 24) := by kernel_rfl
theorem hl_clone_ret (H : Holds w0 w F) (hr : FRd w0 F 2 v hl.length (hl.flatMap hlEnc)) (hb : hl.length ≤ 1099511627776) :
    Ret Tryz.prog 110 #[v] w fun v' w' => Holds w0 w' (Row 152 2 v' hl.length (hl.flatMap hlEnc) • F) := by
  obtain ⟨hlen, a, c, rfl, h1, h2, h3⟩ := hr w H
  refine ret_enter Tryz.func110 rfl Tryz.ntmps110 (Nat.le_of_ble_eq_true rfl) ?_
  dsimp only [slots0, Nat.reduceAdd]
  refine wc_seq ?_
  refine wc_region ?_
  refine wl_val (r_assign rfl) (ltn rfl) ?_
  refine wl_nil ?_
  refine wq_seq ?_
  refine wc_seq ?_
  refine wc_seq ?_
  refine wc_region ?_
  refine wl_val (r_move rfl) (ltn rfl) ?_
  refine wl_val (r_slice_nil Tryz.underlying51 rfl rfl) (ltn rfl) ?_
  refine wl_nil ?_
  refine wq_seq ?_
  refine wc_cond rfl (fun h1 => ?_) (fun h1 => ?_)
  · (try simp only [cmpS] at h1)
    try (exfalso; first | contradiction | omega)
    all_goals
      
      refine wc_seq ?_
      refine wc_region ?_
      refine wl_val (r_assign rfl) (ltn rfl) ?_
      refine wl_nil ?_
      refine wq_seq ?_
      refine wc_ret ?_
      refine wq_then_ret ?_
      refine wq_end1 (.inl rfl) Tryz.results110 rfl ?_
      obtain rfl : a = none := by simpa using h1
      obtain rfl : hl = [] := by
        cases hl with
        | nil => rfl
        | cons x l => obtain ⟨b, o, e, _⟩ := h3 (by simp); cases e
      exact H.row_nil none
  · (try simp only [cmpS] at h1)
    try (exfalso; first | contradiction | omega)
    all_goals
      
      refine wc_skip ?_
      refine wq_seq ?_
      refine wc_seq ?_
      refine wc_region ?_
      refine wl_eff (e_lit_none H Tryz.underlying51 Tryz.sizeOf152 Tryz.zeroValue152) (ltn rfl) ?_
      rintro _ w1 H1
      refine wl_val (r_move rfl) (ltn rfl) ?_
      refine wl_eff (e_append H1 Tryz.underlying51 info_hl rfl rfl rfl (hr.under _ H1) hl_ones (by omega) (by omega)) (ltn rfl) ?_
      rintro _ w2 H2
      refine wl_val (r_assign rfl) (ltn rfl) ?_
      refine wl_nil ?_
      refine wq_seq ?_
      refine wc_ret ?_
      refine wq_end1 (.inl rfl) Tryz.results110 rfl ?_
      exact H2.of_eq (by rw [Nat.zero_add, List.nil_append])
theorem hist_none_ret (H : Holds w0 w (HistRep p hl base most • F)) : Ret Tryz.prog 109 #[.pointer (some ⟨p, 0, none⟩)] w fun v w' => v = .bool false ∧ w = w' := by
  refine ret_enter Tryz.func109 rfl Tryz.ntmps109 (Nat.le_of_ble_eq_true rfl) ?_
  dsimp only [slots0, Nat.reduceAdd]
  refine wc_seq ?_
  refine wc_region ?_
  refine wl_val (r_assign rfl) (ltn rfl) ?_
  refine wl_nil ?_
  refine wq_seq ?_
  refine wc_seq ?_
  obtain ⟨hv_p, hk_p, HH_p⟩ := (H).hist
  refine wc_region ?_
  refine wl_val (r_move rfl) (ltn rfl) ?_
  refine wl_val (r_ptr_nil Tryz.underlying24 rfl rfl) (ltn rfl) ?_
  refine wl_split rfl (ltn rfl) (fun h1 => ?_) (fun h1 => ?_)
  · (try simp only [cmpS] at h1)
    try (exfalso; first | contradiction | omega)
    all_goals
      refine wl_no rfl rfl rfl (ltn rfl) ?_
      refine wl_no rfl rfl rfl (ltn rfl) ?_
      refine wl_no rfl rfl rfl (ltn rfl) ?_
      refine wl_no rfl rfl rfl (ltn rfl) ?_
      refine wl_no rfl rfl rfl (ltn rfl) ?_
      refine wl_no rfl rfl rfl (ltn rfl) ?_
      refine wl_val (r_pick_t rfl rfl) (ltn rfl) ?_
      refine wl_val (r_assign rfl) (ltn rfl) ?_
      refine wl_nil ?_
      refine wq_seq ?_
      refine wc_ret ?_
      refine wq_end1 (.inl rfl) Tryz.results109 rfl ?_
      exact ⟨by rw [show (base == 0) = false from by rw [beq_eq_false_iff_ne]; have := hk_p.2.1; omega], rfl⟩
  · (try simp only [cmpS] at h1)
    try (exfalso; first | contradiction | omega)
    all_goals
      refine wl_yes rfl rfl ?_
      refine wl_val (r_move rfl) (ltn rfl) ?_
      refine wl_yes rfl rfl ?_
      refine wl_val (r_nil rfl) (ltn rfl) ?_
      refine wl_yes rfl rfl ?_
      refine wl_val (r_fieldA 0 Tryz.underlying97 rfl rfl Tryz.sizeOf95 (by decide) rfl (by first | exact Nat.zero_add _ | rfl)) (ltn rfl) ?_
      refine wl_yes rfl rfl ?_
      refine wl_val (r_fieldA 1 Tryz.underlying95 rfl rfl Tryz.sizeOf2 (by decide) rfl (by first | exact Nat.zero_add _ | rfl)) (ltn rfl) ?_
      refine wl_yes rfl rfl ?_
      refine wl_val (r_load (plain_of Tryz.underlying2 rfl) rfl (cell_of_blk (HH_p).get.2 rfl)) (ltn rfl) ?_
      refine wl_yes rfl rfl ?_
      refine wl_val (r_eql rfl rfl) (ltn rfl) ?_
      refine wl_val (r_pick_f rfl rfl) (ltn rfl) ?_
      refine wl_val (r_assign rfl) (ltn rfl) ?_
      refine wl_nil ?_
      refine wq_seq ?_
      refine wc_ret ?_
      refine wq_end1 (.inl rfl) Tryz.results109 rfl ?_
      exact ⟨by rw [show (base == 0) = false from by rw [beq_eq_false_iff_ne]; have := hk_p.2.1; omega], rfl⟩
theorem hist_new_ret {n : Int} (H : Holds w0 w F) (hn : 0 ≤ n ∧ n ≤ 4096) : Ret Tryz.prog 7 #[.int .i64 n] w fun v w' => ∃ p, v = .tuple #[.pointer (some ⟨p, 0, none⟩), .int .i64 0] ∧ Holds w0 w' (HistRep p [] 1 n • F) := by
  refine ret_enter Tryz.func7 rfl Tryz.ntmps7 (Nat.le_of_ble_eq_true rfl) ?_
  dsimp only [slots0, Nat.reduceAdd]
  refine wc_seq ?_
  refine wc_region ?_
  refine wl_val (r_assign rfl) (ltn rfl) ?_
  refine wl_val (r_assign rfl) (ltn rfl) ?_
  refine wl_nil ?_
  refine wq_seq ?_
  refine wc_seq ?_
  refine wc_seq ?_
  refine wc_region ?_
  refine wl_val (r_move rfl) (ltn rfl) ?_
  refine wl_val (r_lss rfl rfl) (ltn rfl) ?_
  refine wl_split rfl (ltn rfl) (fun h1 => ?_) (fun h1 => ?_)
  · (try simp only [cmpS] at h1)
    try (exfalso; first | contradiction | omega)
    all_goals
      refine wl_no rfl rfl rfl (ltn rfl) ?_
      refine wl_no rfl rfl rfl (ltn rfl) ?_
      refine wl_val (r_pick_t rfl rfl) (ltn rfl) ?_
      refine wl_nil ?_
      refine wq_seq ?_
      refine wc_cond_t rfl ?_
      refine wc_seq ?_
      refine wc_region ?_
      refine wl_val (r_assign rfl) (ltn rfl) ?_
      refine wl_val (r_assign rfl) (ltn rfl) ?_
      refine wl_nil ?_
      refine wq_seq ?_
      refine wc_ret ?_
      refine wq_then_ret ?_
      refine wq_end2 (.inl rfl) Tryz.results7 rfl rfl ?_
      exact ⟨_, rfl, Holds.mk_hist (v := .slice none 0 0) ⟨by simp, by decide, by decide, by simp; omega, by omega, by simp⟩ ((H.row_nil none).swap)⟩
  · (try simp only [cmpS] at h1)
    try (exfalso; first | contradiction | omega)
    all_goals
      refine wl_yes rfl rfl ?_
      refine wl_val (r_move rfl) (ltn rfl) ?_
      refine wl_yes rfl rfl ?_
      refine wl_val (r_gtr rfl rfl) (ltn rfl) ?_
      refine wl_val (r_pick_f rfl rfl) (ltn rfl) ?_
      refine wl_nil ?_
      refine wq_seq ?_
      refine wc_cond rfl (fun h2 => ?_) (fun h2 => ?_)
      · (try simp only [cmpS] at h2)
        try (exfalso; first | contradiction | omega)
        all_goals
          
          refine wc_seq ?_
          refine wc_region ?_
          refine wl_val (r_assign rfl) (ltn rfl) ?_
          refine wl_val (r_assign rfl) (ltn rfl) ?_
          refine wl_nil ?_
          refine wq_seq ?_
          refine wc_ret ?_
          refine wq_then_ret ?_
          refine wq_end2 (.inl rfl) Tryz.results7 rfl rfl ?_
          exact ⟨_, rfl, Holds.mk_hist (v := .slice none 0 0) ⟨by simp, by decide, by decide, by simp; omega, by omega, by simp⟩ ((H.row_nil none).swap)⟩
      · (try simp only [cmpS] at h2)
        try (exfalso; first | contradiction | omega)
        all_goals
          
          refine wc_skip ?_
          refine wq_seq ?_
          refine wc_seq ?_
          refine wc_region ?_
          refine wl_val (r_move rfl) (ltn rfl) ?_
          refine wl_val (r_build (pl := #[(0, 1), (1, 1), (2, 1)]) (#[_, _, _]) Tryz.underlying95 Tryz.zeroValue95 (fun w => by kernel_rfl) rfl (rfl)) (ltn rfl) ?_
          refine wl_val (r_build (pl := #[(0, 3)]) (#[_, _, _]) Tryz.underlying97 Tryz.zeroValue97 (fun w => by kernel_rfl) rfl (rfl)) (ltn rfl) ?_
          refine wl_eff (e_boxL (l := [_, _, _]) H rfl rfl) (ltn rfl) ?_
          rintro _ w1 ⟨b1, rfl, H1⟩
          refine wl_val (r_assign rfl) (ltn rfl) ?_
          refine wl_val (r_assign rfl) (ltn rfl) ?_
          refine wl_nil ?_
          refine wq_seq ?_
          refine wc_ret ?_
          refine wq_end2 (.inl rfl) Tryz.results7 rfl rfl ?_
          exact ⟨_, rfl, Holds.mk_hist (v := .slice none 0 0) ⟨by simp, by decide, by decide, by simp; omega, by omega, by simp⟩ ((H1.row_nil none).swap)⟩
theorem hist_len_ret (H : Holds w0 w (HistRep p hl base most • F)) : Ret Tryz.prog 75 #[.pointer (some ⟨p, 0, none⟩)] w fun v w' => v = .int .i64 hl.length ∧ Holds w0 w' (HistRep p hl base most • F) := by
  refine ret_enter Tryz.func75 rfl Tryz.ntmps75 (Nat.le_of_ble_eq_true rfl) ?_
  dsimp only [slots0, Nat.reduceAdd]
  refine wc_seq ?_
  refine wc_region ?_
  refine wl_val (r_assign rfl) (ltn rfl) ?_
  refine wl_nil ?_
  refine wq_seq ?_
  refine wc_seq ?_
  refine wc_seq ?_
  refine wc_region ?_
  refine wl_val (r_move rfl) (ltn rfl) ?_
  refine wl_eff (e_call (r_call rfl Tryz.func109 rfl rfl) (hist_none_ret H)) (ltn rfl) ?_
  rintro _ _ ⟨rfl, rfl⟩
  refine wl_nil ?_
  refine wq_seq ?_
  refine wc_cond_f rfl ?_
  refine wc_skip ?_
  refine wq_seq ?_
  refine wc_seq ?_
  obtain ⟨hv_p, hk_p, HH_p⟩ := (H).hist
  refine wc_region ?_
  refine wl_val (r_move rfl) (ltn rfl) ?_
  refine wl_val (r_nil rfl) (ltn rfl) ?_
  refine wl_val (r_fieldA 0 Tryz.underlying97 rfl rfl Tryz.sizeOf95 (by decide) rfl (by first | exact Nat.zero_add _ | rfl)) (ltn rfl) ?_
  refine wl_val (r_fieldA 0 Tryz.underlying95 rfl rfl Tryz.sizeOf51 (by decide) rfl (by first | exact Nat.zero_add _ | rfl)) (ltn rfl) ?_
  refine wl_val (r_load (plain_of Tryz.underlying51 rfl) rfl (cell_of_blk (HH_p).get.2 rfl)) (ltn rfl) ?_
  refine wl_val (r_lenS ((HH_p.f2).row_rd) Tryz.underlying51 rfl) (ltn rfl) ?_
  refine wl_val (r_assign rfl) (ltn rfl) ?_
  refine wl_nil ?_
  refine wq_seq ?_
  refine wc_ret ?_
  refine wq_end1 (.inl rfl) Tryz.results75 rfl ?_
  have Ho4 := HH_p.f2.f2
  have Hc5 := Holds.mk_hist hk_p Ho4
  exact ⟨rfl, Hc5⟩
theorem hist_clone_ret (H : Holds w0 w (HistRep p hl base most • F)) : Ret Tryz.prog 40 #[.pointer (some ⟨p, 0, none⟩)] w fun v w' => ∃ q, v = .pointer (some ⟨q, 0, none⟩) ∧ Holds w0 w' (HistRep q hl base most • HistRep p hl base most • F) := by
  refine ret_enter Tryz.func40 rfl Tryz.ntmps40 (Nat.le_of_ble_eq_true rfl) ?_
  dsimp only [slots0, Nat.reduceAdd]
  refine wc_seq ?_
  refine wc_region ?_
  refine wl_val (r_assign rfl) (ltn rfl) ?_
  refine wl_nil ?_
  refine wq_seq ?_
  refine wc_seq ?_
  refine wc_seq ?_
  refine wc_region ?_
  refine wl_val (r_move rfl) (ltn rfl) ?_
  refine wl_eff (e_call (r_call rfl Tryz.func109 rfl rfl) (hist_none_ret H)) (ltn rfl) ?_
  rintro _ _ ⟨rfl, rfl⟩
  refine wl_nil ?_
  refine wq_seq ?_
  refine wc_cond_f rfl ?_
  refine wc_skip ?_
  refine wq_seq ?_
  refine wc_seq ?_
  obtain ⟨hv_p, hk_p, HH_p⟩ := (H).hist
  have hcl := hk_p.1
  have H3d2 := HH_p.drew
  have hS3d2 := Holds.kp (H3d2.f2.f2)
  refine wd_beginK [4, 10, 15] hS3d2 (by kernel_rfl) (by kernel_rfl) rfl ?_
  refine wd_takeT 0 rfl (by kernel_rfl) (by kernel_rfl) hS3d2 (fun _ => r_move rfl) (ltn rfl) ?_
  refine wd_takeT 1 rfl (by kernel_rfl) (by kernel_rfl) hS3d2 (fun _ => r_nil rfl) (ltn rfl) ?_
  refine wd_takeT 2 rfl (by kernel_rfl) (by kernel_rfl) hS3d2 (fun _ => r_fieldA 0 Tryz.underlying97 rfl rfl Tryz.sizeOf95 (by decide) rfl (by first | exact Nat.zero_add _ | rfl)) (ltn rfl) ?_
  refine wd_takeT 3 rfl (by kernel_rfl) (by kernel_rfl) hS3d2 (fun _ => r_fieldA 0 Tryz.underlying95 rfl rfl Tryz.sizeOf51 (by decide) rfl (by first | exact Nat.zero_add _ | rfl)) (ltn rfl) ?_
  refine wd_take 4 rfl (by kernel_rfl) (by kernel_rfl) hS3d2 (by decide) (fun W hW => r_load (plain_of Tryz.underlying51 rfl) rfl (cell_of_blk ((Kp.h hW)).get.2 rfl)) (ltn rfl) ?_
  refine wd_takeT 6 rfl (by kernel_rfl) (by kernel_rfl) hS3d2 (fun _ => r_move rfl) (ltn rfl) ?_
  refine wd_takeT 7 rfl (by kernel_rfl) (by kernel_rfl) hS3d2 (fun _ => r_nil rfl) (ltn rfl) ?_
  refine wd_takeT 8 rfl (by kernel_rfl) (by kernel_rfl) hS3d2 (fun _ => r_fieldA 0 Tryz.underlying97 rfl rfl Tryz.sizeOf95 (by decide) rfl (by first | exact Nat.zero_add _ | rfl)) (ltn rfl) ?_
  refine wd_takeT 9 rfl (by kernel_rfl) (by kernel_rfl) hS3d2 (fun _ => r_fieldA 1 Tryz.underlying95 rfl rfl Tryz.sizeOf2 (by decide) rfl (by first | exact Nat.zero_add _ | rfl)) (ltn rfl) ?_
  refine wd_take 10 rfl (by kernel_rfl) (by kernel_rfl) hS3d2 (by decide) (fun W hW => r_load (plain_of Tryz.underlying2 rfl) rfl (cell_of_blk ((Kp.h hW)).get.2 rfl)) (ltn rfl) ?_
  refine wd_takeT 11 rfl (by kernel_rfl) (by kernel_rfl) hS3d2 (fun _ => r_move rfl) (ltn rfl) ?_
  refine wd_takeT 12 rfl (by kernel_rfl) (by kernel_rfl) hS3d2 (fun _ => r_nil rfl) (ltn rfl) ?_
  refine wd_takeT 13 rfl (by kernel_rfl) (by kernel_rfl) hS3d2 (fun _ => r_fieldA 0 Tryz.underlying97 rfl rfl Tryz.sizeOf95 (by decide) rfl (by first | exact Nat.zero_add _ | rfl)) (ltn rfl) ?_
  refine wd_takeT 14 rfl (by kernel_rfl) (by kernel_rfl) hS3d2 (fun _ => r_fieldA 2 Tryz.underlying95 rfl rfl Tryz.sizeOf3 (by decide) rfl (by first | exact Nat.zero_add _ | rfl)) (ltn rfl) ?_
  refine wd_take 15 rfl (by kernel_rfl) (by kernel_rfl) hS3d2 (by decide) (fun W hW => r_load (plain_of Tryz.underlying3 rfl) rfl (cell_of_blk ((Kp.h hW)).get.2 rfl)) (ltn rfl) ?_
  refine wd_eff 5 rfl (by kernel_rfl) (e_call (r_call rfl Tryz.func110 rfl rfl) (hl_clone_ret H3d2 (fun W HW => (HW.f2).row_rd) (by omega))) (ltn rfl) ?_
  rintro u3 w3 H3
  have hS3n := Holds.kp (H3.f3.f3.f3)
  refine keepK hS3n (fun W hW => (Kp.h hW).right.f2.f2) ?_
  obtain ⟨au3, cu3, eu3, -⟩ := ((H3).row_rd).form
  subst eu3
  refine wd_takeT 16 rfl (by kernel_rfl) (by kernel_rfl) hS3n (fun _ => r_build (pl := #[(0, 1), (1, 1), (2, 1)]) (#[_, _, _]) Tryz.underlying95 Tryz.zeroValue95 (fun w => by kernel_rfl) rfl (rfl)) (ltn rfl) ?_
  refine wd_takeT 17 rfl (by kernel_rfl) (by kernel_rfl) hS3n (fun _ => r_build (pl := #[(0, 3)]) (#[_, _, _]) Tryz.underlying97 Tryz.zeroValue97 (fun w => by kernel_rfl) rfl (rfl)) (ltn rfl) ?_
  refine wd_eff 18 rfl (by kernel_rfl) (e_boxL (l := [_, _, _]) H3 rfl rfl) (ltn rfl) ?_
  rintro _ w4 ⟨b4, rfl, H4⟩
  have hS4n := Holds.kp (H4.f4.f4.f4.f4)
  refine keepX hS4n (by kernel_rfl) ?_
  refine wd_takeT 19 rfl (by kernel_rfl) (by kernel_rfl) hS4n (fun _ => r_assign rfl) (ltn rfl) ?_
  refine wd_done (by kernel_rfl) ?_
  refine wq_seq ?_
  refine wc_ret ?_
  refine wq_end1 (.inl rfl) Tryz.results40 rfl ?_
  have Ho6 := H4.f4.f4
  have Hc7 := Holds.mk_hist hk_p Ho6
  exact ⟨_, rfl, Holds.mk_hist hk_p Hc7.f3.f3⟩
end
end Go.Proofs.YtgmpclifphbjkaaGreatDoor
end
section
/- The editor, plainly: what it is, what each method answers and leaves. -/
set_option linter.unusedSimpArgs false
set_option linter.unusedVariables false
namespace Go.Proofs.YtgmpclifphbjkaaGreatDoor
open Go.RowKit
def updF {β : Type} (f : Int → β) (a : Int) (v : β) : Int → β := fun x => if x = a then v else f x
theorem updF_same {β : Type} (f : Int → β) (a : Int) (v : β) : updF f a v a = v := if_pos rfl
theorem updF_not {β : Type} (f : Int → β) {a x : Int} (v : β) (h : x ≠ a) : updF f a v x = f x := if_neg h
theorem updF_id {β : Type} (f : Int → β) (a : Int) : updF f a (f a) = f := by funext x; unfold updF; split <;> simp_all
/-- What a command may change. -/
structure CoreS where
  L : List Int
  pt : Int
  mark : Int
  E : List (List Int)
  at_ : Nat
  place : Int
  tx : Int → Option ByteArray
  un : Int → List (List EdA)
  mode : Int
  over : Bool
  last : Int
  fr : Int
  to : Int
  res : Int
  run : Bool
structure EdS where
  c : CoreS
  hl : List HLn
  base : Int
  most : Int
  bells : Int
  given : Bool
  minus : Bool
  arg : Int
  inn : Bool
  was : CoreS
  cls : Int
  killed : Bool
  yanked : Bool
  argues : Bool
  whole : Bool
  put : List EdA
/-- The history's line at a place. -/
def hlAt (hl : List HLn) (k : Int) : HLn := if 0 ≤ k ∧ k < hl.length then hl.getD k.toNat default else (.empty, 0)
def firstOf (hl : List HLn) (k : Int) : ByteArray := (hlAt hl k).1
def standsOf (hl : List HLn) (tx : Int → Option ByteArray) (k : Int) : ByteArray := (tx k).getD (firstOf hl k)
def savedAt (hl : List HLn) (tx : Int → Option ByteArray) (place : Int) (k : Nat) : Bool := decide ((k : Int) ≠ place) && !((standsOf hl tx k).toList == (firstOf hl k).toList)
def savedTo (hl : List HLn) (tx : Int → Option ByteArray) (place : Int) (n : Nat) : List (Int × ByteArray) := ((List.range n).filter (savedAt hl tx place)).map fun (k : Nat) => ((k : Int), standsOf hl tx k)
def savedOf (hl : List HLn) (tx : Int → Option ByteArray) (place : Int) : List (Int × ByteArray) := savedTo hl tx place hl.length ++ (if place ≠ hl.length then [((hl.length : Int), standsOf hl tx hl.length)] else [])
def undoesOf (G : List (List EdA)) (inn : Bool) (put : List EdA) (typed run : Bool) : Int := (G.length : Int) + if inn && !put.isEmpty && !(typed && run) then 1 else 0
namespace EdS
variable (s : EdS)
def here : List (List EdA) := s.c.un s.c.place
def setUn (G : List (List EdA)) : EdS := { s with c := { s.c with un := updF s.c.un s.c.place G } }
/-- part -/
def partE : Int := if s.inn then 0 else 1
/-- Begin -/
def beginE : Int := if s.inn then 1 else 0
def beginS : EdS := if s.inn then s else { s with inn := true, was := s.c, cls := 0, killed := false, yanked := false, argues := false, whole := true, put := [] }
/-- flush -/
def flushG (on : Bool) : List (List EdA) := if s.put = [] then s.here else if on then (match s.here.getLast? with | some g => s.here.dropLast ++ [g ++ s.put] | none => [s.put]) else s.here ++ [s.put]
def flushS (on : Bool) : EdS := if s.put = [] then s else { s.setUn (s.flushG on) with put := [] }
/-- End -/
def noArg : EdS := { s with given := false, minus := false, arg := -1 }
def endE (err : Int) : Int := if s.inn then err else 1
def endBad : EdS := { s.noArg with inn := false, c := { s.was with last := 0, fr := 0, to := 0 }, bells := IntKind.i64.wrap (s.bells + 1), put := [] }
def typed : Bool := s.cls == 3 && s.whole
def endArg : EdS := { (if s.argues then s else s.noArg) with inn := false }
def endGood : EdS :=
  let t := s.endArg.flushS (s.typed && s.c.run)
  let c := { t.c with run := s.typed && (!s.put.isEmpty || s.c.run), last := s.cls }
  { t with c := if s.cls ≠ 2 then { c with fr := 0, to := 0 } else c }
def endS (err : Int) : EdS := if s.inn then (if err = 0 then s.endGood else s.endBad) else s
/-- Replace -/
def noteS (x : EdA) : EdS :=
  if x.2.1.length + x.2.2.length = 0 then s else
  if 16384 ≤ uTot s.here s.put then { s.setUn [] with put := [x], c := { (s.setUn []).c with run := false } } else { s with put := s.put ++ [x] }
def setBuf (L : List Int) (pt mk : Int) : EdS := { s with c := { s.c with L := L, pt := pt, mark := mk } }
def replEd (i j : Int) (l : List Int) : Int := if s.inn then replE s.c.L i j l else 1
def replS (i j : Int) (l : List Int) : EdS := if s.inn then (s.setBuf (replL s.c.L i j l) (replP s.c.L s.c.pt i j l) (replM s.c.L s.c.mark i j l)).noteS (replA s.c.L i j l, replD s.c.L i j l, replI s.c.L i j l) else s
/-- Insert -/
def insE (l : List Int) : Int := s.replEd s.c.pt s.c.pt l
def insS (l : List Int) : EdS := s.replS s.c.pt s.c.pt l
/-- Type -/
def typeTo (l : List Int) : Int := if s.c.over then min (s.c.pt + l.length) s.c.L.length else s.c.pt
def typeE (l : List Int) : Int := s.replEd s.c.pt (s.typeTo l) l
def typeS (l : List Int) : EdS := if s.inn then (let t := s.replS s.c.pt (s.typeTo l) l; if s.typeE l = 0 ∧ s.cls = 0 then { t with cls := 3 } else t) else s
/-- Copy -/
def way (back : Bool) : Int := if s.c.last = 1 ∨ s.killed = true then (if back then 2 else 1) else 0
def copyBad (i j : Int) : Prop := i < 0 ∨ s.c.L.length < i ∨ j < i ∨ s.c.L.length < j
instance (i j : Int) : Decidable (s.copyBad i j) := by unfold copyBad; infer_instance
def cut (i j : Int) : List Int := (s.c.L.drop i.toNat).take (j.toNat - i.toNat)
def killK (i j : Int) (back : Bool) : Int × List (List Int) × Nat := killM s.c.E s.c.at_ (s.way back) (s.cut i j)
def copyE (i j : Int) (back : Bool) : Int := if s.inn then (if s.copyBad i j then 70 else (s.killK i j back).1) else 1
def setRing (E : List (List Int)) (a : Nat) : EdS := { s with c := { s.c with E := E, at_ := a } }
def copyS (i j : Int) (back : Bool) : EdS := if s.copyE i j back = 0 then { s.setRing (s.killK i j back).2.1 (s.killK i j back).2.2 with killed := true, cls := 1 } else s
/-- Kill -/
def killE (i j : Int) (back : Bool) : Int := if s.copyE i j back = 0 then (s.copyS i j back).replEd i j [] else s.copyE i j back
def killS (i j : Int) (back : Bool) : EdS := if s.copyE i j back = 0 then (s.copyS i j back).replS i j [] else s
/-- Yank -/
def top : List Int := s.c.E.getD s.c.at_ []
def yankE : Int := if s.inn then (if s.c.E.length = 0 then 6 else s.insE s.top) else 1
def yankS : EdS :=
  if s.yankE = 0 then
    let t := s.insS s.top
    { t with yanked := true, cls := 2, c := { t.c with mark := smM t.c.L t.c.mark s.c.pt, fr := s.c.pt, to := s.c.pt + s.top.length } }
  else s
/-- Pop -/
def popL (n : Int) : List Int := s.c.E.getD (rotM s.c.E.length s.c.at_ n) []
def popE (n : Int) : Int := if s.inn then (if s.c.last ≠ 2 ∨ s.yanked = true then 6 else if s.c.E.length = 0 then 6 else s.replEd s.c.fr s.c.to (s.popL n)) else 1
def popS (n : Int) : EdS :=
  if s.popE n = 0 then
    let t := s.replS s.c.fr s.c.to (s.popL n)
    { t with yanked := true, cls := 2, c := { t.c with E := s.c.E, at_ := rotM s.c.E.length s.c.at_ n, fr := s.c.fr, to := s.c.fr + (s.popL n).length } }
  else s
/-- Kills -/
def kills : List (List Int) := s.c.E.drop s.c.at_ ++ s.c.E.take s.c.at_
/-- Move, SetMark, Swap -/
def moveE (x : Int) : Int := if s.inn then mvE s.c.L.length x else 1
def moveS (x : Int) : EdS := if s.inn then s.setBuf s.c.L (mvP s.c.L.length s.c.pt x) s.c.mark else s
def markE (x : Int) : Int := if s.inn then smE s.c.L x else 1
def markS (x : Int) : EdS := if s.inn then s.setBuf s.c.L s.c.pt (smM s.c.L s.c.mark x) else s
def swapE : Int := if s.inn then swE s.c.mark else 1
def swapS : EdS := if s.inn then s.setBuf s.c.L (swP s.c.pt s.c.mark) (swM s.c.pt s.c.mark) else s
/-- Undo, Revert -/
def app1 (b : List Int × Int × Int) (x : EdA) : List Int × Int × Int := (appL b.1 x.1 x.2.1 x.2.2, appP b.1 b.2.1 x.1 x.2.1 x.2.2, appM b.1 b.2.2 x.1 x.2.1 x.2.2)
def apps (b : List Int × Int × Int) (l : List EdA) : List Int × Int × Int := l.foldl app1 b
def appsS (l : List EdA) : EdS := let b := apps (s.c.L, s.c.pt, s.c.mark) l; s.setBuf b.1 b.2.1 b.2.2
def unWhole : EdS := { s with whole := false, c := { s.c with run := false } }
def undoS : EdS := if s.inn then (let t := s.flushS false; if t.here = [] then t else ((t.setUn t.here.dropLast).appsS ((t.here.getLastD []).reverse.map invA)).unWhole) else s
def undoE : Int := if s.inn then (if (s.flushS false).here = [] then 6 else 0) else 1
def revS : EdS := if s.inn then (let t := s.flushS false; if t.here = [] then t else ((t.setUn []).appsS (t.here.flatten.reverse.map invA)).unWhole) else s
/-- Digit, Negate, SetArg, Count, Given -/
def digitE (d : Int) : Int := if s.inn then (if d < 0 ∨ 9 < d then 1 else 0) else 1
def digitS (d : Int) : EdS := if s.digitE d = 0 then { s with given := true, argues := true, arg := min (max s.arg 0 * 10 + d) 1000000 } else s
def negS : EdS := if s.inn then { s with given := true, argues := true, minus := !s.minus } else s
def argE (n : Int) : Int := if s.inn then (if 1000000 < n ∨ n < -1000000 then 1 else 0) else 1
def argS (n : Int) : EdS := if s.argE n = 0 then { s with given := true, argues := true, minus := decide (n < 0), arg := max n (-n) } else s
def count : Int := if s.given then (let n := if s.arg < 0 then 1 else s.arg; if s.minus then -n else n) else 1
/-- SetMode, SetOver, Finish -/
def modeE (m : Int) : Int := if s.inn then (if m < 0 ∨ 2 < m then 1 else 0) else 1
def modeS (m : Int) : EdS := if s.modeE m = 0 then { s with c := { s.c with mode := m } } else s
def overS (b : Bool) : EdS := if s.inn then { s with c := { s.c with over := b } } else s
def finE (r : Int) : Int := if s.inn then (if r < 1 ∨ 3 < r then 1 else 0) else 1
def finS (r : Int) : EdS := if s.finE r = 0 then { s with c := { s.c with res := r } } else s
/-- What stands at a place. -/
def first (k : Int) : ByteArray := firstOf s.hl k
def stands (k : Int) : ByteArray := (s.c.tx k).getD (s.first k)
def undoes : Int := undoesOf s.here s.inn s.put s.typed s.c.run
/-- The lines that stand elsewhere, and are not as the history has them. -/
def saved : List (Int × ByteArray) := savedOf s.hl s.c.tx s.c.place
def lastS : Int := if s.inn then s.was.last else s.c.last
def frS : Int := if s.inn then s.was.fr else s.c.fr
def toS : Int := if s.inn then s.was.to else s.c.to
end EdS
/-- A line begins. -/
def CoreS.fresh (l : List Int) (E : List (List Int)) (a : Nat) (place mode : Int) : CoreS := ⟨l, l.length, -1, E, a, place, fun _ => none, fun _ => [], mode, false, 0, 0, 0, 0, false⟩
def EdS.start (s : EdS) (hl : List HLn) (base most : Int) (l : List Int) : EdS := { s with c := CoreS.fresh l s.c.E s.c.at_ hl.length s.c.mode, hl := hl, base := base, most := most, given := false, minus := false, arg := -1 }
def EdS.new (hl : List HLn) (base most : Int) : EdS :=
  let c := CoreS.fresh [] [] 0 hl.length 0
  { c := c, hl := hl, base := base, most := most, bells := 0, given := false, minus := false, arg := -1, inn := false, was := c, cls := 0, killed := false, yanked := false, argues := false, whole := false, put := [] }
end Go.Proofs.YtgmpclifphbjkaaGreatDoor
end
