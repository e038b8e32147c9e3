import Derived.Test.YtgmpclifphbjkaaGreatDoorZ25
import Derived.Test.YtgmpclifphbjkaaGreatDoorZ22
import Derived.Test.YtgmpclifphbjkaaGreatDoorZ2
import Derived.Test.YtgmpclifphbjkaaGreatDoorZ23
import Derived.Test.YtgmpclifphbjkaaGreatDoorCards
import Derived.Test.YtgmpclifphbjkaaGreatDoorZ3
import Derived.SevenTiedAt
/- Texts of mine, joined: ELive FieldVal LawEUndoes HasEUndoes. -/
section
/- Editors: live. -/
set_option linter.unusedSimpArgs false
set_option linter.unusedVariables false
namespace Go.Proofs.YtgmpclifphbjkaaGreatDoor
open Go.RowKit
/-- What the first living case comes to. -/
def liveS : EdS := ((EdS.new [] 1 10).beginS.typeS [97]).endS 0
theorem live_L : liveS.c.L = [97] := by rfl
theorem live_text : (utf8 liveS.c.L).toList = (ByteArray.mk #[97]).toList := by rw [live_L]; exact congrArg ByteArray.toList (by rfl)
theorem live_undoes : liveS.undoes = 1 := by rfl
theorem live_arg : liveS.arg = -1 := by rfl
theorem live_last : liveS.lastS = 3 := by rfl
section
variable {w0 w : World} {F : HP}
theorem live_ret (H : Holds w0 w F) : Ret Tryz.prog 9 #[] w fun v w' => v = .bool true ∧ Holds w0 w' F := by
  refine ret_enter Tryz.func9 rfl Tryz.ntmps9 (Nat.le_of_ble_eq_true rfl) ?_
  dsimp only [slots0, Nat.reduceAdd]
  refine wc_seq ?_
  refine wc_region ?_
  refine wl_val (r_assign rfl) (ltn rfl) ?_
  refine wl_nil ?_
  refine wq_seq ?_
  refine wc_seq ?_
  refine wc_region ?_
  refine wl_eff (e_call (r_call rfl Tryz.func7 rfl rfl) (hist_new_ret H (by omega))) (ltn rfl) ?_
  rintro _ w1 ⟨p1, rfl, H1⟩
  refine wl_val (r_move rfl) (ltn rfl) ?_
  refine wl_val (r_extract rfl rfl) (ltn rfl) ?_
  refine wl_val (r_extract rfl rfl) (ltn rfl) ?_
  refine wl_val (r_assign rfl) (ltn rfl) ?_
  refine wl_val (r_assign rfl) (ltn rfl) ?_
  refine wl_nil ?_
  refine wq_seq ?_
  refine wc_seq ?_
  refine wc_region ?_
  refine wl_val (r_move rfl) (ltn rfl) ?_
  refine wl_eff (e_call (r_call rfl Tryz.func8 rfl rfl) (ed_new_ret H1)) (ltn rfl) ?_
  rintro _ w2 ⟨e2, rfl, H2⟩
  refine wl_val (r_move rfl) (ltn rfl) ?_
  refine wl_val (r_extract rfl rfl) (ltn rfl) ?_
  refine wl_val (r_extract rfl rfl) (ltn rfl) ?_
  refine wl_val (r_assign rfl) (ltn rfl) ?_
  refine wl_val (r_assign rfl) (ltn rfl) ?_
  refine wl_nil ?_
  refine wq_seq ?_
  refine wc_seq ?_
  refine wc_seq ?_
  refine wc_region ?_
  refine wl_val (r_move rfl) (ltn rfl) ?_
  refine wl_val (r_neq rfl rfl) (ltn rfl) ?_
  refine wl_split rfl (ltn rfl) (fun h => by exfalso; (try simp only [cmpS] at h); simp at h) (fun h1 => ?_)
  (try simp only [cmpS] at h1)
  refine wl_yes rfl rfl ?_
  refine wl_val (r_move rfl) (ltn rfl) ?_
  refine wl_yes rfl rfl ?_
  refine wl_val (r_neq rfl rfl) (ltn rfl) ?_
  refine wl_val (r_pick_f rfl rfl) (ltn rfl) ?_
  refine wl_split rfl (ltn rfl) (fun h => by exfalso; (try simp only [cmpS] at h); simp at h) (fun h2 => ?_)
  (try simp only [cmpS] at h2)
  refine wl_yes rfl rfl ?_
  refine wl_val (r_move rfl) (ltn rfl) ?_
  refine wl_yes rfl rfl ?_
  refine wl_val (r_ptr_nil Tryz.underlying28 rfl rfl) (ltn rfl) ?_
  refine wl_val (r_pick_f rfl rfl) (ltn rfl) ?_
  refine wl_nil ?_
  refine wq_seq ?_
  refine wc_cond rfl (fun h => by exfalso; (try simp only [cmpS] at h); simp at h) (fun h3 => ?_)
  (try simp only [cmpS] at h3)
  refine wc_skip ?_
  refine wq_seq ?_
  refine wc_seq ?_
  refine wc_region ?_
  refine wl_val (r_move rfl) (ltn rfl) ?_
  refine wl_eff (e_call (r_call rfl Tryz.func11 rfl rfl) (ed_begin_ret H2)) (ltn rfl) ?_
  rintro _ w3 ⟨rfl, H3⟩
  refine wl_nil ?_
  refine wq_seq ?_
  refine wc_seq ?_
  refine wc_region ?_
  refine wl_val (r_move rfl) (ltn rfl) ?_
  refine wl_eff (e_lit_ints (k := .i32) (l := [97]) H3 Tryz.underlying22 Tryz.sizeOf21 Tryz.zeroValue21 rfl rfl rfl (by decide)) (ltn rfl) ?_
  rintro l4 w4 H4
  refine wl_eff (e_call (r_call rfl Tryz.func21 rfl rfl) (ed_type_ret H4.f2 (fun W HW => (HW).row_rd) (by simp))) (ltn rfl) ?_
  rintro _ w5 ⟨rfl, H5⟩
  refine wl_nil ?_
  refine wq_seq ?_
  refine wc_seq ?_
  refine wc_region ?_
  refine wl_val (r_move rfl) (ltn rfl) ?_
  refine wl_eff (e_call (r_call rfl Tryz.func13 rfl rfl) (ed_end_ret H5)) (ltn rfl) ?_
  rintro _ w6 ⟨rfl, H6⟩
  refine wl_nil ?_
  refine wq_seq ?_
  refine wc_seq ?_
  refine wc_region ?_
  refine wl_val (r_move rfl) (ltn rfl) ?_
  refine wl_eff (e_call (r_call rfl Tryz.func14 rfl rfl) (ed_state_ret H6)) (ltn rfl) ?_
  rintro _ w7 ⟨u7, ks7, us7, sv7, rfl, H7⟩
  refine wl_eff (e_allocL (l := [_, _, _, _, _, _, _, _, _, _, _, _, _, _, _, _, _]) H7 Tryz.zeroValue46 rfl) (ltn rfl) ?_
  rintro _ w8 ⟨b8, rfl, H8⟩
  refine wl_eff0 (e_storePL 0 (l' := [_, _, _, _, _, _, _, _, _, _, _, _, _, _, _, _, _]) (us := [_, _, _, _, _, _, _, _, _, _, _, _, _, _, _, _, _]) H8 Tryz.sizeOf46 rfl rfl rfl (ones_cons (by first | rfl | exact Rd.one ((H8.f2).row_rd)) (ones_cons (by first | rfl | assumption) (ones_cons (by first | rfl | assumption) (ones_cons (by first | rfl | assumption) (ones_cons (by first | rfl | assumption) (ones_cons (by first | rfl | assumption) (ones_cons (by first | rfl | assumption) (ones_cons (by first | rfl | assumption) (ones_cons (by first | rfl | assumption) (ones_cons (by first | rfl | assumption) (ones_cons (by first | rfl | assumption) (ones_cons (by first | rfl | exact Rd.one ((H8.f3).row_rd)) (ones_cons (by first | rfl | assumption) (ones_cons (by first | rfl | exact Rd.one ((H8.f5).row_rd)) (ones_cons (by first | rfl | assumption) (ones_cons (by first | rfl | assumption) (ones_cons (by first | rfl | assumption) ones_nil))))))))))))))))) rfl rfl) ?_
  rintro _ w9 H9
  refine wl_nil ?_
  refine wq_seq ?_
  refine wc_seq ?_
  refine wc_region ?_
  refine wl_val (r_fieldA 0 Tryz.underlying46 rfl rfl Tryz.sizeOf42 (by decide) rfl (by first | exact Nat.zero_add _ | rfl)) (ltn rfl) ?_
  refine wl_val (r_fieldA 0 Tryz.underlying42 rfl rfl Tryz.sizeOf22 (by decide) rfl (by first | exact Nat.zero_add _ | rfl)) (ltn rfl) ?_
  refine wl_val (r_load (plain_of Tryz.underlying22 rfl) rfl (cell_of_blk (H9).get.2 rfl)) (ltn rfl) ?_
  refine wl_val (r_runes_str Tryz.underlying22 Tryz.underlying9 Tryz.underlying21 rfl ((H9.f2).row_rd)) (ltn rfl) ?_
  refine wl_val (r_str_eql rfl rfl) (ltn rfl) ?_
  refine wl_split rfl (ltn rfl) (fun h4 => ?_) (fun h => by exfalso; (try simp only [cmpS] at h); exact h live_text)
  (try simp only [cmpS] at h4)
  refine wl_yes rfl rfl ?_
  refine wl_val (r_fieldA 14 Tryz.underlying46 rfl rfl Tryz.sizeOf3 (by decide) rfl (by first | exact Nat.zero_add _ | rfl)) (ltn rfl) ?_
  refine wl_yes rfl rfl ?_
  refine wl_val (r_load (plain_of Tryz.underlying3 rfl) rfl (cell_of_blk (H9).get.2 rfl)) (ltn rfl) ?_
  refine wl_yes rfl rfl ?_
  refine wl_val (r_eql rfl rfl) (ltn rfl) ?_
  refine wl_val (r_pick_t rfl rfl) (ltn rfl) ?_
  refine wl_split rfl (ltn rfl) (fun h5 => ?_) (fun h => by exfalso; (try simp only [cmpS] at h); exact h live_undoes)
  (try simp only [cmpS] at h5)
  refine wl_yes rfl rfl ?_
  refine wl_val (r_fieldA 7 Tryz.underlying46 rfl rfl Tryz.sizeOf3 (by decide) rfl (by first | exact Nat.zero_add _ | rfl)) (ltn rfl) ?_
  refine wl_yes rfl rfl ?_
  refine wl_val (r_load (plain_of Tryz.underlying3 rfl) rfl (cell_of_blk (H9).get.2 rfl)) (ltn rfl) ?_
  refine wl_yes rfl rfl ?_
  refine wl_val (r_eql rfl rfl) (ltn rfl) ?_
  refine wl_val (r_pick_t rfl rfl) (ltn rfl) ?_
  refine wl_split rfl (ltn rfl) (fun h6 => ?_) (fun h => by exfalso; (try simp only [cmpS] at h); exact h live_arg)
  (try simp only [cmpS] at h6)
  refine wl_yes rfl rfl ?_
  refine wl_val (r_fieldA 8 Tryz.underlying46 rfl rfl Tryz.sizeOf3 (by decide) rfl (by first | exact Nat.zero_add _ | rfl)) (ltn rfl) ?_
  refine wl_yes rfl rfl ?_
  refine wl_val (r_load (plain_of Tryz.underlying3 rfl) rfl (cell_of_blk (H9).get.2 rfl)) (ltn rfl) ?_
  refine wl_yes rfl rfl ?_
  refine wl_val (r_known_t (r_eql rfl rfl) (by exact decide_eq_true live_last)) (ltn rfl) ?_
  refine wl_val (r_pick_t rfl rfl) (ltn rfl) ?_
  refine wl_val (r_assign rfl) (ltn rfl) ?_
  refine wl_nil ?_
  refine wq_seq ?_
  refine wc_ret ?_
  refine wq_end1 (.inl rfl) Tryz.results9 rfl ?_
  exact ⟨rfl, H9.right.right.right.right.right.right.right.right⟩
end
end Go.Proofs.YtgmpclifphbjkaaGreatDoor
end
section
/- A field of a struct in hand. -/
set_option linter.unusedSimpArgs false
set_option linter.unusedVariables false
namespace Go.Proofs.YtgmpclifphbjkaaGreatDoor
open Go.RowKit
theorem r_field_val {P : Program} {L : List (Nat × Value)} {w : World} {ty t : TypeId} {fs : Array Field} {f : Field} {i : Nat} {x : Operand} {cs : Array Value} {u : Value} (off : Nat) (ht : P.underlying t = some (.struct fs)) (hf : fs[i]? = some f) (ho : f.offset = off) (hp : plainTy P f.type = true) (hx : ev L x = some (.agg cs)) (hc : cs[off]? = some u) :
    Val P L (.field t x i) ty w u w := fun ρ hρ _ _ _ _ => by
  simp [execOp, hρ _ _ hx, Instr.field, run_underlying ht, hf, part, asAgg, run_isAgg_no hp, ho, hc]
end Go.Proofs.YtgmpclifphbjkaaGreatDoor
end
section
/- EditorUndoes, walked. -/
set_option linter.unusedSimpArgs false
set_option linter.unusedVariables false
namespace Go.Proofs.YtgmpclifphbjkaaGreatDoor
open Go.RowKit
/-- A command as it stands in memory. -/
structure BCmd where
  v : Value
  parts : List BPart
  err : Int
instance : Inhabited BCmd := ⟨⟨.slice none 0 0, [], 0⟩⟩
def BCmd.enc (c : BCmd) : List Value := [c.v, .int .i64 c.err]
theorem BCmd.enc_len (c : BCmd) : c.enc.length = 2 := rfl
def BCmd.m (c : BCmd) : CmdM := ⟨c.parts.map BPart.m, c.err⟩
def BCmd.Reads (W : World) (c : BCmd) : Prop := Rd W 5 c.v c.parts.length (c.parts.flatMap BPart.enc) ∧ (∀ k, k < c.parts.length → (c.parts.getD k default).Reads W) ∧ c.parts.length ≤ 134217728
theorem foldl_take_succ {α β : Type} (f : β → α → β) (s : β) (l : List α) (d : α) {k : Nat} (h : k < l.length) : (l.take (k + 1)).foldl f s = f ((l.take k).foldl f s) (l.getD k d) := by
  rw [List.take_succ_eq_append_getElem h, List.foldl_append, List.getD_eq_getElem?_getD, List.getElem?_eq_getElem h]; rfl
def EdS.partB (s : EdS) (p : BPart) : EdS := s.partU p.m
def EdS.cmdB (s : EdS) (c : BCmd) : EdS := (c.parts.foldl EdS.partB s.beginS).endS c.err
theorem cmdB_eq (s : EdS) (c : BCmd) : s.cmdB c = s.cmdU c.m := by
  unfold EdS.cmdB EdS.cmdU BCmd.m
  rw [List.foldl_map]; rfl
theorem cmdsB_eq (cs : List BCmd) (s : EdS) : cs.foldl EdS.cmdB s = (cs.map BCmd.m).foldl EdS.cmdU s := by
  rw [List.foldl_map]
  congr 1; funext s c; exact cmdB_eq s c
def sumB (cs : List BCmd) (k : Nat) : Nat := ((cs.take k).map fun c => c.parts.length).sum
theorem sumB_succ (cs : List BCmd) {k : Nat} (h : k < cs.length) : sumB cs (k + 1) = sumB cs k + (cs.getD k default).parts.length := by
  unfold sumB
  rw [List.take_succ_eq_append_getElem h, List.map_append, List.sum_append, List.getD_eq_getElem?_getD, List.getElem?_eq_getElem h]; simp
theorem sumB_le {cs : List BCmd} {w : World} (hr : ∀ k, k < cs.length → (cs.getD k default).Reads w) : ∀ k, k ≤ cs.length → sumB cs k ≤ k * 134217728
  | 0, _ => by simp [sumB]
  | k + 1, hk => by
    have h1 := sumB_le hr k (by omega)
    have h2 := (hr k (by omega)).2.2
    rw [sumB_succ cs (by omega)]; omega
theorem sumB_all (cs : List BCmd) : sumB cs cs.length = sumP (cs.map BCmd.m) := by
  unfold sumB sumP BCmd.m
  rw [List.take_length, List.map_map]
  congr 1
  exact List.map_congr_left fun c _ => by simp
theorem startE_new5 {l : List Int} : (EdS.new [] 1 5).startE l = if 1024 < l.length then 3 else 0 := rfl
theorem editor_undoes {w : World} {v u : Value} {A : List Int} {cs : List BCmd} (g1 : RdI w .i32 v A) (g2 : Rd w 2 u cs.length (cs.flatMap BCmd.enc)) (g3 : ∀ k, k < cs.length → (cs.getD k default).Reads w) (b1 : A.length ≤ 35184372087808) (b2 : cs.length ≤ 134217728) :
    Ret Tryz.prog 3 #[v, u] w fun v w' => v = .bool true ∧ Below w.heap.size w w' := by
  obtain ⟨F, H⟩ : ∃ F, Holds w w F := ⟨_, Holds.start w⟩
  have hv : FRdI w F .i32 v A := FRdI.of_start g1 F
  have hu : FRd w F 2 u cs.length (cs.flatMap BCmd.enc) := FRd.of_start g2 F
  obtain ⟨S0, hS0⟩ : ∃ S0, S0 = (EdS.new [] 1 5).startS [] 1 5 A := ⟨_, rfl⟩
  refine ret_enter Tryz.func3 rfl Tryz.ntmps3 (Nat.le_of_ble_eq_true rfl) ?_
  dsimp only [slots0, Nat.reduceAdd]
  refine wc_seq ?_
  refine wc_region ?_
  refine wl_val (r_assign rfl) (ltn rfl) ?_
  refine wl_nil ?_
  refine wq_seq ?_
  refine wc_seq ?_
  refine wc_region ?_
  refine wl_eff (e_call (r_call rfl Tryz.func7 rfl rfl) (hist_new_ret H (by omega))) (ltn rfl) ?_
  rintro _ w1 ⟨p1, rfl, H1⟩
  refine wl_val (r_move rfl) (ltn rfl) ?_
  refine wl_val (r_extract rfl rfl) (ltn rfl) ?_
  refine wl_val (r_extract rfl rfl) (ltn rfl) ?_
  refine wl_val (r_assign rfl) (ltn rfl) ?_
  refine wl_val (r_assign rfl) (ltn rfl) ?_
  refine wl_nil ?_
  refine wq_seq ?_
  refine wc_seq ?_
  refine wc_region ?_
  refine wl_val (r_move rfl) (ltn rfl) ?_
  refine wl_eff (e_call (r_call rfl Tryz.func8 rfl rfl) (ed_new_ret H1)) (ltn rfl) ?_
  rintro _ w2 ⟨e2, rfl, H2⟩
  refine wl_val (r_move rfl) (ltn rfl) ?_
  refine wl_val (r_extract rfl rfl) (ltn rfl) ?_
  refine wl_val (r_extract rfl rfl) (ltn rfl) ?_
  refine wl_val (r_assign rfl) (ltn rfl) ?_
  refine wl_val (r_assign rfl) (ltn rfl) ?_
  refine wl_nil ?_
  refine wq_seq ?_
  refine wc_seq ?_
  refine wc_seq ?_
  refine wc_region ?_
  refine wl_val (r_move rfl) (ltn rfl) ?_
  refine wl_val (r_neq rfl rfl) (ltn rfl) ?_
  refine wl_split rfl (ltn rfl) (fun h => by exfalso; (try simp only [cmpS] at h); simp at h) (fun h1 => ?_)
  (try simp only [cmpS] at h1)
  refine wl_yes rfl rfl ?_
  refine wl_val (r_move rfl) (ltn rfl) ?_
  refine wl_yes rfl rfl ?_
  refine wl_val (r_neq rfl rfl) (ltn rfl) ?_
  refine wl_val (r_pick_f rfl rfl) (ltn rfl) ?_
  refine wl_split rfl (ltn rfl) (fun h => by exfalso; (try simp only [cmpS] at h); simp at h) (fun h2 => ?_)
  (try simp only [cmpS] at h2)
  refine wl_yes rfl rfl ?_
  refine wl_eff (e_call (r_call rfl Tryz.func9 rfl rfl) (live_ret H2)) (ltn rfl) ?_
  rintro _ w3 ⟨rfl, H3⟩
  refine wl_yes rfl rfl ?_
  refine wl_val (r_not rfl) (ltn rfl) ?_
  refine wl_val (r_pick_f rfl rfl) (ltn rfl) ?_
  refine wl_nil ?_
  refine wq_seq ?_
  refine wc_cond rfl (fun h => by exfalso; (try simp only [cmpS] at h); simp at h) (fun h3 => ?_)
  (try simp only [cmpS] at h3)
  refine wc_skip ?_
  refine wq_seq ?_
  refine wc_seq ?_
  refine wc_seq ?_
  refine wc_region ?_
  refine wl_val (r_move rfl) (ltn rfl) ?_
  refine wl_val (r_move rfl) (ltn rfl) ?_
  refine wl_val (r_move rfl) (ltn rfl) ?_
  refine wl_eff (e_call (r_call rfl Tryz.func10 rfl rfl) (ed_start_ret H3.f2.f2 (fun W HW => hv _ (HW)))) (ltn rfl) ?_
  rintro _ w4 ⟨rfl, H4⟩
  refine wl_val (r_neq rfl rfl) (ltn rfl) ?_
  refine wl_nil ?_
  refine wq_seq ?_
  refine wc_cond rfl (fun h4 => ?_) (fun h4 => ?_)
  · (try simp only [cmpS] at h4)
    have hbig : 1024 < A.length := by have h9 := h4; rw [startE_new5] at h9; exact Decidable.byContradiction fun c => by rw [if_neg c] at h9; exact h9 rfl
    refine wc_seq ?_
    refine wc_region ?_
    refine wl_val (r_move rfl) (ltn rfl) ?_
    refine wl_val (r_lenR (hv _ (H4.right.right)) Tryz.underlying22 rfl) (ltn rfl) ?_
    refine wl_val (r_gtr rfl rfl) (ltn rfl) ?_
    refine wl_val (r_assign rfl) (ltn rfl) ?_
    refine wl_nil ?_
    refine wq_seq ?_
    refine wc_ret ?_
    refine wq_then_ret ?_
    refine wq_end1 (.inl rfl) Tryz.results3 rfl ?_
    exact ⟨by simp; omega, H4.base⟩
  · (try simp only [cmpS] at h4)
    have hsh : A.length ≤ 1024 := by have h9 := h4; rw [startE_new5] at h9; exact Decidable.byContradiction fun c => by rw [if_pos (by omega)] at h9; simp at h9
    refine wc_skip ?_
    refine wq_seq ?_
    refine wc_seq ?_
    refine wc_seq ?_
    refine wc_region ?_
    refine wl_val (r_move rfl) (ltn rfl) ?_
    refine wl_val (r_lenS (hu _ (H4.right.right)) Tryz.underlying23 rfl) (ltn rfl) ?_
    refine wl_val (r_move rfl) (ltn rfl) ?_
    refine wl_nil ?_
    refine wq_seq ?_
    refine wc_block ?_
    refine wc_loop [(0, _), (1, _), (7, _), (44, _), (45, _)] (fun (k : Nat) => [(46, .int .i64 (k : Int))]) (fun (k : Nat) W => k ≤ cs.length ∧ Holds w W (EdRep e2 ((cs.take k).foldl EdS.cmdB S0) • F)) (fun (k : Nat) => cs.length - k) (0) (Sub.cons rfl (Sub.cons rfl (Sub.cons rfl (Sub.cons rfl (Sub.cons rfl (Sub.nil _)))))) (Sub.cons rfl (Sub.nil _)) ⟨by omega, by rw [hS0]; exact H4.f2.right⟩ ?_
    rintro k w5 ⟨hk, HL⟩
    dsimp only [List.cons_append, List.nil_append]
    refine wc_seq ?_
    refine wc_region ?_
    refine wl_val (r_lss rfl rfl) (ltn rfl) ?_
    refine wl_nil ?_
    refine wq_seq ?_
    refine wc_seq ?_
    refine wc_cond rfl (fun h5 => ?_) (fun h5 => ?_)
    · (try simp only [cmpS] at h5)
      
      refine wc_skip ?_
      refine wq_seq ?_
      refine wc_seq ?_
      refine wc_block ?_
      refine wc_seq ?_
      have hkl : k < cs.length := by omega
      obtain ⟨r1, r2, r3⟩ := g3 k hkl
      have f1 := FRd.of_start r1 F
      refine wc_region ?_
      obtain ⟨bu, ou, cu, eu⟩ := Rd.posV (hu _ (HL.right)) (by omega)
      cases eu
      refine wl_val (r_index Tryz.underlying23 Tryz.sizeOf35 rfl rfl (by omega)) (ltn rfl) ?_
      refine wl_val (r_load_elem (ys := [_, _]) (hu _ (HL.right)) (by omega) Tryz.underlying35 rfl Tryz.sizeOf35 rfl (flat_elem BCmd.enc_len (by omega) default) rfl) (ltn rfl) ?_
      refine wl_eff (e_allocL (l := [_, _]) HL Tryz.zeroValue35 rfl) (ltn rfl) ?_
      rintro _ w6 ⟨b6, rfl, H6⟩
      refine wl_eff0 (e_storePL 0 (l' := [_, _]) (us := [_, _]) H6 Tryz.sizeOf35 rfl rfl rfl (ones_cons (by first | rfl | exact Rd.one (f1 _ (H6.right.right))) (ones_cons (by first | rfl | assumption) ones_nil)) rfl rfl) ?_
      rintro _ w7 H7
      obtain ⟨c, hc⟩ : ∃ c, cs.getD k default = c := ⟨_, rfl⟩
      have HX := H7
      rw [hc] at r1 r2 r3 f1 HX
      try rw [hc]
      obtain ⟨pv, ps, er⟩ := c
      dsimp only at r1 r2 r3 f1
      refine wl_nil ?_
      refine wq_seq ?_
      refine wc_seq ?_
      refine wc_region ?_
      refine wl_val (r_move rfl) (ltn rfl) ?_
      refine wl_eff (e_call (r_call rfl Tryz.func11 rfl rfl) (ed_begin_ret HX.f2)) (ltn rfl) ?_
      rintro _ w8 ⟨rfl, H8⟩
      refine wl_nil ?_
      refine wq_seq ?_
      refine wc_seq ?_
      refine wc_seq ?_
      refine wc_region ?_
      refine wl_val (r_fieldA 0 Tryz.underlying35 rfl rfl Tryz.sizeOf33 (by decide) rfl (by first | exact Nat.zero_add _ | rfl)) (ltn rfl) ?_
      refine wl_val (r_load (plain_of Tryz.underlying33 rfl) rfl (cell_of_blk (H8.f2).get.2 rfl)) (ltn rfl) ?_
      refine wl_val (r_lenS (f1 _ (H8.right.right)) Tryz.underlying33 rfl) (ltn rfl) ?_
      refine wl_val (r_move rfl) (ltn rfl) ?_
      refine wl_nil ?_
      refine wq_seq ?_
      refine wc_block ?_
      refine wc_loop [(0, _), (1, _), (7, _), (10, _), (44, _), (45, _), (46, _), (53, _), (54, _)] (fun (j : Nat) => [(55, .int .i64 (j : Int))]) (fun (j : Nat) W => j ≤ ps.length ∧ Holds w W (EdRep e2 ((ps.take j).foldl EdS.partB ((cs.take k).foldl EdS.cmdB S0).beginS) • blk b6 (.cells #[pv, .int .i64 er] 35 (0, 0)) • F)) (fun (j : Nat) => ps.length - j) (0) (Sub.cons rfl (Sub.cons rfl (Sub.cons rfl (Sub.cons rfl (Sub.cons rfl (Sub.cons rfl (Sub.cons rfl (Sub.cons rfl (Sub.cons rfl (Sub.nil _)))))))))) (Sub.cons rfl (Sub.nil _)) ⟨by omega, H8.f2.f2⟩ ?_
      rintro j w9 ⟨hj, HJ⟩
      dsimp only [List.cons_append, List.nil_append]
      refine wc_seq ?_
      refine wc_region ?_
      refine wl_val (r_lss rfl rfl) (ltn rfl) ?_
      refine wl_nil ?_
      refine wq_seq ?_
      refine wc_seq ?_
      refine wc_cond rfl (fun h6 => ?_) (fun h6 => ?_)
      · (try simp only [cmpS] at h6)
        
        refine wc_skip ?_
        refine wq_seq ?_
        refine wc_seq ?_
        refine wc_block ?_
        refine wc_seq ?_
        have hjl : j < ps.length := by omega
        obtain ⟨q1, q2⟩ := r2 j hjl
        have f2 := FRdI.of_start q1 F
        refine wc_region ?_
        obtain ⟨bpv, opv, cpv, epv⟩ := Rd.posV (f1 _ (HJ.right.right)) (by omega)
        cases epv
        refine wl_val (r_index Tryz.underlying33 Tryz.sizeOf38 rfl rfl (by omega)) (ltn rfl) ?_
        refine wl_val (r_load_elem (ys := [_, _, _, _, _]) (f1 _ (HJ.right.right)) (by omega) Tryz.underlying38 rfl Tryz.sizeOf38 rfl (flat_elem BPart.enc_len (by omega) default) rfl) (ltn rfl) ?_
        refine wl_eff (e_allocL (l := [_, _, _, _, _]) HJ Tryz.zeroValue38 rfl) (ltn rfl) ?_
        rintro _ w10 ⟨b10, rfl, H10⟩
        refine wl_eff0 (e_storePL 0 (l' := [_, _, _, _, _]) (us := [_, _, _, _, _]) H10 Tryz.sizeOf38 rfl rfl rfl (ones_cons (by first | rfl | assumption) (ones_cons (by first | rfl | assumption) (ones_cons (by first | rfl | assumption) (ones_cons (by first | rfl | assumption) (ones_cons (by first | rfl | exact Rd.one (f2 _ (H10.right.right.right))) ones_nil))))) rfl rfl) ?_
        rintro _ w11 H11
        refine wl_nil ?_
        refine wq_seq ?_
        refine wc_seq ?_
        refine wc_region ?_
        refine wl_val (r_fieldA 0 Tryz.underlying38 rfl rfl Tryz.sizeOf3 (by decide) rfl (by first | exact Nat.zero_add _ | rfl)) (ltn rfl) ?_
        refine wl_val (r_load (plain_of Tryz.underlying3 rfl) rfl (cell_of_blk (H11).get.2 rfl)) (ltn rfl) ?_
        refine wl_val (r_neq rfl rfl) (ltn rfl) ?_
        refine wl_split rfl (ltn rfl) (fun h7 => ?_) (fun h7 => ?_)
        · (try simp only [cmpS] at h7)
          have hk13 : (ps.getD j default).kd ≠ 13 := h7
          refine wl_yes rfl rfl ?_
          refine wl_val (r_fieldA 0 Tryz.underlying38 rfl rfl Tryz.sizeOf3 (by decide) rfl (by first | exact Nat.zero_add _ | rfl)) (ltn rfl) ?_
          refine wl_yes rfl rfl ?_
          refine wl_val (r_load (plain_of Tryz.underlying3 rfl) rfl (cell_of_blk (H11).get.2 rfl)) (ltn rfl) ?_
          refine wl_yes rfl rfl ?_
          refine wl_val (r_lss rfl rfl) (ltn rfl) ?_
          refine wl_val (r_pick_t rfl rfl) (ltn rfl) ?_
          refine wl_nil ?_
          refine wq_seq ?_
          refine wc_cond rfl (fun h8 => ?_) (fun h8 => ?_)
          · (try simp only [cmpS] at h8)
            have hk20 : (ps.getD j default).kd < 20 := h8
            refine wc_region ?_
            refine wl_val (r_move rfl) (ltn rfl) ?_
            refine wl_val (r_load_whole Tryz.underlying38 rfl Tryz.sizeOf38 rfl rfl (H11).get.2) (ltn rfl) ?_
            refine wl_eff (e_call (r_call rfl Tryz.func12 rfl rfl) (ed_edit_ret (p := (ps.getD j default).m) H11.right.f2.f2 (fun W HW => f2 W HW.right) q2 hk13)) (ltn rfl) ?_
            rintro _ w12 H12
            refine wl_nil ?_
            refine wq_block_normal ?_
            refine wq_seq ?_
            refine wc_region ?_
            refine wl_val (r_add rfl rfl (by omega)) (ltn rfl) ?_
            refine wl_val (r_move rfl) (ltn rfl) ?_
            refine wl_nil ?_
            refine wq_round (j + 1) ?_ ?_ ?_ ?_
            · exact (Sub.cons rfl (Sub.nil _))
            · exact (Sub.cons rfl (Sub.cons rfl (Sub.cons rfl (Sub.cons rfl (Sub.cons rfl (Sub.cons rfl (Sub.cons rfl (Sub.cons rfl (Sub.cons rfl (Sub.nil _))))))))))
            · (try dsimp only)
              first | done | exact ⟨by omega, by
                      rw [foldl_take_succ _ _ _ default hjl]
                      first
                        | (rw [show EdS.partB _ (ps.getD j default) = EdS.edit _ (ps.getD j default).m from if_pos (show (ps.getD j default).kd ≠ 13 ∧ (ps.getD j default).kd < 20 from ⟨by omega, by omega⟩)]; exact H12.f2.f2)
                        | (rw [show EdS.partB _ (ps.getD j default) = _ from if_neg (show ¬ ((ps.getD j default).kd ≠ 13 ∧ (ps.getD j default).kd < 20) from by omega)]; exact H12.f2.f2)⟩
            · (try dsimp only); omega
          · (try simp only [cmpS] at h8)
            have hk20 : ¬ (ps.getD j default).kd < 20 := by have h9 := h8; omega
            refine wc_skip ?_
            refine wq_block_normal ?_
            refine wq_seq ?_
            refine wc_region ?_
            refine wl_val (r_add rfl rfl (by omega)) (ltn rfl) ?_
            refine wl_val (r_move rfl) (ltn rfl) ?_
            refine wl_nil ?_
            refine wq_round (j + 1) ?_ ?_ ?_ ?_
            · exact (Sub.cons rfl (Sub.nil _))
            · exact (Sub.cons rfl (Sub.cons rfl (Sub.cons rfl (Sub.cons rfl (Sub.cons rfl (Sub.cons rfl (Sub.cons rfl (Sub.cons rfl (Sub.cons rfl (Sub.nil _))))))))))
            · (try dsimp only)
              first | done | exact ⟨by omega, by
                      rw [foldl_take_succ _ _ _ default hjl]
                      first
                        | (rw [show EdS.partB _ (ps.getD j default) = EdS.edit _ (ps.getD j default).m from if_pos (show (ps.getD j default).kd ≠ 13 ∧ (ps.getD j default).kd < 20 from ⟨by omega, by omega⟩)]; exact H11.right.f2.f2)
                        | (rw [show EdS.partB _ (ps.getD j default) = _ from if_neg (show ¬ ((ps.getD j default).kd ≠ 13 ∧ (ps.getD j default).kd < 20) from by omega)]; exact H11.right.f2.f2)⟩
            · (try dsimp only); omega
        · (try simp only [cmpS] at h7)
          have hk13 : ¬ (ps.getD j default).kd ≠ 13 := by have h9 := h7; simpa using h9
          refine wl_no rfl rfl rfl (ltn rfl) ?_
          refine wl_no rfl rfl rfl (ltn rfl) ?_
          refine wl_no rfl rfl rfl (ltn rfl) ?_
          refine wl_val (r_pick_f rfl rfl) (ltn rfl) ?_
          refine wl_nil ?_
          refine wq_seq ?_
          refine wc_cond_f rfl ?_
          refine wc_skip ?_
          refine wq_block_normal ?_
          refine wq_seq ?_
          refine wc_region ?_
          refine wl_val (r_add rfl rfl (by omega)) (ltn rfl) ?_
          refine wl_val (r_move rfl) (ltn rfl) ?_
          refine wl_nil ?_
          refine wq_round (j + 1) ?_ ?_ ?_ ?_
          · exact (Sub.cons rfl (Sub.nil _))
          · exact (Sub.cons rfl (Sub.cons rfl (Sub.cons rfl (Sub.cons rfl (Sub.cons rfl (Sub.cons rfl (Sub.cons rfl (Sub.cons rfl (Sub.cons rfl (Sub.nil _))))))))))
          · (try dsimp only)
            first | done | exact ⟨by omega, by
                    rw [foldl_take_succ _ _ _ default hjl]
                    first
                      | (rw [show EdS.partB _ (ps.getD j default) = EdS.edit _ (ps.getD j default).m from if_pos (show (ps.getD j default).kd ≠ 13 ∧ (ps.getD j default).kd < 20 from ⟨by omega, by omega⟩)]; exact H11.right.f2.f2)
                      | (rw [show EdS.partB _ (ps.getD j default) = _ from if_neg (show ¬ ((ps.getD j default).kd ≠ 13 ∧ (ps.getD j default).kd < 20) from by omega)]; exact H11.right.f2.f2)⟩
          · (try dsimp only); omega
      · (try simp only [cmpS] at h6)
        
        refine wc_exit ?_
        refine wq_then_exit ?_
        refine wq_then_exit ?_
        refine wq_block_hit ?_
        refine wq_seq ?_
        obtain rfl : j = ps.length := by omega
        have HY := HJ
        rw [List.take_length] at HY
        refine wc_region ?_
        refine wl_val (r_move rfl) (ltn rfl) ?_
        refine wl_val (r_fieldA 1 Tryz.underlying35 rfl rfl Tryz.sizeOf25 (by decide) rfl (by first | exact Nat.zero_add _ | rfl)) (ltn rfl) ?_
        refine wl_val (r_load (plain_of Tryz.underlying25 rfl) rfl (cell_of_blk (HY.f2).get.2 rfl)) (ltn rfl) ?_
        refine wl_eff (e_call (r_call rfl Tryz.func13 rfl rfl) (ed_end_ret HY)) (ltn rfl) ?_
        rintro _ w13 ⟨rfl, H13⟩
        refine wl_nil ?_
        refine wq_block_normal ?_
        refine wq_seq ?_
        refine wc_region ?_
        refine wl_val (r_add rfl rfl (by omega)) (ltn rfl) ?_
        refine wl_val (r_move rfl) (ltn rfl) ?_
        refine wl_nil ?_
        refine wq_round (k + 1) ?_ ?_ ?_ ?_
        · exact (Sub.cons rfl (Sub.nil _))
        · exact (Sub.cons rfl (Sub.cons rfl (Sub.cons rfl (Sub.cons rfl (Sub.cons rfl (Sub.nil _))))))
        · (try dsimp only)
          first | done | exact ⟨by omega, by rw [foldl_take_succ _ _ _ default hkl, hc]; exact H13.f2.right⟩
        · (try dsimp only); omega
    · (try simp only [cmpS] at h5)
      
      refine wc_exit ?_
      refine wq_then_exit ?_
      refine wq_then_exit ?_
      refine wq_block_hit ?_
      refine wq_seq ?_
      refine wc_seq ?_
      obtain rfl : k = cs.length := by omega
      have HY := HL
      rw [List.take_length] at HY
      refine wc_region ?_
      refine wl_val (r_assign rfl) (ltn rfl) ?_
      refine wl_nil ?_
      refine wq_seq ?_
      refine wc_seq ?_
      refine wc_seq ?_
      refine wc_region ?_
      refine wl_val (r_move rfl) (ltn rfl) ?_
      refine wl_val (r_lenS (hu _ (HY.right)) Tryz.underlying23 rfl) (ltn rfl) ?_
      refine wl_val (r_move rfl) (ltn rfl) ?_
      refine wl_nil ?_
      refine wq_seq ?_
      refine wc_block ?_
      refine wc_loop [(0, _), (7, _), (76, _), (77, _)] (fun (⟨k2, n2⟩ : Nat × Int) => [(13, .int .i64 n2), (78, .int .i64 (k2 : Int))]) (fun (⟨k2, n2⟩ : Nat × Int) W => k2 ≤ cs.length ∧ n2 = (sumB cs k2 : Int) ∧ Holds w W (EdRep e2 (cs.foldl EdS.cmdB S0) • F)) (fun (⟨k2, n2⟩ : Nat × Int) => cs.length - k2) ((0, 0)) (Sub.cons rfl (Sub.cons rfl (Sub.cons rfl (Sub.cons rfl (Sub.nil _))))) (Sub.cons rfl (Sub.cons rfl (Sub.nil _))) ⟨by omega, by simp [sumB], HY⟩ ?_
      rintro ⟨k2, n2⟩ w14 ⟨hk2, hn2, HL2⟩
      dsimp only [List.cons_append, List.nil_append]
      refine wc_seq ?_
      refine wc_region ?_
      refine wl_val (r_lss rfl rfl) (ltn rfl) ?_
      refine wl_nil ?_
      refine wq_seq ?_
      refine wc_seq ?_
      refine wc_cond rfl (fun h9 => ?_) (fun h9 => ?_)
      · (try simp only [cmpS] at h9)
        
        refine wc_skip ?_
        refine wq_seq ?_
        refine wc_seq ?_
        refine wc_block ?_
        refine wc_seq ?_
        have hkl2 : k2 < cs.length := by omega
        obtain ⟨t1, t2, t3⟩ := g3 k2 hkl2
        have f3 := FRd.of_start t1 F
        have hsum : sumB cs k2 ≤ 134217728 * 134217728 := Nat.le_trans (sumB_le g3 k2 (by omega)) (Nat.mul_le_mul_right _ (by omega))
        refine wc_region ?_
        obtain ⟨bu, ou, cu, eu⟩ := Rd.posV (hu _ (HL2.right)) (by omega)
        cases eu
        refine wl_val (r_index Tryz.underlying23 Tryz.sizeOf35 rfl rfl (by omega)) (ltn rfl) ?_
        refine wl_val (r_load_elem (ys := [_, _]) (hu _ (HL2.right)) (by omega) Tryz.underlying35 rfl Tryz.sizeOf35 rfl (flat_elem BCmd.enc_len (by omega) default) rfl) (ltn rfl) ?_
        refine wl_eff (e_allocL (l := [_, _]) HL2 Tryz.zeroValue35 rfl) (ltn rfl) ?_
        rintro _ w15 ⟨b15, rfl, H15⟩
        refine wl_eff0 (e_storePL 0 (l' := [_, _]) (us := [_, _]) H15 Tryz.sizeOf35 rfl rfl rfl (ones_cons (by first | rfl | exact Rd.one (f3 _ (H15.right.right))) (ones_cons (by first | rfl | assumption) ones_nil)) rfl rfl) ?_
        rintro _ w16 H16
        refine wl_nil ?_
        refine wq_seq ?_
        refine wc_region ?_
        refine wl_val (r_move rfl) (ltn rfl) ?_
        refine wl_val (r_fieldA 0 Tryz.underlying35 rfl rfl Tryz.sizeOf33 (by decide) rfl (by first | exact Nat.zero_add _ | rfl)) (ltn rfl) ?_
        refine wl_val (r_load (plain_of Tryz.underlying33 rfl) rfl (cell_of_blk (H16).get.2 rfl)) (ltn rfl) ?_
        refine wl_val (r_lenS (f3 _ (H16.right.right)) Tryz.underlying33 rfl) (ltn rfl) ?_
        refine wl_val (r_add rfl rfl (by omega)) (ltn rfl) ?_
        refine wl_val (r_assign rfl) (ltn rfl) ?_
        refine wl_nil ?_
        refine wq_block_normal ?_
        refine wq_seq ?_
        refine wc_region ?_
        refine wl_val (r_add rfl rfl (by omega)) (ltn rfl) ?_
        refine wl_val (r_move rfl) (ltn rfl) ?_
        refine wl_nil ?_
        refine wq_round ((k2 + 1, n2 + (cs.getD k2 default).parts.length)) ?_ ?_ ?_ ?_
        · exact (Sub.cons rfl (Sub.cons rfl (Sub.nil _)))
        · exact (Sub.cons rfl (Sub.cons rfl (Sub.cons rfl (Sub.cons rfl (Sub.nil _)))))
        · (try dsimp only)
          first | done | exact ⟨by omega, by rw [sumB_succ cs hkl2]; omega, H16.right⟩
        · (try dsimp only); omega
      · (try simp only [cmpS] at h9)
        
        refine wc_exit ?_
        refine wq_then_exit ?_
        refine wq_then_exit ?_
        refine wq_block_hit ?_
        refine wq_seq ?_
        refine wc_seq ?_
        refine wc_seq ?_
        obtain rfl : k2 = cs.length := by omega
        obtain ⟨sF, hsF⟩ : ∃ sF, sF = cs.foldl EdS.cmdB S0 := ⟨_, rfl⟩
        have HY := HL2
        rw [← hsF] at HY
        refine wc_region ?_
        refine wl_val (r_move rfl) (ltn rfl) ?_
        refine wl_val (r_gtr rfl rfl) (ltn rfl) ?_
        refine wl_nil ?_
        refine wq_seq ?_
        refine wc_cond rfl (fun h10 => ?_) (fun h10 => ?_)
        · (try simp only [cmpS] at h10)
          
          refine wc_seq ?_
          refine wc_region ?_
          refine wl_val (r_assign rfl) (ltn rfl) ?_
          refine wl_nil ?_
          refine wq_seq ?_
          refine wc_ret ?_
          refine wq_then_ret ?_
          refine wq_end1 (.inl rfl) Tryz.results3 rfl ?_
          exact ⟨rfl, HY.base⟩
        · (try simp only [cmpS] at h10)
          have hU : UOut sF A (0 + sumP (cs.map BCmd.m)) := by
            rw [hsF, cmdsB_eq, hS0]
            exact (start_uout hsh).cmds _ (by rw [← sumB_all]; have h9 := h10; omega)
          have hgl : sF.here.length ≤ 1000 := Nat.le_trans hU.glen (by rw [← sumB_all]; have h9 := h10; omega)
          refine wc_skip ?_
          refine wq_seq ?_
          refine wc_seq ?_
          refine wc_seq ?_
          refine wc_region ?_
          refine wl_val (r_move rfl) (ltn rfl) ?_
          refine wl_eff (e_call (r_call rfl Tryz.func14 rfl rfl) (ed_state_ret HY)) (ltn rfl) ?_
          rintro _ w17 ⟨u17, ks17, us17, sv17, rfl, H17⟩
          refine wl_val (r_field_val 14 Tryz.underlying46 rfl rfl (plain_of Tryz.underlying3 rfl) rfl rfl) (ltn rfl) ?_
          refine wl_val (r_assign rfl) (ltn rfl) ?_
          refine wl_nil ?_
          refine wq_seq ?_
          refine wc_block ?_
          refine wc_loop [(0, _), (7, _)] (fun (⟨k3, n3⟩ : Nat × Int) => [(16, .int .i64 n3)]) (fun (⟨k3, n3⟩ : Nat × Int) W => k3 ≤ sF.here.length ∧ n3 = (sF.here.length : Int) - k3 ∧ Holds w W (EdRep e2 (undoK sF k3) • F)) (fun (⟨k3, n3⟩ : Nat × Int) => sF.here.length - k3) ((0, sF.undoes)) (Sub.cons rfl (Sub.cons rfl (Sub.nil _))) (Sub.cons rfl (Sub.nil _)) ⟨by omega, by rw [hU.here_undoes]; simp, H17.right.right.right.right⟩ ?_
          rintro ⟨k3, n3⟩ w18 ⟨hk3, hn3, HL3⟩
          dsimp only [List.cons_append, List.nil_append]
          refine wc_seq ?_
          refine wc_seq ?_
          refine wc_region ?_
          refine wl_val (r_move rfl) (ltn rfl) ?_
          refine wl_val (r_gtr rfl rfl) (ltn rfl) ?_
          refine wl_nil ?_
          refine wq_seq ?_
          refine wc_cond rfl (fun h11 => ?_) (fun h11 => ?_)
          · (try simp only [cmpS] at h11)
            
            refine wc_skip ?_
            refine wq_seq ?_
            refine wc_seq ?_
            refine wc_block ?_
            refine wc_seq ?_
            have hkl3 : k3 < sF.here.length := by omega
            obtain ⟨ua, ub⟩ := hU.undoK k3 (by omega)
            have hne : (undoK sF k3).here ≠ [] := fun c => by rw [c] at ub; simp at ub; omega
            obtain ⟨v1, v2, v3⟩ := ua.undo1 hne
            have hnd : ((undoK sF k3).beginS.undoS.endS 0).undoes = n3 - 1 := by
              have h9 := v1.here_undoes
              rw [v3, List.length_dropLast, ub] at h9
              exact h9.trans (by omega)
            refine wc_region ?_
            refine wl_val (r_move rfl) (ltn rfl) ?_
            refine wl_eff (e_call (r_call rfl Tryz.func11 rfl rfl) (ed_begin_ret HL3)) (ltn rfl) ?_
            rintro _ w19 ⟨rfl, H19⟩
            refine wl_nil ?_
            refine wq_seq ?_
            refine wc_seq ?_
            refine wc_region ?_
            refine wl_val (r_move rfl) (ltn rfl) ?_
            refine wl_eff (e_call (r_call rfl Tryz.func15 rfl rfl) (ed_undo_ret H19)) (ltn rfl) ?_
            rintro _ w20 ⟨rfl, H20⟩
            rw [v2]
            refine wl_val (r_neq rfl rfl) (ltn rfl) ?_
            refine wl_split rfl (ltn rfl) (fun h => by exfalso; (try simp only [cmpS] at h); simp at h) (fun h12 => ?_)
            (try simp only [cmpS] at h12)
            refine wl_yes rfl rfl ?_
            refine wl_val (r_move rfl) (ltn rfl) ?_
            refine wl_yes rfl rfl ?_
            refine wl_eff (e_call (r_call rfl Tryz.func13 rfl rfl) (ed_end_ret H20)) (ltn rfl) ?_
            rintro _ w21 ⟨rfl, H21⟩
            rw [endE_inn (by rw [undoS_inn]; exact beginS_inn _)]
            refine wl_yes rfl rfl ?_
            refine wl_val (r_neq rfl rfl) (ltn rfl) ?_
            refine wl_val (r_pick_f rfl rfl) (ltn rfl) ?_
            refine wl_split rfl (ltn rfl) (fun h => by exfalso; (try simp only [cmpS] at h); simp at h) (fun h13 => ?_)
            (try simp only [cmpS] at h13)
            refine wl_yes rfl rfl ?_
            refine wl_val (r_move rfl) (ltn rfl) ?_
            refine wl_yes rfl rfl ?_
            refine wl_eff (e_call (r_call rfl Tryz.func14 rfl rfl) (ed_state_ret H21)) (ltn rfl) ?_
            rintro _ w22 ⟨u22, ks22, us22, sv22, rfl, H22⟩
            refine wl_yes rfl rfl ?_
            refine wl_val (r_field_val 14 Tryz.underlying46 rfl rfl (plain_of Tryz.underlying3 rfl) rfl rfl) (ltn rfl) ?_
            refine wl_yes rfl rfl ?_
            refine wl_val (r_move rfl) (ltn rfl) ?_
            refine wl_yes rfl rfl ?_
            refine wl_val (r_sub rfl rfl (by omega)) (ltn rfl) ?_
            refine wl_yes rfl rfl ?_
            refine wl_val (r_neq rfl rfl) (ltn rfl) ?_
            refine wl_val (r_pick_f rfl rfl) (ltn rfl) ?_
            refine wl_nil ?_
            refine wq_seq ?_
            refine wc_cond rfl (fun h => by exfalso; (try simp only [cmpS] at h); exact h hnd) (fun h14 => ?_)
            (try simp only [cmpS] at h14)
            refine wc_skip ?_
            refine wq_block_normal ?_
            refine wq_seq ?_
            refine wc_region ?_
            refine wl_val (r_move rfl) (ltn rfl) ?_
            refine wl_val (r_sub rfl rfl (by omega)) (ltn rfl) ?_
            refine wl_val (r_assign rfl) (ltn rfl) ?_
            refine wl_nil ?_
            refine wq_round ((k3 + 1, n3 - 1)) ?_ ?_ ?_ ?_
            · exact (Sub.cons rfl (Sub.nil _))
            · exact (Sub.cons rfl (Sub.cons rfl (Sub.nil _)))
            · (try dsimp only)
              first | done | exact ⟨by omega, by omega, H22.right.right.right.right⟩
            · (try dsimp only); omega
          · (try simp only [cmpS] at h11)
            
            refine wc_exit ?_
            refine wq_then_exit ?_
            refine wq_then_exit ?_
            refine wq_block_hit ?_
            refine wq_seq ?_
            refine wc_seq ?_
            obtain rfl : k3 = sF.here.length := by omega
            obtain ⟨ua, ub⟩ := hU.undoK sF.here.length (Nat.le_refl _)
            obtain ⟨z1, z2, z3, z4⟩ := ua.empty (List.length_eq_zero_iff.1 (by omega))
            refine wc_region ?_
            refine wl_val (r_move rfl) (ltn rfl) ?_
            refine wl_eff (e_call (r_call rfl Tryz.func11 rfl rfl) (ed_begin_ret HL3)) (ltn rfl) ?_
            rintro _ w23 ⟨rfl, H23⟩
            refine wl_nil ?_
            refine wq_seq ?_
            refine wc_seq ?_
            refine wc_seq ?_
            refine wc_region ?_
            refine wl_val (r_move rfl) (ltn rfl) ?_
            refine wl_eff (e_call (r_call rfl Tryz.func15 rfl rfl) (ed_undo_ret H23)) (ltn rfl) ?_
            rintro _ w24 ⟨rfl, H24⟩
            rw [z1]
            have HZ := H24
            rw [z2] at HZ
            refine wl_val (r_neq rfl rfl) (ltn rfl) ?_
            refine wl_split rfl (ltn rfl) (fun h => by exfalso; (try simp only [cmpS] at h); simp at h) (fun h15 => ?_)
            (try simp only [cmpS] at h15)
            refine wl_yes rfl rfl ?_
            refine wl_val (r_move rfl) (ltn rfl) ?_
            refine wl_yes rfl rfl ?_
            refine wl_eff (e_call (r_call rfl Tryz.func16 rfl rfl) (ed_rev_ret HZ)) (ltn rfl) ?_
            rintro _ w25 ⟨rfl, H25⟩
            rw [z1]
            have HZ2 := H25
            rw [z3] at HZ2
            refine wl_yes rfl rfl ?_
            refine wl_val (r_neq rfl rfl) (ltn rfl) ?_
            refine wl_val (r_pick_f rfl rfl) (ltn rfl) ?_
            refine wl_nil ?_
            refine wq_seq ?_
            refine wc_cond rfl (fun h => by exfalso; (try simp only [cmpS] at h); simp at h) (fun h16 => ?_)
            (try simp only [cmpS] at h16)
            refine wc_skip ?_
            refine wq_seq ?_
            refine wc_seq ?_
            refine wc_region ?_
            refine wl_val (r_move rfl) (ltn rfl) ?_
            refine wl_eff (e_call (r_call rfl Tryz.func13 rfl rfl) (ed_end_ret HZ2)) (ltn rfl) ?_
            rintro _ w26 ⟨rfl, H26⟩
            refine wl_nil ?_
            refine wq_seq ?_
            refine wc_seq ?_
            refine wc_region ?_
            refine wl_val (r_move rfl) (ltn rfl) ?_
            refine wl_eff (e_call (r_call rfl Tryz.func18 rfl rfl) (ed_line_ret H26)) (ltn rfl) ?_
            rintro _ w27 ⟨u27, rfl, H27⟩
            refine wl_val (r_field_val 0 Tryz.underlying42 rfl rfl (plain_of Tryz.underlying22 rfl) rfl rfl) (ltn rfl) ?_
            refine wl_val (r_move rfl) (ltn rfl) ?_
            refine wl_eff (e_call (r_call rfl Tryz.func17 rfl rfl) (equal_ret _ _ _ _ _ ((H27).row_rd) (hv _ (H27.right.right)))) (ltn rfl) ?_
            rintro _ w28 ⟨rfl, hD28⟩
            have HD28 := H27.drewn hD28
            refine wl_val (r_assign rfl) (ltn rfl) ?_
            refine wl_nil ?_
            refine wq_seq ?_
            refine wc_ret ?_
            refine wq_end1 (.inl rfl) Tryz.results3 rfl ?_
            exact ⟨by rw [z4]; simp, HD28.base⟩
end Go.Proofs.YtgmpclifphbjkaaGreatDoor
end
section
/- EditorUndoes: the row of the second form, the card. -/
set_option linter.unusedVariables false
namespace Go.Proofs.YtgmpclifphbjkaaGreatDoor
open Go.ChangeShapes Go.WideShapes Go.ChangeAt Go.RowKit
theorem bparts_of {H : Type} {enc : TypeId × Value → H} {W : World} {n : Nat} {xs : List Value} (hx : xs.length = n * 5) (h : ∀ k, k < n → InB (1048576 * 4096) enc Tryz.prog W 38 ((xs.drop (k * 5)).take 5)) :
    ∃ l : List BPart, l.length = n ∧ xs = l.flatMap BPart.enc ∧ ∀ k, k < n → (l.getD k default).Reads W :=
  rows_of (enc := BPart.enc) (p := fun o => o.Reads W) hx (fun k hk => by
    obtain ⟨x0, x1, x2, x3, v4, x4, e, -, -, -, ⟨gt, bt, -⟩⟩ := part_in (h k hk)
    exact ⟨⟨x0, x1, x2, x3, v4, x4⟩, e, gt, by dsimp only; omega⟩)
theorem bcmds_of {H : Type} {enc : TypeId × Value → H} {W : World} {n : Nat} {xs : List Value} (hx : xs.length = n * 2) (h : ∀ k, k < n → InB (1048576 * 4096) enc Tryz.prog W 35 ((xs.drop (k * 2)).take 2)) :
    ∃ l : List BCmd, l.length = n ∧ xs = l.flatMap BCmd.enc ∧ ∀ k, k < n → (l.getD k default).Reads W :=
  rows_of (enc := BCmd.enc) (p := fun o => o.Reads W) hx (fun k hk => by
    obtain ⟨v0, n0, x0, x1, e, ⟨g0, b0, s0⟩, -⟩ := cmd_in (h k hk)
    obtain ⟨ps, k1, k2, k3⟩ := bparts_of g0.len s0
    rw [show Tryz.prog.bytesOf 38 = 56 from by kernel_rfl] at b0
    subst k1 k2
    exact ⟨⟨v0, ps, x1⟩, e, g0, k3, by dsimp only; omega⟩)

set_option maxRecDepth 100000 in
theorem editorUndoes_liftedU (os : Os) (started : os.Started) (H : Type) (enc : TypeId × Value → H) (F : Stop.Interp) :
    ReturnsInHanded {} Tryz.checked os 3 .any ((Rows.OpenSpec.upto Rows.editorUndoesSpec).preRow enc Tryz.prog Tryz.f3 Rows.editorUndoesUptoRow.domain false laid4) (((Rows.OpenSpec.upto Rows.editorUndoesSpec).at F).post enc Tryz.prog Tryz.f3 false true false false) := by
  refine law_lift_laid_upto (C := Tryz.checked) (tb := 4) (M := 4096) (z := 257) _ (by kernel_rfl) (by decide) (by kernel_rfl) own laid started (by kernel_rfl) Tryz.func3 (congrArg Array.toList Tryz.params3) rfl Tryz.underlying4 rfl (by kernel_rfl) (fun ds hd => ?_)
    (witness_row_at (enc := enc) (C := Tryz.checked) false (World.laidAll Tryz.prog os laid4) #[.slice none 0 0, .slice none 0 0] (World.laidAll_os _ _ _) (by kernel_rfl) (by kernel_rfl) (by kernel_rfl)
      (OpenSpec.preRow_of_cond 8 (x := ([.nil, .nil], [], [])) (by kernel_rfl) (by kernel_rfl) (fun k hk => by cases hk; kernel_rfl) (by kernel_rfl) (by have := laid_met os #[.slice none 0 0, .slice none 0 0]; rwa [MakeChecks.laidMetH_plain _ _ _ (by kernel_rfl)] at this))) ?_
  · obtain ⟨a0, a1, rfl⟩ := len_two hd
    rfl
  intro W args hL hin
  obtain ⟨hT, hU⟩ := tabs_of hL
  obtain ⟨v1, v2, rfl, ⟨⟨_, o1⟩, i1⟩, ⟨⟨_, o2⟩, i2⟩⟩ := hin.two
  obtain ⟨a1, n1, c1, rfl⟩ := okWide_slice Tryz.underlying22 o1
  obtain ⟨a2, n2, c2, rfl⟩ := okWide_slice Tryz.underlying23 o2
  obtain ⟨_, l, e1, g1, bl, -⟩ := i1.ints Tryz.underlying22 Tryz.underlying21 (by kernel_rfl)
  obtain rfl := List.singleton_inj.1 e1
  rw [show Tryz.prog.bytesOf 21 = 4 from by kernel_rfl] at bl
  obtain ⟨u, n, xs, e2, h1, h2, h3⟩ := i2.slice Tryz.underlying23 (by rw [show Tryz.prog.cellsOf 35 = 2 from by kernel_rfl]; decide)
  rw [show Tryz.prog.cellsOf 35 = 2 from by kernel_rfl] at h1 h3
  rw [show Tryz.prog.bytesOf 35 = 32 from by kernel_rfl] at h2
  obtain rfl := List.singleton_inj.1 e2
  obtain ⟨cs, k1, k2, k3⟩ := bcmds_of h1.len h3
  subst k1 k2
  exact editor_undoes g1 h1 k3 (by omega) (by omega)

theorem editorUndoes_upto : Rows.EditorUndoesUptoSaid :=
  OpenClaim.holds_of_cond 3 Tryz.f3 rfl rfl rfl rfl rfl rfl rfl ⟨rfl, rfl, rfl, rfl, rfl⟩ rfl rfl rfl rfl rfl (by kernel_rfl) Tryz.func3 (by kernel_rfl)
    (of_decide_eq_true (by kernel_rfl)) (by unfold Func.isWrapper; first | (rw [if_pos (by decide +kernel)]; kernel_rfl) | (rw [if_neg (by decide +kernel)]; exact ⟨rfl, rfl⟩))
    (fun os started H enc _ F => by rw [OpenClaim.pre_eq_preRow]; exact editorUndoes_liftedU os started H enc F)
theorem editorUndoes_uptoCard : Rows.EditorUndoesUptoCardSaid :=
  Claim7.holds_tied_plain_at .later [] [.data, .pinned] true (true, "e57ec22d5011dd699b23356e973d0f3726ab5e1591670ca2b34591d57076bf6d") false
    editorUndoes_upto (fun _ h => by cases h) (by kernel_rfl) (fun _ h => by cases h) editorUndoesUpto_row_tie rfl ⟨rfl, rfl⟩ (by kernel_rfl) rfl
    (fun f fn hf hfn => by
      obtain rfl : f = 3 := Option.some.inj ((show Tryz.prog.funcNamed "lanyard/lanyardlaw17.EditorUndoes" = some 3 by kernel_rfl).symm.trans hf) |>.symm
      obtain rfl : fn = Tryz.f3 := (Option.some.inj (Tryz.func3.symm.trans hfn)).symm
      exact ⟨by kernel_rfl, fun j t ht => by
        rw [Tryz.params3] at ht
        have hm : t ∈ [22, 23] := by simpa using Array.mem_of_getElem? ht
        have hall : ([22, 23].all fun u => !Tryz.prog.wantsStandIn u) = true := by kernel_rfl
        exact (show Tryz.prog.wantsStandIn t = false by simpa using List.all_eq_true.1 hall t hm)⟩)
    (by kernel_rfl)
end Go.Proofs.YtgmpclifphbjkaaGreatDoor
end
