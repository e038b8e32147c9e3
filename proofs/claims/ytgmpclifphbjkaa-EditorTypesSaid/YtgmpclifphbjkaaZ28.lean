import Derived.Test.YtgmpclifphbjkaaZ27
import Derived.Test.YtgmpclifphbjkaaZ15
import Derived.Test.YtgmpclifphbjkaaZ16
import Derived.Test.YtgmpclifphbjkaaZ2
import Derived.Test.YtgmpclifphbjkaaRows
import Derived.Test.YtgmpclifphbjkaaZ11
/- Texts of mine, joined: ELive ETyM3 FieldVal LawETypes HasETypes. -/
section
/- Editors: live. -/
set_option linter.unusedSimpArgs false
set_option linter.unusedVariables false
namespace Go.Proofs.Ytgmpclifphbjkaa
open Go.RowKit
theorem new_out (hl : List HLn) (base most : Int) : Out (EdS.new hl base most) [] 0 [] false := ⟨rfl, rfl, rfl, rfl, rfl, rfl⟩
/-- What the first living case comes to. -/
def liveS : EdS := ((EdS.new [] 1 10).beginS.typeS [97]).endS 0
theorem live_L : liveS.c.L = [97] := by rfl
theorem live_text : (utf8 liveS.c.L).toList = (ByteArray.mk #[97]).toList := by rw [live_L]; exact congrArg ByteArray.toList (by rfl)
theorem live_undoes : liveS.undoes = 1 := by rfl
theorem live_arg : liveS.arg = -1 := by rfl
theorem live_last : liveS.lastS = 3 := by rfl
section
variable {w0 w : World} {F : HP}
theorem live_ret (H : Holds w0 w F) : Ret Try.prog 7 #[] w fun v w' => v = .bool true ∧ Holds w0 w' F := by
  refine ret_enter Try.func7 rfl Try.ntmps7 (Nat.le_of_ble_eq_true rfl) ?_
  dsimp only [slots0, Nat.reduceAdd]
  refine wc_seq ?_
  refine wc_region ?_
  refine wl_val (r_assign rfl) (ltn rfl) ?_
  refine wl_nil ?_
  refine wq_seq ?_
  refine wc_seq ?_
  refine wc_region ?_
  refine wl_eff (e_call (r_call rfl Try.func5 rfl rfl) (hist_new_ret H (by omega))) (ltn rfl) ?_
  rintro _ w1 ⟨p1, rfl, H1⟩
  refine wl_val (r_move rfl) (ltn rfl) ?_
  refine wl_val (r_extract rfl rfl) (ltn rfl) ?_
  refine wl_val (r_extract rfl rfl) (ltn rfl) ?_
  refine wl_val (r_assign rfl) (ltn rfl) ?_
  refine wl_val (r_assign rfl) (ltn rfl) ?_
  refine wl_nil ?_
  refine wq_seq ?_
  refine wc_seq ?_
  refine wc_region ?_
  refine wl_val (r_move rfl) (ltn rfl) ?_
  refine wl_eff (e_call (r_call rfl Try.func6 rfl rfl) (ed_new_ret H1)) (ltn rfl) ?_
  rintro _ w2 ⟨e2, rfl, H2⟩
  refine wl_val (r_move rfl) (ltn rfl) ?_
  refine wl_val (r_extract rfl rfl) (ltn rfl) ?_
  refine wl_val (r_extract rfl rfl) (ltn rfl) ?_
  refine wl_val (r_assign rfl) (ltn rfl) ?_
  refine wl_val (r_assign rfl) (ltn rfl) ?_
  refine wl_nil ?_
  refine wq_seq ?_
  refine wc_seq ?_
  refine wc_seq ?_
  refine wc_region ?_
  refine wl_val (r_move rfl) (ltn rfl) ?_
  refine wl_val (r_neq rfl rfl) (ltn rfl) ?_
  refine wl_split rfl (ltn rfl) (fun h => by exfalso; (try simp only [beq_iff_eq, bne_iff_ne, ne_eq, decide_eq_true_eq, decide_eq_false_iff_not, beq_eq_false_iff_ne, bne_eq_false_iff_eq, Bool.not_eq_true', Bool.not_eq_false', Bool.not_eq_eq_eq_not, Bool.not_true, Bool.not_false, gt_iff_lt, ge_iff_le, Int.not_lt, Int.not_le] at h); simp at h) (fun h1 => ?_)
  (try simp only [beq_iff_eq, bne_iff_ne, ne_eq, decide_eq_true_eq, decide_eq_false_iff_not, beq_eq_false_iff_ne, bne_eq_false_iff_eq, Bool.not_eq_true', Bool.not_eq_false', Bool.not_eq_eq_eq_not, Bool.not_true, Bool.not_false, gt_iff_lt, ge_iff_le, Int.not_lt, Int.not_le] at h1)
  refine wl_yes rfl rfl ?_
  refine wl_val (r_move rfl) (ltn rfl) ?_
  refine wl_yes rfl rfl ?_
  refine wl_val (r_neq rfl rfl) (ltn rfl) ?_
  refine wl_val (r_pick_f rfl rfl) (ltn rfl) ?_
  refine wl_split rfl (ltn rfl) (fun h => by exfalso; (try simp only [beq_iff_eq, bne_iff_ne, ne_eq, decide_eq_true_eq, decide_eq_false_iff_not, beq_eq_false_iff_ne, bne_eq_false_iff_eq, Bool.not_eq_true', Bool.not_eq_false', Bool.not_eq_eq_eq_not, Bool.not_true, Bool.not_false, gt_iff_lt, ge_iff_le, Int.not_lt, Int.not_le] at h); simp at h) (fun h2 => ?_)
  (try simp only [beq_iff_eq, bne_iff_ne, ne_eq, decide_eq_true_eq, decide_eq_false_iff_not, beq_eq_false_iff_ne, bne_eq_false_iff_eq, Bool.not_eq_true', Bool.not_eq_false', Bool.not_eq_eq_eq_not, Bool.not_true, Bool.not_false, gt_iff_lt, ge_iff_le, Int.not_lt, Int.not_le] at h2)
  refine wl_yes rfl rfl ?_
  refine wl_val (r_move rfl) (ltn rfl) ?_
  refine wl_yes rfl rfl ?_
  refine wl_val (r_ptr_nil Try.underlying27 rfl rfl) (ltn rfl) ?_
  refine wl_val (r_pick_f rfl rfl) (ltn rfl) ?_
  refine wl_nil ?_
  refine wq_seq ?_
  refine wc_cond rfl (fun h => by exfalso; (try simp only [beq_iff_eq, bne_iff_ne, ne_eq, decide_eq_true_eq, decide_eq_false_iff_not, beq_eq_false_iff_ne, bne_eq_false_iff_eq, Bool.not_eq_true', Bool.not_eq_false', Bool.not_eq_eq_eq_not, Bool.not_true, Bool.not_false, gt_iff_lt, ge_iff_le, Int.not_lt, Int.not_le] at h); simp at h) (fun h3 => ?_)
  (try simp only [beq_iff_eq, bne_iff_ne, ne_eq, decide_eq_true_eq, decide_eq_false_iff_not, beq_eq_false_iff_ne, bne_eq_false_iff_eq, Bool.not_eq_true', Bool.not_eq_false', Bool.not_eq_eq_eq_not, Bool.not_true, Bool.not_false, gt_iff_lt, ge_iff_le, Int.not_lt, Int.not_le] at h3)
  refine wc_skip ?_
  refine wq_seq ?_
  refine wc_seq ?_
  refine wc_region ?_
  refine wl_val (r_move rfl) (ltn rfl) ?_
  refine wl_eff (e_call (r_call rfl Try.func8 rfl rfl) (ed_begin_ret H2)) (ltn rfl) ?_
  rintro _ w3 ⟨rfl, H3⟩
  refine wl_nil ?_
  refine wq_seq ?_
  refine wc_seq ?_
  refine wc_region ?_
  refine wl_val (r_move rfl) (ltn rfl) ?_
  refine wl_eff (e_lit_ints (k := .i32) (l := [97]) H3 Try.underlying22 Try.sizeOf21 Try.zeroValue21 rfl rfl rfl (by decide)) (ltn rfl) ?_
  rintro l4 w4 H4
  refine wl_eff (e_call (r_call rfl Try.func10 rfl rfl) (ed_type_ret H4.f2 (fun W HW => (HW).row_rd) (by simp))) (ltn rfl) ?_
  rintro _ w5 ⟨rfl, H5⟩
  refine wl_nil ?_
  refine wq_seq ?_
  refine wc_seq ?_
  refine wc_region ?_
  refine wl_val (r_move rfl) (ltn rfl) ?_
  refine wl_eff (e_call (r_call rfl Try.func9 rfl rfl) (ed_end_ret H5)) (ltn rfl) ?_
  rintro _ w6 ⟨rfl, H6⟩
  refine wl_nil ?_
  refine wq_seq ?_
  refine wc_seq ?_
  refine wc_region ?_
  refine wl_val (r_move rfl) (ltn rfl) ?_
  refine wl_eff (e_call (r_call rfl Try.func16 rfl rfl) (ed_state_ret H6)) (ltn rfl) ?_
  rintro _ w7 ⟨u7, ks7, us7, sv7, rfl, H7⟩
  refine wl_eff (e_allocL (l := [_, _, _, _, _, _, _, _, _, _, _, _, _, _, _, _, _]) H7 Try.zeroValue43 rfl) (ltn rfl) ?_
  rintro _ w8 ⟨b8, rfl, H8⟩
  refine wl_eff0 (e_storePL 0 (l' := [_, _, _, _, _, _, _, _, _, _, _, _, _, _, _, _, _]) (us := [_, _, _, _, _, _, _, _, _, _, _, _, _, _, _, _, _]) H8 Try.sizeOf43 rfl rfl rfl (ones_cons (by first | rfl | exact Rd.one ((H8.f2).row_rd)) (ones_cons (by first | rfl | assumption) (ones_cons (by first | rfl | assumption) (ones_cons (by first | rfl | assumption) (ones_cons (by first | rfl | assumption) (ones_cons (by first | rfl | assumption) (ones_cons (by first | rfl | assumption) (ones_cons (by first | rfl | assumption) (ones_cons (by first | rfl | assumption) (ones_cons (by first | rfl | assumption) (ones_cons (by first | rfl | assumption) (ones_cons (by first | rfl | exact Rd.one ((H8.f3).row_rd)) (ones_cons (by first | rfl | assumption) (ones_cons (by first | rfl | exact Rd.one ((H8.f5).row_rd)) (ones_cons (by first | rfl | assumption) (ones_cons (by first | rfl | assumption) (ones_cons (by first | rfl | assumption) ones_nil))))))))))))))))) rfl rfl) ?_
  rintro _ w9 H9
  refine wl_nil ?_
  refine wq_seq ?_
  refine wc_seq ?_
  refine wc_region ?_
  refine wl_val ((by first | exact r_field0 0 Try.underlying43 rfl rfl Try.sizeOf38 (by decide) rfl | exact r_field 0 Try.underlying43 rfl rfl Try.sizeOf38 (by decide) rfl)) (ltn rfl) ?_
  refine wl_val ((by first | exact r_field0 0 Try.underlying38 rfl rfl Try.sizeOf22 (by decide) rfl | exact r_field 0 Try.underlying38 rfl rfl Try.sizeOf22 (by decide) rfl)) (ltn rfl) ?_
  refine wl_val (r_load (plain_of Try.underlying22 rfl) rfl (cell_of_blk (H9).get.2 rfl)) (ltn rfl) ?_
  refine wl_val (r_runes_str Try.underlying22 Try.underlying9 Try.underlying21 rfl ((H9.f2).row_rd)) (ltn rfl) ?_
  refine wl_val (r_str_eql rfl rfl) (ltn rfl) ?_
  refine wl_split rfl (ltn rfl) (fun h4 => ?_) (fun h => by exfalso; (try simp only [beq_iff_eq, bne_iff_ne, ne_eq, decide_eq_true_eq, decide_eq_false_iff_not, beq_eq_false_iff_ne, bne_eq_false_iff_eq, Bool.not_eq_true', Bool.not_eq_false', Bool.not_eq_eq_eq_not, Bool.not_true, Bool.not_false, gt_iff_lt, ge_iff_le, Int.not_lt, Int.not_le] at h); exact h live_text)
  (try simp only [beq_iff_eq, bne_iff_ne, ne_eq, decide_eq_true_eq, decide_eq_false_iff_not, beq_eq_false_iff_ne, bne_eq_false_iff_eq, Bool.not_eq_true', Bool.not_eq_false', Bool.not_eq_eq_eq_not, Bool.not_true, Bool.not_false, gt_iff_lt, ge_iff_le, Int.not_lt, Int.not_le] at h4)
  refine wl_yes rfl rfl ?_
  refine wl_val ((by first | exact r_field0 14 Try.underlying43 rfl rfl Try.sizeOf3 (by decide) rfl | exact r_field 14 Try.underlying43 rfl rfl Try.sizeOf3 (by decide) rfl)) (ltn rfl) ?_
  refine wl_yes rfl rfl ?_
  refine wl_val (r_load (plain_of Try.underlying3 rfl) rfl (cell_of_blk (H9).get.2 rfl)) (ltn rfl) ?_
  refine wl_yes rfl rfl ?_
  refine wl_val (r_eql rfl rfl) (ltn rfl) ?_
  refine wl_val (r_pick_t rfl rfl) (ltn rfl) ?_
  refine wl_split rfl (ltn rfl) (fun h5 => ?_) (fun h => by exfalso; (try simp only [beq_iff_eq, bne_iff_ne, ne_eq, decide_eq_true_eq, decide_eq_false_iff_not, beq_eq_false_iff_ne, bne_eq_false_iff_eq, Bool.not_eq_true', Bool.not_eq_false', Bool.not_eq_eq_eq_not, Bool.not_true, Bool.not_false, gt_iff_lt, ge_iff_le, Int.not_lt, Int.not_le] at h); exact h live_undoes)
  (try simp only [beq_iff_eq, bne_iff_ne, ne_eq, decide_eq_true_eq, decide_eq_false_iff_not, beq_eq_false_iff_ne, bne_eq_false_iff_eq, Bool.not_eq_true', Bool.not_eq_false', Bool.not_eq_eq_eq_not, Bool.not_true, Bool.not_false, gt_iff_lt, ge_iff_le, Int.not_lt, Int.not_le] at h5)
  refine wl_yes rfl rfl ?_
  refine wl_val ((by first | exact r_field0 7 Try.underlying43 rfl rfl Try.sizeOf3 (by decide) rfl | exact r_field 7 Try.underlying43 rfl rfl Try.sizeOf3 (by decide) rfl)) (ltn rfl) ?_
  refine wl_yes rfl rfl ?_
  refine wl_val (r_load (plain_of Try.underlying3 rfl) rfl (cell_of_blk (H9).get.2 rfl)) (ltn rfl) ?_
  refine wl_yes rfl rfl ?_
  refine wl_val (r_eql rfl rfl) (ltn rfl) ?_
  refine wl_val (r_pick_t rfl rfl) (ltn rfl) ?_
  refine wl_split rfl (ltn rfl) (fun h6 => ?_) (fun h => by exfalso; (try simp only [beq_iff_eq, bne_iff_ne, ne_eq, decide_eq_true_eq, decide_eq_false_iff_not, beq_eq_false_iff_ne, bne_eq_false_iff_eq, Bool.not_eq_true', Bool.not_eq_false', Bool.not_eq_eq_eq_not, Bool.not_true, Bool.not_false, gt_iff_lt, ge_iff_le, Int.not_lt, Int.not_le] at h); exact h live_arg)
  (try simp only [beq_iff_eq, bne_iff_ne, ne_eq, decide_eq_true_eq, decide_eq_false_iff_not, beq_eq_false_iff_ne, bne_eq_false_iff_eq, Bool.not_eq_true', Bool.not_eq_false', Bool.not_eq_eq_eq_not, Bool.not_true, Bool.not_false, gt_iff_lt, ge_iff_le, Int.not_lt, Int.not_le] at h6)
  refine wl_yes rfl rfl ?_
  refine wl_val ((by first | exact r_field0 8 Try.underlying43 rfl rfl Try.sizeOf3 (by decide) rfl | exact r_field 8 Try.underlying43 rfl rfl Try.sizeOf3 (by decide) rfl)) (ltn rfl) ?_
  refine wl_yes rfl rfl ?_
  refine wl_val (r_load (plain_of Try.underlying3 rfl) rfl (cell_of_blk (H9).get.2 rfl)) (ltn rfl) ?_
  refine wl_yes rfl rfl ?_
  refine wl_val (r_known_t (r_eql rfl rfl) (by exact decide_eq_true live_last)) (ltn rfl) ?_
  refine wl_val (r_pick_t rfl rfl) (ltn rfl) ?_
  refine wl_val (r_assign rfl) (ltn rfl) ?_
  refine wl_nil ?_
  refine wq_seq ?_
  refine wc_ret ?_
  refine wq_end1 (.inl rfl) Try.results7 rfl ?_
  exact ⟨rfl, H9.right.right.right.right.right.right.right.right⟩
end
end Go.Proofs.Ytgmpclifphbjkaa
end
section
/- EditorTypes, plainly. -/
set_option linter.unusedSimpArgs false
set_option linter.unusedVariables false
namespace Go.Proofs.Ytgmpclifphbjkaa
open Go.RowKit
def tyA (L : List Int) : EdS := typeL (EdS.new [] 1 5) L
def tyB (L : List Int) : EdS := ((tyA L).beginS.moveS 0).endS 0
def tyC (L M : List Int) : EdS := typeL (tyB L) M
def undone (s : EdS) : EdS := s.beginS.undoS.endS 0
def unS (L M : List Int) : Nat → EdS
  | 0 => tyC L M
  | k + 1 => if [M, L].getD k [] = [] then unS L M k else undone (unS L M k)
section
variable {L M : List Int}
theorem tyB_out (h1 : L.length ≤ 50) : Out (tyB L) L 0 (withG [] 0 L) false := by
  have h := (new_out [] 1 5).typeL (by simp) L (by simp; omega) (by unfold uTot; simp; omega)
  simp only [List.take_nil, List.nil_append, List.drop_nil, List.append_nil] at h
  exact h.move 0 (by omega)
theorem tyC_out (h1 : L.length ≤ 50) (h2 : M.length ≤ 50) : Out (tyC L M) (M ++ L) M.length (withG (withG [] 0 L) 0 M) (!M.isEmpty) := by
  have h := (tyB_out h1).typeL (by omega) M (by omega) (by rw [withG_tot]; unfold uTot; simp; omega)
  have e : tyC L M = typeL (tyB L) M := rfl
  rw [e]
  simpa using h
theorem undo_step {s : EdS} {B l : List Int} {G : List (List EdA)} {pt : Int} {run : Bool} (h : Out s (l ++ B) pt (withG G 0 l) run) (hn : l.length + B.length ≤ 1024) :
    (∃ pt run, Out (if l = [] then s else undone s) B pt G run) ∧ (l ≠ [] → s.beginS.undoE = 0) := by
  by_cases hl : l = []
  · subst hl
    rw [if_pos rfl]
    exact ⟨⟨_, _, by simpa [withG] using h⟩, fun c => absurd rfl c⟩
  · rw [if_neg hl]
    obtain ⟨h1, pt', h2⟩ := Out.undo (A := []) (B := B) (l := l) (G := G) (by simpa using h) hl (by simpa using hn)
    exact ⟨⟨pt', false, by unfold undone; simpa using h2⟩, fun _ => h1⟩
theorem un_all (h1 : L.length ≤ 50) (h2 : M.length ≤ 50) : ((∃ pt run, Out (unS L M 1) L pt (withG [] 0 L) run) ∧ (M ≠ [] → (unS L M 0).beginS.undoE = 0)) ∧ (∃ pt run, Out (unS L M 2) [] pt [] run) ∧ (L ≠ [] → (unS L M 1).beginS.undoE = 0) := by
  have a := undo_step (s := unS L M 0) (tyC_out h1 h2) (show M.length + L.length ≤ 1024 by omega)
  obtain ⟨⟨pt, run, a1⟩, a2⟩ := a
  have b := undo_step (s := unS L M 1) (l := L) (B := []) (by simpa using (show Out (unS L M 1) L pt (withG [] 0 L) run from a1)) (by simp; omega)
  exact ⟨⟨⟨pt, run, a1⟩, a2⟩, b.1, b.2⟩
theorem un_step (h1 : L.length ≤ 50) (h2 : M.length ≤ 50) {k : Nat} (hk : k < 2) (hX : [M, L].getD k [] ≠ []) : (unS L M k).beginS.undoE = 0 ∧ ((undone (unS L M k)).c.L.length : Int) = (unS L M k).c.L.length - ([M, L].getD k []).length := by
  obtain ⟨⟨⟨pt, run, a1⟩, a2⟩, ⟨pt2, run2, b1⟩, b2⟩ := un_all h1 h2
  rcases (show k = 0 ∨ k = 1 from by omega) with rfl | rfl
  · refine ⟨a2 hX, ?_⟩
    have e : unS L M 1 = undone (unS L M 0) := if_neg hX
    rw [← e, a1.L, show (unS L M 0).c.L = M ++ L from (tyC_out h1 h2).L]
    simp; omega
  · refine ⟨b2 hX, ?_⟩
    have e : unS L M 2 = undone (unS L M 1) := if_neg hX
    rw [← e, a1.L, b1.L]
    simp
theorem un_len (h1 : L.length ≤ 50) (h2 : M.length ≤ 50) {k : Nat} (hk : k < 2) : (unS L M k).c.L.length ≤ 100 := by
  obtain ⟨⟨⟨pt, run, a1⟩, a2⟩, ⟨pt2, run2, b1⟩, b2⟩ := un_all h1 h2
  rcases (show k = 0 ∨ k = 1 from by omega) with rfl | rfl
  · rw [show (unS L M 0).c.L = M ++ L from (tyC_out h1 h2).L]; simp; omega
  · rw [a1.L]; omega
theorem un_end (h1 : L.length ≤ 50) (h2 : M.length ≤ 50) : (unS L M 2).undoes = 0 ∧ (unS L M 2).c.L = [] := by
  obtain ⟨_, ⟨pt2, run2, b1⟩, b2⟩ := un_all h1 h2
  refine ⟨?_, b1.L⟩
  unfold EdS.undoes undoesOf EdS.here
  rw [b1.G, b1.inn]; rfl
end
end Go.Proofs.Ytgmpclifphbjkaa
end
section
/- A field of a struct in hand. -/
set_option linter.unusedSimpArgs false
set_option linter.unusedVariables false
namespace Go.Proofs.Ytgmpclifphbjkaa
open Go.RowKit
theorem r_field_val {P : Program} {L : List (Nat × Value)} {w : World} {ty t : TypeId} {fs : Array Field} {f : Field} {i : Nat} {x : Operand} {cs : Array Value} {u : Value} (off : Nat) (ht : P.underlying t = some (.struct fs)) (hf : fs[i]? = some f) (ho : f.offset = off) (hp : plainTy P f.type = true) (hx : ev L x = some (.agg cs)) (hc : cs[off]? = some u) :
    Val P L (.field t x i) ty w u w := fun ρ hρ _ _ _ _ => by
  simp [execOp, hρ _ _ hx, Instr.field, run_underlying ht, hf, part, asAgg, run_isAgg_no hp, ho, hc]
end Go.Proofs.Ytgmpclifphbjkaa
end
section
/- EditorTypes, walked. -/
set_option linter.unusedSimpArgs false
set_option linter.unusedVariables false
namespace Go.Proofs.Ytgmpclifphbjkaa
open Go.RowKit
theorem editor_types {w : World} {v u : Value} {L M : List Int} (g1 : RdI w .i32 v L) (g2 : RdI w .i32 u M) (b1 : L.length ≤ 35184372087808) (b2 : M.length ≤ 35184372087808) :
    Ret Try.prog 3 #[v, u] w fun v w' => v = .bool true ∧ Below w.heap.size w w' := by
  obtain ⟨F, H⟩ : ∃ F, Holds w w F := ⟨_, Holds.start w⟩
  have hv : FRdI w F .i32 v L := FRdI.of_start g1 F
  have hu : FRdI w F .i32 u M := FRdI.of_start g2 F
  refine ret_enter Try.func3 rfl Try.ntmps3 (Nat.le_of_ble_eq_true rfl) ?_
  dsimp only [slots0, Nat.reduceAdd]
  refine wc_seq ?_
  refine wc_region ?_
  refine wl_val (r_assign rfl) (ltn rfl) ?_
  refine wl_nil ?_
  refine wq_seq ?_
  refine wc_seq ?_
  refine wc_region ?_
  refine wl_eff (e_call (r_call rfl Try.func5 rfl rfl) (hist_new_ret H (by omega))) (ltn rfl) ?_
  rintro _ w1 ⟨p1, rfl, H1⟩
  refine wl_val (r_move rfl) (ltn rfl) ?_
  refine wl_val (r_extract rfl rfl) (ltn rfl) ?_
  refine wl_val (r_extract rfl rfl) (ltn rfl) ?_
  refine wl_val (r_assign rfl) (ltn rfl) ?_
  refine wl_val (r_assign rfl) (ltn rfl) ?_
  refine wl_nil ?_
  refine wq_seq ?_
  refine wc_seq ?_
  refine wc_region ?_
  refine wl_val (r_move rfl) (ltn rfl) ?_
  refine wl_eff (e_call (r_call rfl Try.func6 rfl rfl) (ed_new_ret H1)) (ltn rfl) ?_
  rintro _ w2 ⟨e2, rfl, H2⟩
  refine wl_val (r_move rfl) (ltn rfl) ?_
  refine wl_val (r_extract rfl rfl) (ltn rfl) ?_
  refine wl_val (r_extract rfl rfl) (ltn rfl) ?_
  refine wl_val (r_assign rfl) (ltn rfl) ?_
  refine wl_val (r_assign rfl) (ltn rfl) ?_
  refine wl_nil ?_
  refine wq_seq ?_
  refine wc_seq ?_
  refine wc_seq ?_
  refine wc_region ?_
  refine wl_val (r_move rfl) (ltn rfl) ?_
  refine wl_val (r_neq rfl rfl) (ltn rfl) ?_
  refine wl_split rfl (ltn rfl) (fun h => by exfalso; (try simp only [beq_iff_eq, bne_iff_ne, ne_eq, decide_eq_true_eq, decide_eq_false_iff_not, beq_eq_false_iff_ne, bne_eq_false_iff_eq, Bool.not_eq_true', Bool.not_eq_false', Bool.not_eq_eq_eq_not, Bool.not_true, Bool.not_false, gt_iff_lt, ge_iff_le, Int.not_lt, Int.not_le] at h); simp at h) (fun h1 => ?_)
  (try simp only [beq_iff_eq, bne_iff_ne, ne_eq, decide_eq_true_eq, decide_eq_false_iff_not, beq_eq_false_iff_ne, bne_eq_false_iff_eq, Bool.not_eq_true', Bool.not_eq_false', Bool.not_eq_eq_eq_not, Bool.not_true, Bool.not_false, gt_iff_lt, ge_iff_le, Int.not_lt, Int.not_le] at h1)
  refine wl_yes rfl rfl ?_
  refine wl_val (r_move rfl) (ltn rfl) ?_
  refine wl_yes rfl rfl ?_
  refine wl_val (r_neq rfl rfl) (ltn rfl) ?_
  refine wl_val (r_pick_f rfl rfl) (ltn rfl) ?_
  refine wl_split rfl (ltn rfl) (fun h => by exfalso; (try simp only [beq_iff_eq, bne_iff_ne, ne_eq, decide_eq_true_eq, decide_eq_false_iff_not, beq_eq_false_iff_ne, bne_eq_false_iff_eq, Bool.not_eq_true', Bool.not_eq_false', Bool.not_eq_eq_eq_not, Bool.not_true, Bool.not_false, gt_iff_lt, ge_iff_le, Int.not_lt, Int.not_le] at h); simp at h) (fun h2 => ?_)
  (try simp only [beq_iff_eq, bne_iff_ne, ne_eq, decide_eq_true_eq, decide_eq_false_iff_not, beq_eq_false_iff_ne, bne_eq_false_iff_eq, Bool.not_eq_true', Bool.not_eq_false', Bool.not_eq_eq_eq_not, Bool.not_true, Bool.not_false, gt_iff_lt, ge_iff_le, Int.not_lt, Int.not_le] at h2)
  refine wl_yes rfl rfl ?_
  refine wl_val (r_move rfl) (ltn rfl) ?_
  refine wl_yes rfl rfl ?_
  refine wl_val (r_lenR (hv _ (H2.right.right)) Try.underlying22 rfl) (ltn rfl) ?_
  refine wl_yes rfl rfl ?_
  refine wl_val (r_gtr rfl rfl) (ltn rfl) ?_
  refine wl_val (r_pick_f rfl rfl) (ltn rfl) ?_
  refine wl_split rfl (ltn rfl) (fun h3 => ?_) (fun h3 => ?_)
  · (try simp only [beq_iff_eq, bne_iff_ne, ne_eq, decide_eq_true_eq, decide_eq_false_iff_not, beq_eq_false_iff_ne, bne_eq_false_iff_eq, Bool.not_eq_true', Bool.not_eq_false', Bool.not_eq_eq_eq_not, Bool.not_true, Bool.not_false, gt_iff_lt, ge_iff_le, Int.not_lt, Int.not_le] at h3)
    refine wl_no rfl rfl rfl (ltn rfl) ?_
    refine wl_no rfl rfl rfl (ltn rfl) ?_
    refine wl_no rfl rfl rfl (ltn rfl) ?_
    refine wl_val (r_pick_t rfl rfl) (ltn rfl) ?_
    refine wl_val (r_move rfl) (ltn rfl) ?_
    refine wl_no rfl rfl rfl (ltn rfl) ?_
    refine wl_no rfl rfl rfl (ltn rfl) ?_
    refine wl_val (r_pick_t rfl rfl) (ltn rfl) ?_
    refine wl_nil ?_
    refine wq_seq ?_
    refine wc_cond_t rfl ?_
    refine wc_seq ?_
    refine wc_region ?_
    refine wl_eff (e_call (r_call rfl Try.func7 rfl rfl) (live_ret H2)) (ltn rfl) ?_
    rintro _ w3 ⟨rfl, H3⟩
    refine wl_val (r_assign rfl) (ltn rfl) ?_
    refine wl_nil ?_
    refine wq_seq ?_
    refine wc_ret ?_
    refine wq_then_ret ?_
    refine wq_end1 (.inl rfl) Try.results3 rfl ?_
    exact ⟨rfl, H3.base⟩
  · (try simp only [beq_iff_eq, bne_iff_ne, ne_eq, decide_eq_true_eq, decide_eq_false_iff_not, beq_eq_false_iff_ne, bne_eq_false_iff_eq, Bool.not_eq_true', Bool.not_eq_false', Bool.not_eq_eq_eq_not, Bool.not_true, Bool.not_false, gt_iff_lt, ge_iff_le, Int.not_lt, Int.not_le] at h3)
    have hL : L.length ≤ 50 := by have h9 := h3; omega
    refine wl_yes rfl rfl ?_
    refine wl_val (r_move rfl) (ltn rfl) ?_
    refine wl_yes rfl rfl ?_
    refine wl_val (r_lenR (hu _ (H2.right.right)) Try.underlying22 rfl) (ltn rfl) ?_
    refine wl_yes rfl rfl ?_
    refine wl_val (r_gtr rfl rfl) (ltn rfl) ?_
    refine wl_val (r_pick_f rfl rfl) (ltn rfl) ?_
    refine wl_split rfl (ltn rfl) (fun h4 => ?_) (fun h4 => ?_)
    · (try simp only [beq_iff_eq, bne_iff_ne, ne_eq, decide_eq_true_eq, decide_eq_false_iff_not, beq_eq_false_iff_ne, bne_eq_false_iff_eq, Bool.not_eq_true', Bool.not_eq_false', Bool.not_eq_eq_eq_not, Bool.not_true, Bool.not_false, gt_iff_lt, ge_iff_le, Int.not_lt, Int.not_le] at h4)
      refine wl_no rfl rfl rfl (ltn rfl) ?_
      refine wl_no rfl rfl rfl (ltn rfl) ?_
      refine wl_val (r_pick_t rfl rfl) (ltn rfl) ?_
      refine wl_nil ?_
      refine wq_seq ?_
      refine wc_cond_t rfl ?_
      refine wc_seq ?_
      refine wc_region ?_
      refine wl_eff (e_call (r_call rfl Try.func7 rfl rfl) (live_ret H2)) (ltn rfl) ?_
      rintro _ w4 ⟨rfl, H4⟩
      refine wl_val (r_assign rfl) (ltn rfl) ?_
      refine wl_nil ?_
      refine wq_seq ?_
      refine wc_ret ?_
      refine wq_then_ret ?_
      refine wq_end1 (.inl rfl) Try.results3 rfl ?_
      exact ⟨rfl, H4.base⟩
    · (try simp only [beq_iff_eq, bne_iff_ne, ne_eq, decide_eq_true_eq, decide_eq_false_iff_not, beq_eq_false_iff_ne, bne_eq_false_iff_eq, Bool.not_eq_true', Bool.not_eq_false', Bool.not_eq_eq_eq_not, Bool.not_true, Bool.not_false, gt_iff_lt, ge_iff_le, Int.not_lt, Int.not_le] at h4)
      have hM : M.length ≤ 50 := by have h9 := h4; omega
      refine wl_yes rfl rfl ?_
      refine wl_eff (e_call (r_call rfl Try.func7 rfl rfl) (live_ret H2)) (ltn rfl) ?_
      rintro _ w5 ⟨rfl, H5⟩
      refine wl_yes rfl rfl ?_
      refine wl_val (r_not rfl) (ltn rfl) ?_
      refine wl_val (r_pick_f rfl rfl) (ltn rfl) ?_
      refine wl_nil ?_
      refine wq_seq ?_
      refine wc_cond rfl (fun h5 => ?_) (fun h5 => ?_)
      · (try simp only [beq_iff_eq, bne_iff_ne, ne_eq, decide_eq_true_eq, decide_eq_false_iff_not, beq_eq_false_iff_ne, bne_eq_false_iff_eq, Bool.not_eq_true', Bool.not_eq_false', Bool.not_eq_eq_eq_not, Bool.not_true, Bool.not_false, gt_iff_lt, ge_iff_le, Int.not_lt, Int.not_le] at h5)
        
        refine wc_seq ?_
        refine wc_region ?_
        refine wl_eff (e_call (r_call rfl Try.func7 rfl rfl) (live_ret H5)) (ltn rfl) ?_
        rintro _ w6 ⟨rfl, H6⟩
        refine wl_val (r_assign rfl) (ltn rfl) ?_
        refine wl_nil ?_
        refine wq_seq ?_
        refine wc_ret ?_
        refine wq_then_ret ?_
        refine wq_end1 (.inl rfl) Try.results3 rfl ?_
        exact ⟨rfl, H6.base⟩
      · (try simp only [beq_iff_eq, bne_iff_ne, ne_eq, decide_eq_true_eq, decide_eq_false_iff_not, beq_eq_false_iff_ne, bne_eq_false_iff_eq, Bool.not_eq_true', Bool.not_eq_false', Bool.not_eq_eq_eq_not, Bool.not_true, Bool.not_false, gt_iff_lt, ge_iff_le, Int.not_lt, Int.not_le] at h5)
        
        refine wc_skip ?_
        refine wq_seq ?_
        refine wc_seq ?_
        refine wc_seq ?_
        refine wc_region ?_
        refine wl_val (r_move rfl) (ltn rfl) ?_
        refine wl_val (r_lenR (hv _ (H5.right.right)) Try.underlying22 rfl) (ltn rfl) ?_
        refine wl_val (r_move rfl) (ltn rfl) ?_
        refine wl_nil ?_
        refine wq_seq ?_
        refine wc_block ?_
        refine wc_loop [(0, _), (1, _), (7, _), (47, _), (48, _)] (fun (k : Nat) => [(49, .int .i64 (k : Int))]) (fun (k : Nat) W => k ≤ L.length ∧ Holds w W (EdRep e2 (typeL (EdS.new [] 1 5) (L.take k)) • F)) (fun (k : Nat) => L.length - k) (0) (Sub.cons rfl (Sub.cons rfl (Sub.cons rfl (Sub.cons rfl (Sub.cons rfl (Sub.nil _)))))) (Sub.cons rfl (Sub.nil _)) ⟨by omega, H5.f2.right⟩ ?_
        rintro k w7 ⟨hk, HL⟩
        dsimp only [List.cons_append, List.nil_append]
        refine wc_seq ?_
        refine wc_region ?_
        refine wl_val (r_lss rfl rfl) (ltn rfl) ?_
        refine wl_nil ?_
        refine wq_seq ?_
        refine wc_seq ?_
        refine wc_cond rfl (fun h6 => ?_) (fun h6 => ?_)
        · (try simp only [beq_iff_eq, bne_iff_ne, ne_eq, decide_eq_true_eq, decide_eq_false_iff_not, beq_eq_false_iff_ne, bne_eq_false_iff_eq, Bool.not_eq_true', Bool.not_eq_false', Bool.not_eq_eq_eq_not, Bool.not_true, Bool.not_false, gt_iff_lt, ge_iff_le, Int.not_lt, Int.not_le] at h6)
          
          refine wc_skip ?_
          refine wq_seq ?_
          refine wc_seq ?_
          refine wc_block ?_
          refine wc_seq ?_
          have hkl : k < L.length := by omega
          refine wc_region ?_
          obtain ⟨bv, ov, cv, ev⟩ := RdI.posV (hv _ (HL.right)) (by omega)
          cases ev
          refine wl_val (r_index Try.underlying22 Try.sizeOf21 rfl rfl (by omega)) (ltn rfl) ?_
          refine wl_val (r_load (plain_of Try.underlying21 rfl) rfl (by first | exact RdI.at1n (hv _ (HL.right)) (by omega) | exact RdI.at0 (hv _ (HL.right)) (by omega) | exact RdI.at1 (hv _ (HL.right)) (by omega))) (ltn rfl) ?_
          refine wl_val (r_assign rfl) (ltn rfl) ?_
          refine wl_nil ?_
          refine wq_seq ?_
          refine wc_seq ?_
          refine wc_region ?_
          refine wl_val (r_move rfl) (ltn rfl) ?_
          refine wl_eff (e_call (r_call rfl Try.func8 rfl rfl) (ed_begin_ret HL)) (ltn rfl) ?_
          rintro _ w8 ⟨rfl, H8⟩
          refine wl_nil ?_
          refine wq_seq ?_
          refine wc_region ?_
          refine wl_val (r_move rfl) (ltn rfl) ?_
          refine wl_val (r_move rfl) (ltn rfl) ?_
          refine wl_val (r_move rfl) (ltn rfl) ?_
          refine wl_eff (e_lit_ints (k := .i32) (l := [_]) H8 Try.underlying22 Try.sizeOf21 Try.zeroValue21 rfl rfl rfl (by decide)) (ltn rfl) ?_
          rintro l9 w9 H9
          refine wl_eff (e_call (r_call rfl Try.func10 rfl rfl) (ed_type_ret H9.f2 (fun W HW => (HW).row_rd) (by simp))) (ltn rfl) ?_
          rintro _ w10 ⟨rfl, H10⟩
          refine wl_eff (e_call (r_call rfl Try.func9 rfl rfl) (ed_end_ret H10)) (ltn rfl) ?_
          rintro _ w11 ⟨rfl, H11⟩
          refine wl_nil ?_
          refine wq_block_normal ?_
          refine wq_seq ?_
          refine wc_region ?_
          refine wl_val (r_add rfl rfl (by omega)) (ltn rfl) ?_
          refine wl_val (r_move rfl) (ltn rfl) ?_
          refine wl_nil ?_
          refine wq_round (k + 1) ?_ ?_ ?_ ?_
          · exact (Sub.cons rfl (Sub.nil _))
          · exact (Sub.cons rfl (Sub.cons rfl (Sub.cons rfl (Sub.cons rfl (Sub.cons rfl (Sub.nil _))))))
          · (try dsimp only)
            first | done | exact ⟨by omega, by rw [typeL_succ _ _ hkl]; exact H11.f2.right⟩
          · (try dsimp only); omega
        · (try simp only [beq_iff_eq, bne_iff_ne, ne_eq, decide_eq_true_eq, decide_eq_false_iff_not, beq_eq_false_iff_ne, bne_eq_false_iff_eq, Bool.not_eq_true', Bool.not_eq_false', Bool.not_eq_eq_eq_not, Bool.not_true, Bool.not_false, gt_iff_lt, ge_iff_le, Int.not_lt, Int.not_le] at h6)
          
          refine wc_exit ?_
          refine wq_then_exit ?_
          refine wq_then_exit ?_
          refine wq_block_hit ?_
          refine wq_seq ?_
          refine wc_seq ?_
          obtain rfl : k = L.length := by omega
          have HA := HL
          rw [List.take_length] at HA
          refine wc_region ?_
          refine wl_val (r_move rfl) (ltn rfl) ?_
          refine wl_eff (e_call (r_call rfl Try.func8 rfl rfl) (ed_begin_ret HA)) (ltn rfl) ?_
          rintro _ w12 ⟨rfl, H12⟩
          refine wl_nil ?_
          refine wq_seq ?_
          refine wc_seq ?_
          refine wc_region ?_
          refine wl_val (r_move rfl) (ltn rfl) ?_
          refine wl_eff (e_call (r_call rfl Try.func11 rfl rfl) (ed_move_ret H12)) (ltn rfl) ?_
          rintro _ w13 ⟨rfl, H13⟩
          refine wl_nil ?_
          refine wq_seq ?_
          refine wc_seq ?_
          refine wc_region ?_
          refine wl_val (r_move rfl) (ltn rfl) ?_
          refine wl_eff (e_call (r_call rfl Try.func9 rfl rfl) (ed_end_ret H13)) (ltn rfl) ?_
          rintro _ w14 ⟨rfl, H14⟩
          refine wl_nil ?_
          refine wq_seq ?_
          refine wc_seq ?_
          refine wc_seq ?_
          refine wc_region ?_
          refine wl_val (r_move rfl) (ltn rfl) ?_
          refine wl_val (r_lenR (hu _ (H14.right)) Try.underlying22 rfl) (ltn rfl) ?_
          refine wl_val (r_move rfl) (ltn rfl) ?_
          refine wl_nil ?_
          refine wq_seq ?_
          refine wc_block ?_
          refine wc_loop [(0, _), (1, _), (7, _), (68, _), (69, _)] (fun (k2 : Nat) => [(70, .int .i64 (k2 : Int))]) (fun (k2 : Nat) W => k2 ≤ M.length ∧ Holds w W (EdRep e2 (typeL (tyB L) (M.take k2)) • F)) (fun (k2 : Nat) => M.length - k2) (0) (Sub.cons rfl (Sub.cons rfl (Sub.cons rfl (Sub.cons rfl (Sub.cons rfl (Sub.nil _)))))) (Sub.cons rfl (Sub.nil _)) ⟨by omega, H14⟩ ?_
          rintro k2 w15 ⟨hk2, HL2⟩
          dsimp only [List.cons_append, List.nil_append]
          refine wc_seq ?_
          refine wc_region ?_
          refine wl_val (r_lss rfl rfl) (ltn rfl) ?_
          refine wl_nil ?_
          refine wq_seq ?_
          refine wc_seq ?_
          refine wc_cond rfl (fun h7 => ?_) (fun h7 => ?_)
          · (try simp only [beq_iff_eq, bne_iff_ne, ne_eq, decide_eq_true_eq, decide_eq_false_iff_not, beq_eq_false_iff_ne, bne_eq_false_iff_eq, Bool.not_eq_true', Bool.not_eq_false', Bool.not_eq_eq_eq_not, Bool.not_true, Bool.not_false, gt_iff_lt, ge_iff_le, Int.not_lt, Int.not_le] at h7)
            
            refine wc_skip ?_
            refine wq_seq ?_
            refine wc_seq ?_
            refine wc_block ?_
            refine wc_seq ?_
            have hkl2 : k2 < M.length := by omega
            refine wc_region ?_
            obtain ⟨bu, ou, cu, eu⟩ := RdI.posV (hu _ (HL2.right)) (by omega)
            cases eu
            refine wl_val (r_index Try.underlying22 Try.sizeOf21 rfl rfl (by omega)) (ltn rfl) ?_
            refine wl_val (r_load (plain_of Try.underlying21 rfl) rfl (by first | exact RdI.at1n (hu _ (HL2.right)) (by omega) | exact RdI.at0 (hu _ (HL2.right)) (by omega) | exact RdI.at1 (hu _ (HL2.right)) (by omega))) (ltn rfl) ?_
            refine wl_val (r_assign rfl) (ltn rfl) ?_
            refine wl_nil ?_
            refine wq_seq ?_
            refine wc_seq ?_
            refine wc_region ?_
            refine wl_val (r_move rfl) (ltn rfl) ?_
            refine wl_eff (e_call (r_call rfl Try.func8 rfl rfl) (ed_begin_ret HL2)) (ltn rfl) ?_
            rintro _ w16 ⟨rfl, H16⟩
            refine wl_nil ?_
            refine wq_seq ?_
            refine wc_region ?_
            refine wl_val (r_move rfl) (ltn rfl) ?_
            refine wl_val (r_move rfl) (ltn rfl) ?_
            refine wl_val (r_move rfl) (ltn rfl) ?_
            refine wl_eff (e_lit_ints (k := .i32) (l := [_]) H16 Try.underlying22 Try.sizeOf21 Try.zeroValue21 rfl rfl rfl (by decide)) (ltn rfl) ?_
            rintro l17 w17 H17
            refine wl_eff (e_call (r_call rfl Try.func10 rfl rfl) (ed_type_ret H17.f2 (fun W HW => (HW).row_rd) (by simp))) (ltn rfl) ?_
            rintro _ w18 ⟨rfl, H18⟩
            refine wl_eff (e_call (r_call rfl Try.func9 rfl rfl) (ed_end_ret H18)) (ltn rfl) ?_
            rintro _ w19 ⟨rfl, H19⟩
            refine wl_nil ?_
            refine wq_block_normal ?_
            refine wq_seq ?_
            refine wc_region ?_
            refine wl_val (r_add rfl rfl (by omega)) (ltn rfl) ?_
            refine wl_val (r_move rfl) (ltn rfl) ?_
            refine wl_nil ?_
            refine wq_round (k2 + 1) ?_ ?_ ?_ ?_
            · exact (Sub.cons rfl (Sub.nil _))
            · exact (Sub.cons rfl (Sub.cons rfl (Sub.cons rfl (Sub.cons rfl (Sub.cons rfl (Sub.nil _))))))
            · (try dsimp only)
              first | done | exact ⟨by omega, by rw [typeL_succ _ _ hkl2]; exact H19.f2.right⟩
            · (try dsimp only); omega
          · (try simp only [beq_iff_eq, bne_iff_ne, ne_eq, decide_eq_true_eq, decide_eq_false_iff_not, beq_eq_false_iff_ne, bne_eq_false_iff_eq, Bool.not_eq_true', Bool.not_eq_false', Bool.not_eq_eq_eq_not, Bool.not_true, Bool.not_false, gt_iff_lt, ge_iff_le, Int.not_lt, Int.not_le] at h7)
            
            refine wc_exit ?_
            refine wq_then_exit ?_
            refine wq_then_exit ?_
            refine wq_block_hit ?_
            refine wq_seq ?_
            refine wc_seq ?_
            refine wc_seq ?_
            obtain rfl : k2 = M.length := by omega
            have HB := HL2
            rw [List.take_length] at HB
            refine wc_region ?_
            refine wl_val (r_move rfl) (ltn rfl) ?_
            refine wl_eff (e_call (r_call rfl Try.func12 rfl rfl) (clone_ret HB (fun W HW => hu _ (HW.right)) (by omega))) (ltn rfl) ?_
            rintro u20 w20 H20
            refine wl_val (r_move rfl) (ltn rfl) ?_
            refine wl_eff (e_append_ints H20 (hv _ (H20.right.right)) Try.underlying22 (show (Try.prog.info? 21).map (fun i => (i.zero, i.size, i.bytes)) = some (some (.int .i32 0), 1, 4) by kernel_rfl) rfl rfl (by first | omega | (simp only [List.length_append, List.length_nil, List.length_cons]; omega) | (simp; omega)) (by first | omega | (simp only [List.length_append, List.length_nil, List.length_cons]; omega) | (simp; omega))) (ltn rfl) ?_
            rintro l21 w21 H21
            try simp only [List.nil_append] at H21
            refine wl_val (r_assign rfl) (ltn rfl) ?_
            refine wl_nil ?_
            refine wq_seq ?_
            refine wc_seq ?_
            refine wc_region ?_
            refine wl_val (r_move rfl) (ltn rfl) ?_
            refine wl_eff (e_call (r_call rfl Try.func14 rfl rfl) (ed_line_ret H21.f2)) (ltn rfl) ?_
            rintro _ w22 ⟨u22, rfl, H22⟩
            refine wl_val (r_field_val 0 Try.underlying38 rfl rfl (plain_of Try.underlying22 rfl) rfl rfl) (ltn rfl) ?_
            refine wl_val (r_move rfl) (ltn rfl) ?_
            refine wl_eff (e_call (r_call rfl Try.func13 rfl rfl) (equal_ret _ _ _ _ _ ((H22).row_rd) ((H22.f3).row_rd))) (ltn rfl) ?_
            rintro _ w23 ⟨rfl, hD23⟩
            have HD23 := H22.drewn hD23
            refine wl_val (r_not rfl) (ltn rfl) ?_
            refine wl_nil ?_
            refine wq_seq ?_
            refine wc_cond rfl (fun h => by exfalso; (try simp only [beq_iff_eq, bne_iff_ne, ne_eq, decide_eq_true_eq, decide_eq_false_iff_not, beq_eq_false_iff_ne, bne_eq_false_iff_eq, Bool.not_eq_true', Bool.not_eq_false', Bool.not_eq_eq_eq_not, Bool.not_true, Bool.not_false, gt_iff_lt, ge_iff_le, Int.not_lt, Int.not_le] at h); exact h (tyC_out hL hM).L) (fun h8 => ?_)
            (try simp only [beq_iff_eq, bne_iff_ne, ne_eq, decide_eq_true_eq, decide_eq_false_iff_not, beq_eq_false_iff_ne, bne_eq_false_iff_eq, Bool.not_eq_true', Bool.not_eq_false', Bool.not_eq_eq_eq_not, Bool.not_true, Bool.not_false, gt_iff_lt, ge_iff_le, Int.not_lt, Int.not_le] at h8)
            refine wc_skip ?_
            refine wq_seq ?_
            refine wc_seq ?_
            refine wc_seq ?_
            refine wc_region ?_
            refine wl_val (r_move rfl) (ltn rfl) ?_
            refine wl_val (r_move rfl) (ltn rfl) ?_
            refine wl_eff (e_lit_row (vs := [_, _]) HD23 Try.underlying40 Try.sizeOf22 Try.zeroValue22 rfl rfl rfl (by decide) (ones_cons (by first | rfl | exact Rd.one (hu _ (HD23.right.right.right))) (ones_cons (by first | rfl | exact Rd.one (hv _ (HD23.right.right.right))) ones_nil))) (ltn rfl) ?_
            rintro l24 w24 H24
            refine wl_val (r_lenS ((H24).row_rd) Try.underlying40 rfl) (ltn rfl) ?_
            refine wl_val (r_move rfl) (ltn rfl) ?_
            refine wl_nil ?_
            refine wq_seq ?_
            refine wc_block ?_
            refine wc_loop [(7, _), (95, _), (96, _)] (fun (k3 : Nat) => [(97, .int .i64 (k3 : Int))]) (fun (k3 : Nat) W => k3 ≤ 2 ∧ Holds w W (EdRep e2 (unS L M k3) • Row 22 1 l24 2 [u, v] • F)) (fun (k3 : Nat) => 2 - k3) (0) (Sub.cons rfl (Sub.cons rfl (Sub.cons rfl (Sub.nil _)))) (Sub.cons rfl (Sub.nil _)) ⟨by omega, H24.f2.right.f3.right.f2⟩ ?_
            rintro k3 w25 ⟨hk3, HL3⟩
            dsimp only [List.cons_append, List.nil_append]
            refine wc_seq ?_
            refine wc_region ?_
            refine wl_val (r_lss rfl rfl) (ltn rfl) ?_
            refine wl_nil ?_
            refine wq_seq ?_
            refine wc_seq ?_
            refine wc_cond rfl (fun h9 => ?_) (fun h9 => ?_)
            · (try simp only [beq_iff_eq, bne_iff_ne, ne_eq, decide_eq_true_eq, decide_eq_false_iff_not, beq_eq_false_iff_ne, bne_eq_false_iff_eq, Bool.not_eq_true', Bool.not_eq_false', Bool.not_eq_eq_eq_not, Bool.not_true, Bool.not_false, gt_iff_lt, ge_iff_le, Int.not_lt, Int.not_le] at h9)
              
              refine wc_skip ?_
              refine wq_seq ?_
              refine wc_seq ?_
              refine wc_block ?_
              refine wc_seq ?_
              have hk32 : k3 < 2 := by omega
              have fx : FRdI w F .i32 ([u, v].getD k3 undef) ([M, L].getD k3 []) := by
                rcases (show k3 = 0 ∨ k3 = 1 from by omega) with rfl | rfl
                · exact hu
                · exact hv
              have hS100 := un_len hL hM hk32
              have hX50 : ([M, L].getD k3 []).length ≤ 50 := by
                rcases (show k3 = 0 ∨ k3 = 1 from by omega) with rfl | rfl
                · exact hM
                · exact hL
              refine wc_region ?_
              obtain ⟨bl24, ol24, cl24, el24⟩ := Rd.posV ((HL3.f2).row_rd) (by omega)
              cases el24
              refine wl_val (r_index Try.underlying40 Try.sizeOf22 rfl rfl (by omega)) (ltn rfl) ?_
              refine wl_val (r_load (plain_of Try.underlying22 rfl) rfl (by first | exact Rd.at1n ((HL3.f2).row_rd) (by omega) | exact Rd.at0 ((HL3.f2).row_rd) (by omega) | exact Rd.at1 ((HL3.f2).row_rd) (by omega))) (ltn rfl) ?_
              refine wl_val (r_assign rfl) (ltn rfl) ?_
              refine wl_nil ?_
              refine wq_seq ?_
              refine wc_seq ?_
              refine wc_seq ?_
              refine wc_region ?_
              refine wl_val (r_move rfl) (ltn rfl) ?_
              refine wl_val (r_lenR (fx _ (HL3.right.right)) Try.underlying22 rfl) (ltn rfl) ?_
              refine wl_val (r_eql rfl rfl) (ltn rfl) ?_
              refine wl_nil ?_
              refine wq_seq ?_
              refine wc_cond rfl (fun h10 => ?_) (fun h10 => ?_)
              · (try simp only [beq_iff_eq, bne_iff_ne, ne_eq, decide_eq_true_eq, decide_eq_false_iff_not, beq_eq_false_iff_ne, bne_eq_false_iff_eq, Bool.not_eq_true', Bool.not_eq_false', Bool.not_eq_eq_eq_not, Bool.not_true, Bool.not_false, gt_iff_lt, ge_iff_le, Int.not_lt, Int.not_le] at h10)
                have hXe : [M, L].getD k3 [] = [] := List.length_eq_zero_iff.1 (by have h9 := h10; omega)
                refine wc_exit ?_
                refine wq_then_exit ?_
                refine wq_block_hit ?_
                refine wq_seq ?_
                refine wc_region ?_
                refine wl_val (r_add rfl rfl (by omega)) (ltn rfl) ?_
                refine wl_val (r_move rfl) (ltn rfl) ?_
                refine wl_nil ?_
                refine wq_round (k3 + 1) ?_ ?_ ?_ ?_
                · exact (Sub.cons rfl (Sub.nil _))
                · exact (Sub.cons rfl (Sub.cons rfl (Sub.cons rfl (Sub.nil _))))
                · (try dsimp only)
                  first | done | exact ⟨by omega, by first | (rw [show unS L M (k3 + 1) = unS L M k3 from if_pos hXe]; exact HL3.f2.f2) | (rw [show unS L M (k3 + 1) = undone (unS L M k3) from if_neg hXn]; exact HL3.f2.f2)⟩
                · (try dsimp only); omega
              · (try simp only [beq_iff_eq, bne_iff_ne, ne_eq, decide_eq_true_eq, decide_eq_false_iff_not, beq_eq_false_iff_ne, bne_eq_false_iff_eq, Bool.not_eq_true', Bool.not_eq_false', Bool.not_eq_eq_eq_not, Bool.not_true, Bool.not_false, gt_iff_lt, ge_iff_le, Int.not_lt, Int.not_le] at h10)
                have hXn : [M, L].getD k3 [] ≠ [] := fun c => by have h9 := h10; rw [c] at h9; exact h9 rfl
                refine wc_skip ?_
                refine wq_seq ?_
                refine wc_seq ?_
                refine wc_region ?_
                refine wl_val (r_move rfl) (ltn rfl) ?_
                refine wl_eff (e_call (r_call rfl Try.func14 rfl rfl) (ed_line_ret HL3)) (ltn rfl) ?_
                rintro _ w26 ⟨u26, rfl, H26⟩
                refine wl_val (r_field_val 0 Try.underlying38 rfl rfl (plain_of Try.underlying22 rfl) rfl rfl) (ltn rfl) ?_
                refine wl_val (r_lenR ((H26).row_rd) Try.underlying22 rfl) (ltn rfl) ?_
                refine wl_val (r_assign rfl) (ltn rfl) ?_
                refine wl_nil ?_
                refine wq_seq ?_
                refine wc_seq ?_
                refine wc_region ?_
                refine wl_val (r_move rfl) (ltn rfl) ?_
                refine wl_eff (e_call (r_call rfl Try.func8 rfl rfl) (ed_begin_ret H26.f2)) (ltn rfl) ?_
                rintro _ w27 ⟨rfl, H27⟩
                refine wl_nil ?_
                refine wq_seq ?_
                refine wc_seq ?_
                refine wc_region ?_
                refine wl_val (r_move rfl) (ltn rfl) ?_
                refine wl_val (r_move rfl) (ltn rfl) ?_
                refine wl_eff (e_call (r_call rfl Try.func15 rfl rfl) (ed_undo_ret H27)) (ltn rfl) ?_
                rintro _ w28 ⟨rfl, H28⟩
                rw [(un_step hL hM hk32 hXn).1]
                refine wl_eff (e_call (r_call rfl Try.func9 rfl rfl) (ed_end_ret H28)) (ltn rfl) ?_
                rintro _ w29 ⟨rfl, H29⟩
                rw [endE_inn (by rw [undoS_inn]; exact beginS_inn _)]
                refine wl_val (r_neq rfl rfl) (ltn rfl) ?_
                refine wl_split rfl (ltn rfl) (fun h => by exfalso; (try simp only [beq_iff_eq, bne_iff_ne, ne_eq, decide_eq_true_eq, decide_eq_false_iff_not, beq_eq_false_iff_ne, bne_eq_false_iff_eq, Bool.not_eq_true', Bool.not_eq_false', Bool.not_eq_eq_eq_not, Bool.not_true, Bool.not_false, gt_iff_lt, ge_iff_le, Int.not_lt, Int.not_le] at h); simp at h) (fun h11 => ?_)
                (try simp only [beq_iff_eq, bne_iff_ne, ne_eq, decide_eq_true_eq, decide_eq_false_iff_not, beq_eq_false_iff_ne, bne_eq_false_iff_eq, Bool.not_eq_true', Bool.not_eq_false', Bool.not_eq_eq_eq_not, Bool.not_true, Bool.not_false, gt_iff_lt, ge_iff_le, Int.not_lt, Int.not_le] at h11)
                refine wl_yes rfl rfl ?_
                refine wl_val (r_move rfl) (ltn rfl) ?_
                refine wl_yes rfl rfl ?_
                refine wl_eff (e_call (r_call rfl Try.func14 rfl rfl) (ed_line_ret H29)) (ltn rfl) ?_
                rintro _ w30 ⟨u30, rfl, H30⟩
                refine wl_yes rfl rfl ?_
                refine wl_val (r_field_val 0 Try.underlying38 rfl rfl (plain_of Try.underlying22 rfl) rfl rfl) (ltn rfl) ?_
                refine wl_yes rfl rfl ?_
                refine wl_val (r_lenR ((H30).row_rd) Try.underlying22 rfl) (ltn rfl) ?_
                refine wl_yes rfl rfl ?_
                refine wl_val (r_move rfl) (ltn rfl) ?_
                refine wl_yes rfl rfl ?_
                refine wl_val (r_move rfl) (ltn rfl) ?_
                refine wl_yes rfl rfl ?_
                refine wl_val (r_lenR (fx _ (H30.right.right.right.right)) Try.underlying22 rfl) (ltn rfl) ?_
                refine wl_yes rfl rfl ?_
                refine wl_val (r_sub rfl rfl (by omega)) (ltn rfl) ?_
                refine wl_yes rfl rfl ?_
                refine wl_val (r_neq rfl rfl) (ltn rfl) ?_
                refine wl_val (r_pick_f rfl rfl) (ltn rfl) ?_
                refine wl_nil ?_
                refine wq_seq ?_
                refine wc_cond rfl (fun h => by exfalso; (try simp only [beq_iff_eq, bne_iff_ne, ne_eq, decide_eq_true_eq, decide_eq_false_iff_not, beq_eq_false_iff_ne, bne_eq_false_iff_eq, Bool.not_eq_true', Bool.not_eq_false', Bool.not_eq_eq_eq_not, Bool.not_true, Bool.not_false, gt_iff_lt, ge_iff_le, Int.not_lt, Int.not_le] at h); exact h (un_step hL hM hk32 hXn).2) (fun h12 => ?_)
                (try simp only [beq_iff_eq, bne_iff_ne, ne_eq, decide_eq_true_eq, decide_eq_false_iff_not, beq_eq_false_iff_ne, bne_eq_false_iff_eq, Bool.not_eq_true', Bool.not_eq_false', Bool.not_eq_eq_eq_not, Bool.not_true, Bool.not_false, gt_iff_lt, ge_iff_le, Int.not_lt, Int.not_le] at h12)
                refine wc_skip ?_
                refine wq_block_normal ?_
                refine wq_seq ?_
                refine wc_region ?_
                refine wl_val (r_add rfl rfl (by omega)) (ltn rfl) ?_
                refine wl_val (r_move rfl) (ltn rfl) ?_
                refine wl_nil ?_
                refine wq_round (k3 + 1) ?_ ?_ ?_ ?_
                · exact (Sub.cons rfl (Sub.nil _))
                · exact (Sub.cons rfl (Sub.cons rfl (Sub.cons rfl (Sub.nil _))))
                · (try dsimp only)
                  first | done | exact ⟨by omega, by first | (rw [show unS L M (k3 + 1) = unS L M k3 from if_pos hXe]; exact H30.right.f2.right.f2.f2) | (rw [show unS L M (k3 + 1) = undone (unS L M k3) from if_neg hXn]; exact H30.right.f2.right.f2.f2)⟩
                · (try dsimp only); omega
            · (try simp only [beq_iff_eq, bne_iff_ne, ne_eq, decide_eq_true_eq, decide_eq_false_iff_not, beq_eq_false_iff_ne, bne_eq_false_iff_eq, Bool.not_eq_true', Bool.not_eq_false', Bool.not_eq_eq_eq_not, Bool.not_true, Bool.not_false, gt_iff_lt, ge_iff_le, Int.not_lt, Int.not_le] at h9)
              
              refine wc_exit ?_
              refine wq_then_exit ?_
              refine wq_then_exit ?_
              refine wq_block_hit ?_
              refine wq_seq ?_
              refine wc_seq ?_
              obtain rfl : k3 = 2 := by omega
              refine wc_region ?_
              refine wl_val (r_move rfl) (ltn rfl) ?_
              refine wl_eff (e_call (r_call rfl Try.func16 rfl rfl) (ed_state_ret HL3)) (ltn rfl) ?_
              rintro _ w31 ⟨u31, ks31, us31, sv31, rfl, H31⟩
              refine wl_val (r_field_val 14 Try.underlying43 rfl rfl (plain_of Try.underlying3 rfl) rfl rfl) (ltn rfl) ?_
              refine wl_val (r_eql rfl rfl) (ltn rfl) ?_
              refine wl_split rfl (ltn rfl) (fun h13 => ?_) (fun h => by exfalso; (try simp only [beq_iff_eq, bne_iff_ne, ne_eq, decide_eq_true_eq, decide_eq_false_iff_not, beq_eq_false_iff_ne, bne_eq_false_iff_eq, Bool.not_eq_true', Bool.not_eq_false', Bool.not_eq_eq_eq_not, Bool.not_true, Bool.not_false, gt_iff_lt, ge_iff_le, Int.not_lt, Int.not_le] at h); exact h (un_end hL hM).1)
              (try simp only [beq_iff_eq, bne_iff_ne, ne_eq, decide_eq_true_eq, decide_eq_false_iff_not, beq_eq_false_iff_ne, bne_eq_false_iff_eq, Bool.not_eq_true', Bool.not_eq_false', Bool.not_eq_eq_eq_not, Bool.not_true, Bool.not_false, gt_iff_lt, ge_iff_le, Int.not_lt, Int.not_le] at h13)
              refine wl_yes rfl rfl ?_
              refine wl_val (r_move rfl) (ltn rfl) ?_
              refine wl_yes rfl rfl ?_
              refine wl_eff (e_call (r_call rfl Try.func14 rfl rfl) (ed_line_ret H31.f5)) (ltn rfl) ?_
              rintro _ w32 ⟨u32, rfl, H32⟩
              refine wl_yes rfl rfl ?_
              refine wl_val (r_field_val 0 Try.underlying38 rfl rfl (plain_of Try.underlying22 rfl) rfl rfl) (ltn rfl) ?_
              refine wl_yes rfl rfl ?_
              refine wl_val (r_lenR ((H32).row_rd) Try.underlying22 rfl) (ltn rfl) ?_
              refine wl_yes rfl rfl ?_
              refine wl_val (r_known_t (r_eql rfl rfl) (by rw [(un_end hL hM).2]; rfl)) (ltn rfl) ?_
              refine wl_val (r_pick_t rfl rfl) (ltn rfl) ?_
              refine wl_val (r_assign rfl) (ltn rfl) ?_
              refine wl_nil ?_
              refine wq_seq ?_
              refine wc_ret ?_
              refine wq_end1 (.inl rfl) Try.results3 rfl ?_
              exact ⟨rfl, H32.base⟩
end Go.Proofs.Ytgmpclifphbjkaa
end
section
/- EditorTypes: the row. -/
set_option linter.unusedVariables false
namespace Go.Proofs.Ytgmpclifphbjkaa
open Go.ChangeShapes Go.WideShapes Go.ChangeAt Go.RowKit

set_option maxRecDepth 100000 in
theorem editorTypes_lifted (os : Os) (started : os.Started) (H : Type) (enc : TypeId × Value → H) :
    ReturnsInHanded {} Try.checked os 3 .any (Rows.editorTypesSpec.pre6 enc Try.prog Try.f3 Rows.editorTypesRow.domain false) (Rows.editorTypesSpec.post enc Try.prog Try.f3 false true false false) := by
  refine law_lift (C := Try.checked) (tb := 4) _ own laid started (by kernel_rfl) Try.func3 (congrArg Array.toList Try.params3) rfl Try.underlying4 rfl (by kernel_rfl) (fun ds hd => ?_)
    (ChangeSpec.witness6 (enc := enc) (C := Try.checked) false ⟨#[], #[.slice none 0 0, .slice none 0 0], []⟩ 8 (by kernel_rfl) (by kernel_rfl) (by kernel_rfl) (by kernel_rfl)) ?_
  · obtain ⟨a0, a1, rfl⟩ := len_two hd
    rfl
  intro W args hin
  obtain ⟨v1, v2, rfl, ⟨⟨_, o1⟩, i1⟩, ⟨⟨_, o2⟩, i2⟩⟩ := hin.two
  obtain ⟨a1, n1, c1, rfl⟩ := okWide_slice Try.underlying22 o1
  obtain ⟨a2, n2, c2, rfl⟩ := okWide_slice Try.underlying22 o2
  obtain ⟨_, l, e1, g1, bl, -⟩ := i1.ints Try.underlying22 Try.underlying21 (by kernel_rfl)
  obtain rfl := List.singleton_inj.1 e1
  obtain ⟨_, m, e2, g2, bm, -⟩ := i2.ints Try.underlying22 Try.underlying21 (by kernel_rfl)
  obtain rfl := List.singleton_inj.1 e2
  rw [show Try.prog.bytesOf 21 = 4 from by kernel_rfl, show reachBytes = 140737488351232 from rfl] at bl bm
  exact editor_types g1 g2 (by omega) (by omega)

theorem editorTypes_proved : Rows.EditorTypesSaid :=
  OpenClaim.holds_of_wide 3 Try.f3 rfl rfl rfl rfl rfl rfl rfl ⟨rfl, rfl, rfl, rfl, rfl⟩ rfl rfl rfl rfl rfl (by kernel_rfl) Try.func3 (by kernel_rfl)
    (of_decide_eq_true (by kernel_rfl)) (by unfold Func.isWrapper; first | (rw [if_pos (by decide +kernel)]; kernel_rfl) | (rw [if_neg (by decide +kernel)]; exact ⟨rfl, rfl⟩))
    (fun os started H enc _ => editorTypes_lifted os started H enc)
end Go.Proofs.Ytgmpclifphbjkaa
end
