import Derived.Test.YtgmpclifphbjkaaZ26
import Derived.Test.YtgmpclifphbjkaaZ15
import Derived.Test.YtgmpclifphbjkaaZ2
import Derived.Test.YtgmpclifphbjkaaZ19
import Derived.Test.YtgmpclifphbjkaaRows
import Derived.Test.YtgmpclifphbjkaaZ11
/- Texts of mine, joined: ELive FieldVal LawEKills HasEKills. -/
section
/- Editors: live. -/
set_option linter.unusedSimpArgs false
set_option linter.unusedVariables false
namespace Go.Proofs.Ytgmpclifphbjkaa
open Go.RowKit
theorem new_out (hl : List HLn) (base most : Int) : Out (EdS.new hl base most) [] 0 [] false := ⟨rfl, rfl, rfl, rfl, rfl, rfl⟩
/-- What the first living case comes to. -/
def liveS : EdS := ((EdS.new [] 1 10).beginS.typeS [97]).endS 0
theorem live_L : liveS.c.L = [97] := by rfl
theorem live_text : (utf8 liveS.c.L).toList = (ByteArray.mk #[97]).toList := by rw [live_L]; exact congrArg ByteArray.toList (by rfl)
theorem live_undoes : liveS.undoes = 1 := by rfl
theorem live_arg : liveS.arg = -1 := by rfl
theorem live_last : liveS.lastS = 3 := by rfl
section
variable {w0 w : World} {F : HP}
theorem live_ret (H : Holds w0 w F) : Ret Try.prog 7 #[] w fun v w' => v = .bool true ∧ Holds w0 w' F := by
  refine ret_enter Try.func7 rfl Try.ntmps7 (Nat.le_of_ble_eq_true rfl) ?_
  dsimp only [slots0, Nat.reduceAdd]
  refine wc_seq ?_
  refine wc_region ?_
  refine wl_val (r_assign rfl) (ltn rfl) ?_
  refine wl_nil ?_
  refine wq_seq ?_
  refine wc_seq ?_
  refine wc_region ?_
  refine wl_eff (e_call (r_call rfl Try.func5 rfl rfl) (hist_new_ret H (by omega))) (ltn rfl) ?_
  rintro _ w1 ⟨p1, rfl, H1⟩
  refine wl_val (r_move rfl) (ltn rfl) ?_
  refine wl_val (r_extract rfl rfl) (ltn rfl) ?_
  refine wl_val (r_extract rfl rfl) (ltn rfl) ?_
  refine wl_val (r_assign rfl) (ltn rfl) ?_
  refine wl_val (r_assign rfl) (ltn rfl) ?_
  refine wl_nil ?_
  refine wq_seq ?_
  refine wc_seq ?_
  refine wc_region ?_
  refine wl_val (r_move rfl) (ltn rfl) ?_
  refine wl_eff (e_call (r_call rfl Try.func6 rfl rfl) (ed_new_ret H1)) (ltn rfl) ?_
  rintro _ w2 ⟨e2, rfl, H2⟩
  refine wl_val (r_move rfl) (ltn rfl) ?_
  refine wl_val (r_extract rfl rfl) (ltn rfl) ?_
  refine wl_val (r_extract rfl rfl) (ltn rfl) ?_
  refine wl_val (r_assign rfl) (ltn rfl) ?_
  refine wl_val (r_assign rfl) (ltn rfl) ?_
  refine wl_nil ?_
  refine wq_seq ?_
  refine wc_seq ?_
  refine wc_seq ?_
  refine wc_region ?_
  refine wl_val (r_move rfl) (ltn rfl) ?_
  refine wl_val (r_neq rfl rfl) (ltn rfl) ?_
  refine wl_split rfl (ltn rfl) (fun h => by exfalso; (try simp only [cmpS] at h); simp at h) (fun h1 => ?_)
  (try simp only [cmpS] at h1)
  refine wl_yes rfl rfl ?_
  refine wl_val (r_move rfl) (ltn rfl) ?_
  refine wl_yes rfl rfl ?_
  refine wl_val (r_neq rfl rfl) (ltn rfl) ?_
  refine wl_val (r_pick_f rfl rfl) (ltn rfl) ?_
  refine wl_split rfl (ltn rfl) (fun h => by exfalso; (try simp only [cmpS] at h); simp at h) (fun h2 => ?_)
  (try simp only [cmpS] at h2)
  refine wl_yes rfl rfl ?_
  refine wl_val (r_move rfl) (ltn rfl) ?_
  refine wl_yes rfl rfl ?_
  refine wl_val (r_ptr_nil Try.underlying27 rfl rfl) (ltn rfl) ?_
  refine wl_val (r_pick_f rfl rfl) (ltn rfl) ?_
  refine wl_nil ?_
  refine wq_seq ?_
  refine wc_cond rfl (fun h => by exfalso; (try simp only [cmpS] at h); simp at h) (fun h3 => ?_)
  (try simp only [cmpS] at h3)
  refine wc_skip ?_
  refine wq_seq ?_
  refine wc_seq ?_
  refine wc_region ?_
  refine wl_val (r_move rfl) (ltn rfl) ?_
  refine wl_eff (e_call (r_call rfl Try.func8 rfl rfl) (ed_begin_ret H2)) (ltn rfl) ?_
  rintro _ w3 ⟨rfl, H3⟩
  refine wl_nil ?_
  refine wq_seq ?_
  refine wc_seq ?_
  refine wc_region ?_
  refine wl_val (r_move rfl) (ltn rfl) ?_
  refine wl_eff (e_lit_ints (k := .i32) (l := [97]) H3 Try.underlying22 Try.sizeOf21 Try.zeroValue21 rfl rfl rfl (by decide)) (ltn rfl) ?_
  rintro l4 w4 H4
  refine wl_eff (e_call (r_call rfl Try.func10 rfl rfl) (ed_type_ret H4.f2 (fun W HW => (HW).row_rd) (by simp))) (ltn rfl) ?_
  rintro _ w5 ⟨rfl, H5⟩
  refine wl_nil ?_
  refine wq_seq ?_
  refine wc_seq ?_
  refine wc_region ?_
  refine wl_val (r_move rfl) (ltn rfl) ?_
  refine wl_eff (e_call (r_call rfl Try.func9 rfl rfl) (ed_end_ret H5)) (ltn rfl) ?_
  rintro _ w6 ⟨rfl, H6⟩
  refine wl_nil ?_
  refine wq_seq ?_
  refine wc_seq ?_
  refine wc_region ?_
  refine wl_val (r_move rfl) (ltn rfl) ?_
  refine wl_eff (e_call (r_call rfl Try.func16 rfl rfl) (ed_state_ret H6)) (ltn rfl) ?_
  rintro _ w7 ⟨u7, ks7, us7, sv7, rfl, H7⟩
  refine wl_eff (e_allocL (l := [_, _, _, _, _, _, _, _, _, _, _, _, _, _, _, _, _]) H7 Try.zeroValue43 rfl) (ltn rfl) ?_
  rintro _ w8 ⟨b8, rfl, H8⟩
  refine wl_eff0 (e_storePL 0 (l' := [_, _, _, _, _, _, _, _, _, _, _, _, _, _, _, _, _]) (us := [_, _, _, _, _, _, _, _, _, _, _, _, _, _, _, _, _]) H8 Try.sizeOf43 rfl rfl rfl (ones_cons (by first | rfl | exact Rd.one ((H8.f2).row_rd)) (ones_cons (by first | rfl | assumption) (ones_cons (by first | rfl | assumption) (ones_cons (by first | rfl | assumption) (ones_cons (by first | rfl | assumption) (ones_cons (by first | rfl | assumption) (ones_cons (by first | rfl | assumption) (ones_cons (by first | rfl | assumption) (ones_cons (by first | rfl | assumption) (ones_cons (by first | rfl | assumption) (ones_cons (by first | rfl | assumption) (ones_cons (by first | rfl | exact Rd.one ((H8.f3).row_rd)) (ones_cons (by first | rfl | assumption) (ones_cons (by first | rfl | exact Rd.one ((H8.f5).row_rd)) (ones_cons (by first | rfl | assumption) (ones_cons (by first | rfl | assumption) (ones_cons (by first | rfl | assumption) ones_nil))))))))))))))))) rfl rfl) ?_
  rintro _ w9 H9
  refine wl_nil ?_
  refine wq_seq ?_
  refine wc_seq ?_
  refine wc_region ?_
  refine wl_val (r_fieldA 0 Try.underlying43 rfl rfl Try.sizeOf38 (by decide) rfl (by first | exact Nat.zero_add _ | rfl)) (ltn rfl) ?_
  refine wl_val (r_fieldA 0 Try.underlying38 rfl rfl Try.sizeOf22 (by decide) rfl (by first | exact Nat.zero_add _ | rfl)) (ltn rfl) ?_
  refine wl_val (r_load (plain_of Try.underlying22 rfl) rfl (cell_of_blk (H9).get.2 rfl)) (ltn rfl) ?_
  refine wl_val (r_runes_str Try.underlying22 Try.underlying9 Try.underlying21 rfl ((H9.f2).row_rd)) (ltn rfl) ?_
  refine wl_val (r_str_eql rfl rfl) (ltn rfl) ?_
  refine wl_split rfl (ltn rfl) (fun h4 => ?_) (fun h => by exfalso; (try simp only [cmpS] at h); exact h live_text)
  (try simp only [cmpS] at h4)
  refine wl_yes rfl rfl ?_
  refine wl_val (r_fieldA 14 Try.underlying43 rfl rfl Try.sizeOf3 (by decide) rfl (by first | exact Nat.zero_add _ | rfl)) (ltn rfl) ?_
  refine wl_yes rfl rfl ?_
  refine wl_val (r_load (plain_of Try.underlying3 rfl) rfl (cell_of_blk (H9).get.2 rfl)) (ltn rfl) ?_
  refine wl_yes rfl rfl ?_
  refine wl_val (r_eql rfl rfl) (ltn rfl) ?_
  refine wl_val (r_pick_t rfl rfl) (ltn rfl) ?_
  refine wl_split rfl (ltn rfl) (fun h5 => ?_) (fun h => by exfalso; (try simp only [cmpS] at h); exact h live_undoes)
  (try simp only [cmpS] at h5)
  refine wl_yes rfl rfl ?_
  refine wl_val (r_fieldA 7 Try.underlying43 rfl rfl Try.sizeOf3 (by decide) rfl (by first | exact Nat.zero_add _ | rfl)) (ltn rfl) ?_
  refine wl_yes rfl rfl ?_
  refine wl_val (r_load (plain_of Try.underlying3 rfl) rfl (cell_of_blk (H9).get.2 rfl)) (ltn rfl) ?_
  refine wl_yes rfl rfl ?_
  refine wl_val (r_eql rfl rfl) (ltn rfl) ?_
  refine wl_val (r_pick_t rfl rfl) (ltn rfl) ?_
  refine wl_split rfl (ltn rfl) (fun h6 => ?_) (fun h => by exfalso; (try simp only [cmpS] at h); exact h live_arg)
  (try simp only [cmpS] at h6)
  refine wl_yes rfl rfl ?_
  refine wl_val (r_fieldA 8 Try.underlying43 rfl rfl Try.sizeOf3 (by decide) rfl (by first | exact Nat.zero_add _ | rfl)) (ltn rfl) ?_
  refine wl_yes rfl rfl ?_
  refine wl_val (r_load (plain_of Try.underlying3 rfl) rfl (cell_of_blk (H9).get.2 rfl)) (ltn rfl) ?_
  refine wl_yes rfl rfl ?_
  refine wl_val (r_known_t (r_eql rfl rfl) (by exact decide_eq_true live_last)) (ltn rfl) ?_
  refine wl_val (r_pick_t rfl rfl) (ltn rfl) ?_
  refine wl_val (r_assign rfl) (ltn rfl) ?_
  refine wl_nil ?_
  refine wq_seq ?_
  refine wc_ret ?_
  refine wq_end1 (.inl rfl) Try.results7 rfl ?_
  exact ⟨rfl, H9.right.right.right.right.right.right.right.right⟩
end
end Go.Proofs.Ytgmpclifphbjkaa
end
section
/- A field of a struct in hand. -/
set_option linter.unusedSimpArgs false
set_option linter.unusedVariables false
namespace Go.Proofs.Ytgmpclifphbjkaa
open Go.RowKit
theorem r_field_val {P : Program} {L : List (Nat × Value)} {w : World} {ty t : TypeId} {fs : Array Field} {f : Field} {i : Nat} {x : Operand} {cs : Array Value} {u : Value} (off : Nat) (ht : P.underlying t = some (.struct fs)) (hf : fs[i]? = some f) (ho : f.offset = off) (hp : plainTy P f.type = true) (hx : ev L x = some (.agg cs)) (hc : cs[off]? = some u) :
    Val P L (.field t x i) ty w u w := fun ρ hρ _ _ _ _ => by
  simp [execOp, hρ _ _ hx, Instr.field, run_underlying ht, hf, part, asAgg, run_isAgg_no hp, ho, hc]
end Go.Proofs.Ytgmpclifphbjkaa
end
section
/- EditorKills, walked. -/
set_option linter.unusedSimpArgs false
set_option linter.unusedVariables false
namespace Go.Proofs.Ytgmpclifphbjkaa
open Go.RowKit
section
variable {P : Program} {L : List (Nat × Value)} {w : World} {x : Operand} {ty t : TypeId}
theorem r_negK {n : Int} (hx : ev L x = some (.int .i64 n)) : Val P L (.unOp .neg t x) ty w (.int .i64 (IntKind.i64.wrap (0 - n))) w := fun ρ hρ _ _ _ _ => by
  simp only [execOp, hρ _ _ hx, Op.unary, Op.intArith]; rfl
end
theorem startE_new {l : List Int} : (EdS.new [] 1 5).startE l = if 1024 < l.length then 3 else 0 := rfl
theorem kout_start {L : List Int} {a : Int} (hA : L.length ≤ 1024) (h : 0 ≤ a ∧ a ≤ L.length) : KOut ((((EdS.new [] 1 5).startS [] 1 5 L).beginS.moveS a).endS 0) L a a := by
  have e : (EdS.new [] 1 5).startS [] 1 5 L = (EdS.new [] 1 5).start [] 1 5 L := by unfold EdS.startS; rw [if_pos (by rw [startE_new, if_neg (by omega)])]
  rw [e]
  have hi := beginS_inn ((EdS.new [] 1 5).start [] 1 5 L)
  have hm : (((EdS.new [] 1 5).start [] 1 5 L).beginS.moveS a) = ((EdS.new [] 1 5).start [] 1 5 L).beginS.setBuf L a (-1) := by
    unfold EdS.moveS
    rw [if_pos hi, begin_c]
    show EdS.setBuf _ L (mvP L.length L.length a) (-1) = _
    unfold mvP; rw [if_pos h]
  rw [hm]
  have hi2 : (((EdS.new [] 1 5).start [] 1 5 L).beginS.setBuf L a (-1)).inn = true := hi
  refine ⟨end0_inn _ hi2, by omega, (end0_L _ hi2).trans (by show L = _; rw [List.take_append_drop]), end0_pt _ hi2, .inl ⟨(end0_E _ hi2).trans ?_, rfl⟩⟩
  show ((EdS.new [] 1 5).start [] 1 5 L).beginS.c.E = []
  rw [begin_c]; rfl
theorem editor_kills {w : World} {v u : Value} {L ns : List Int} {at_ : Int} (g1 : RdI w .i32 v L) (g2 : RdI w .i64 u ns) (b1 : L.length ≤ 35184372087808) (b2 : ns.length ≤ 35184372087808) :
    Ret Try.prog 4 #[v, .int .i64 at_, u] w fun v w' => v = .bool true ∧ Below w.heap.size w w' := by
  obtain ⟨F, H⟩ : ∃ F, Holds w w F := ⟨_, Holds.start w⟩
  have hv : FRdI w F .i32 v L := FRdI.of_start g1 F
  have hu : FRdI w F .i64 u ns := FRdI.of_start g2 F
  refine ret_enter Try.func4 rfl Try.ntmps4 (Nat.le_of_ble_eq_true rfl) ?_
  dsimp only [slots0, Nat.reduceAdd]
  refine wc_seq ?_
  refine wc_region ?_
  refine wl_val (r_assign rfl) (ltn rfl) ?_
  refine wl_nil ?_
  refine wq_seq ?_
  refine wc_seq ?_
  refine wc_region ?_
  refine wl_eff (e_call (r_call rfl Try.func5 rfl rfl) (hist_new_ret H (by omega))) (ltn rfl) ?_
  rintro _ w1 ⟨p1, rfl, H1⟩
  refine wl_val (r_move rfl) (ltn rfl) ?_
  refine wl_val (r_extract rfl rfl) (ltn rfl) ?_
  refine wl_val (r_extract rfl rfl) (ltn rfl) ?_
  refine wl_val (r_assign rfl) (ltn rfl) ?_
  refine wl_val (r_assign rfl) (ltn rfl) ?_
  refine wl_nil ?_
  refine wq_seq ?_
  refine wc_seq ?_
  refine wc_region ?_
  refine wl_val (r_move rfl) (ltn rfl) ?_
  refine wl_eff (e_call (r_call rfl Try.func6 rfl rfl) (ed_new_ret H1)) (ltn rfl) ?_
  rintro _ w2 ⟨e2, rfl, H2⟩
  refine wl_val (r_move rfl) (ltn rfl) ?_
  refine wl_val (r_extract rfl rfl) (ltn rfl) ?_
  refine wl_val (r_extract rfl rfl) (ltn rfl) ?_
  refine wl_val (r_assign rfl) (ltn rfl) ?_
  refine wl_val (r_assign rfl) (ltn rfl) ?_
  refine wl_nil ?_
  refine wq_seq ?_
  refine wc_seq ?_
  refine wc_seq ?_
  refine wc_region ?_
  refine wl_val (r_move rfl) (ltn rfl) ?_
  refine wl_val (r_neq rfl rfl) (ltn rfl) ?_
  refine wl_split rfl (ltn rfl) (fun h => by exfalso; (try simp only [cmpS] at h); simp at h) (fun h1 => ?_)
  (try simp only [cmpS] at h1)
  refine wl_yes rfl rfl ?_
  refine wl_val (r_move rfl) (ltn rfl) ?_
  refine wl_yes rfl rfl ?_
  refine wl_val (r_neq rfl rfl) (ltn rfl) ?_
  refine wl_val (r_pick_f rfl rfl) (ltn rfl) ?_
  refine wl_split rfl (ltn rfl) (fun h => by exfalso; (try simp only [cmpS] at h); simp at h) (fun h2 => ?_)
  (try simp only [cmpS] at h2)
  refine wl_yes rfl rfl ?_
  refine wl_eff (e_call (r_call rfl Try.func7 rfl rfl) (live_ret H2)) (ltn rfl) ?_
  rintro _ w3 ⟨rfl, H3⟩
  refine wl_yes rfl rfl ?_
  refine wl_val (r_not rfl) (ltn rfl) ?_
  refine wl_val (r_pick_f rfl rfl) (ltn rfl) ?_
  refine wl_nil ?_
  refine wq_seq ?_
  refine wc_cond rfl (fun h => by exfalso; (try simp only [cmpS] at h); simp at h) (fun h3 => ?_)
  (try simp only [cmpS] at h3)
  refine wc_skip ?_
  refine wq_seq ?_
  refine wc_seq ?_
  refine wc_seq ?_
  refine wc_region ?_
  refine wl_val (r_move rfl) (ltn rfl) ?_
  refine wl_val (r_move rfl) (ltn rfl) ?_
  refine wl_val (r_move rfl) (ltn rfl) ?_
  refine wl_eff (e_call (r_call rfl Try.func17 rfl rfl) (ed_start_ret H3.f2.f2 (fun W HW => hv _ (HW)))) (ltn rfl) ?_
  rintro _ w4 ⟨rfl, H4⟩
  refine wl_val (r_neq rfl rfl) (ltn rfl) ?_
  refine wl_split rfl (ltn rfl) (fun h4 => ?_) (fun h4 => ?_)
  · (try simp only [cmpS] at h4)
    have hbig : 1024 < L.length := by have h9 := h4; rw [startE_new] at h9; exact Decidable.byContradiction fun c => by rw [if_neg c] at h9; exact h9 rfl
    refine wl_no rfl rfl rfl (ltn rfl) ?_
    refine wl_no rfl rfl rfl (ltn rfl) ?_
    refine wl_val (r_pick_t rfl rfl) (ltn rfl) ?_
    refine wl_val (r_move rfl) (ltn rfl) ?_
    refine wl_no rfl rfl rfl (ltn rfl) ?_
    refine wl_no rfl rfl rfl (ltn rfl) ?_
    refine wl_no rfl rfl rfl (ltn rfl) ?_
    refine wl_no rfl rfl rfl (ltn rfl) ?_
    refine wl_val (r_pick_t rfl rfl) (ltn rfl) ?_
    refine wl_nil ?_
    refine wq_seq ?_
    refine wc_cond_t rfl ?_
    refine wc_seq ?_
    refine wc_region ?_
    refine wl_val (r_move rfl) (ltn rfl) ?_
    refine wl_val (r_lenR (hv _ (H4.right.right)) Try.underlying22 rfl) (ltn rfl) ?_
    refine wl_val (r_gtr rfl rfl) (ltn rfl) ?_
    refine wl_split rfl (ltn rfl) (fun h5 => ?_) (fun h5 => ?_)
    · (try simp only [cmpS] at h5)
      refine wl_no rfl rfl rfl (ltn rfl) ?_
      refine wl_no rfl rfl rfl (ltn rfl) ?_
      refine wl_val (r_pick_t rfl rfl) (ltn rfl) ?_
      refine wl_val (r_move rfl) (ltn rfl) ?_
      refine wl_no rfl rfl rfl (ltn rfl) ?_
      refine wl_no rfl rfl rfl (ltn rfl) ?_
      refine wl_no rfl rfl rfl (ltn rfl) ?_
      refine wl_no rfl rfl rfl (ltn rfl) ?_
      refine wl_val (r_pick_t rfl rfl) (ltn rfl) ?_
      refine wl_val (r_assign rfl) (ltn rfl) ?_
      refine wl_nil ?_
      refine wq_seq ?_
      refine wc_ret ?_
      refine wq_then_ret ?_
      refine wq_end1 (.inl rfl) Try.results4 rfl ?_
      first | exact ⟨rfl, H4.base⟩ | (exfalso; omega) | exact ⟨by simp; omega, H4.base⟩
    · (try simp only [cmpS] at h5)
      refine wl_yes rfl rfl ?_
      refine wl_val (r_move rfl) (ltn rfl) ?_
      refine wl_yes rfl rfl ?_
      refine wl_val (r_lss rfl rfl) (ltn rfl) ?_
      refine wl_val (r_pick_f rfl rfl) (ltn rfl) ?_
      refine wl_split rfl (ltn rfl) (fun h6 => ?_) (fun h6 => ?_)
      · (try simp only [cmpS] at h6)
        refine wl_no rfl rfl rfl (ltn rfl) ?_
        refine wl_no rfl rfl rfl (ltn rfl) ?_
        refine wl_no rfl rfl rfl (ltn rfl) ?_
        refine wl_no rfl rfl rfl (ltn rfl) ?_
        refine wl_val (r_pick_t rfl rfl) (ltn rfl) ?_
        refine wl_val (r_assign rfl) (ltn rfl) ?_
        refine wl_nil ?_
        refine wq_seq ?_
        refine wc_ret ?_
        refine wq_then_ret ?_
        refine wq_end1 (.inl rfl) Try.results4 rfl ?_
        first | exact ⟨rfl, H4.base⟩ | (exfalso; omega) | exact ⟨by simp; omega, H4.base⟩
      · (try simp only [cmpS] at h6)
        refine wl_yes rfl rfl ?_
        refine wl_val (r_move rfl) (ltn rfl) ?_
        refine wl_yes rfl rfl ?_
        refine wl_val (r_move rfl) (ltn rfl) ?_
        refine wl_yes rfl rfl ?_
        refine wl_val (r_lenR (hv _ (H4.right.right)) Try.underlying22 rfl) (ltn rfl) ?_
        refine wl_yes rfl rfl ?_
        refine wl_val (r_gtr rfl rfl) (ltn rfl) ?_
        refine wl_val (r_pick_f rfl rfl) (ltn rfl) ?_
        refine wl_val (r_assign rfl) (ltn rfl) ?_
        refine wl_nil ?_
        refine wq_seq ?_
        refine wc_ret ?_
        refine wq_then_ret ?_
        refine wq_end1 (.inl rfl) Try.results4 rfl ?_
        first | exact ⟨rfl, H4.base⟩ | (exfalso; omega) | exact ⟨by simp; omega, H4.base⟩
  · (try simp only [cmpS] at h4)
    have hsh : L.length ≤ 1024 := by have h9 := h4; rw [startE_new] at h9; exact Decidable.byContradiction fun c => by rw [if_pos (by omega)] at h9; simp at h9
    refine wl_yes rfl rfl ?_
    refine wl_val (r_move rfl) (ltn rfl) ?_
    refine wl_yes rfl rfl ?_
    refine wl_val (r_lss rfl rfl) (ltn rfl) ?_
    refine wl_val (r_pick_f rfl rfl) (ltn rfl) ?_
    refine wl_split rfl (ltn rfl) (fun h7 => ?_) (fun h7 => ?_)
    · (try simp only [cmpS] at h7)
      refine wl_no rfl rfl rfl (ltn rfl) ?_
      refine wl_no rfl rfl rfl (ltn rfl) ?_
      refine wl_no rfl rfl rfl (ltn rfl) ?_
      refine wl_no rfl rfl rfl (ltn rfl) ?_
      refine wl_val (r_pick_t rfl rfl) (ltn rfl) ?_
      refine wl_nil ?_
      refine wq_seq ?_
      refine wc_cond_t rfl ?_
      refine wc_seq ?_
      refine wc_region ?_
      refine wl_val (r_move rfl) (ltn rfl) ?_
      refine wl_val (r_lenR (hv _ (H4.right.right)) Try.underlying22 rfl) (ltn rfl) ?_
      refine wl_val (r_gtr rfl rfl) (ltn rfl) ?_
      refine wl_split rfl (ltn rfl) (fun h8 => ?_) (fun h8 => ?_)
      · (try simp only [cmpS] at h8)
        refine wl_no rfl rfl rfl (ltn rfl) ?_
        refine wl_no rfl rfl rfl (ltn rfl) ?_
        refine wl_val (r_pick_t rfl rfl) (ltn rfl) ?_
        refine wl_val (r_move rfl) (ltn rfl) ?_
        refine wl_no rfl rfl rfl (ltn rfl) ?_
        refine wl_no rfl rfl rfl (ltn rfl) ?_
        refine wl_no rfl rfl rfl (ltn rfl) ?_
        refine wl_no rfl rfl rfl (ltn rfl) ?_
        refine wl_val (r_pick_t rfl rfl) (ltn rfl) ?_
        refine wl_val (r_assign rfl) (ltn rfl) ?_
        refine wl_nil ?_
        refine wq_seq ?_
        refine wc_ret ?_
        refine wq_then_ret ?_
        refine wq_end1 (.inl rfl) Try.results4 rfl ?_
        first | exact ⟨rfl, H4.base⟩ | (exfalso; omega) | exact ⟨by simp; omega, H4.base⟩
      · (try simp only [cmpS] at h8)
        refine wl_yes rfl rfl ?_
        refine wl_val (r_move rfl) (ltn rfl) ?_
        refine wl_yes rfl rfl ?_
        refine wl_val (r_lss rfl rfl) (ltn rfl) ?_
        refine wl_val (r_pick_f rfl rfl) (ltn rfl) ?_
        refine wl_split rfl (ltn rfl) (fun h9 => ?_) (fun h9 => ?_)
        · (try simp only [cmpS] at h9)
          refine wl_no rfl rfl rfl (ltn rfl) ?_
          refine wl_no rfl rfl rfl (ltn rfl) ?_
          refine wl_no rfl rfl rfl (ltn rfl) ?_
          refine wl_no rfl rfl rfl (ltn rfl) ?_
          refine wl_val (r_pick_t rfl rfl) (ltn rfl) ?_
          refine wl_val (r_assign rfl) (ltn rfl) ?_
          refine wl_nil ?_
          refine wq_seq ?_
          refine wc_ret ?_
          refine wq_then_ret ?_
          refine wq_end1 (.inl rfl) Try.results4 rfl ?_
          first | exact ⟨rfl, H4.base⟩ | (exfalso; omega) | exact ⟨by simp; omega, H4.base⟩
        · (try simp only [cmpS] at h9)
          refine wl_yes rfl rfl ?_
          refine wl_val (r_move rfl) (ltn rfl) ?_
          refine wl_yes rfl rfl ?_
          refine wl_val (r_move rfl) (ltn rfl) ?_
          refine wl_yes rfl rfl ?_
          refine wl_val (r_lenR (hv _ (H4.right.right)) Try.underlying22 rfl) (ltn rfl) ?_
          refine wl_yes rfl rfl ?_
          refine wl_val (r_gtr rfl rfl) (ltn rfl) ?_
          refine wl_val (r_pick_f rfl rfl) (ltn rfl) ?_
          refine wl_val (r_assign rfl) (ltn rfl) ?_
          refine wl_nil ?_
          refine wq_seq ?_
          refine wc_ret ?_
          refine wq_then_ret ?_
          refine wq_end1 (.inl rfl) Try.results4 rfl ?_
          first | exact ⟨rfl, H4.base⟩ | (exfalso; omega) | exact ⟨by simp; omega, H4.base⟩
    · (try simp only [cmpS] at h7)
      refine wl_yes rfl rfl ?_
      refine wl_val (r_move rfl) (ltn rfl) ?_
      refine wl_yes rfl rfl ?_
      refine wl_val (r_move rfl) (ltn rfl) ?_
      refine wl_yes rfl rfl ?_
      refine wl_val (r_lenR (hv _ (H4.right.right)) Try.underlying22 rfl) (ltn rfl) ?_
      refine wl_yes rfl rfl ?_
      refine wl_val (r_gtr rfl rfl) (ltn rfl) ?_
      refine wl_val (r_pick_f rfl rfl) (ltn rfl) ?_
      refine wl_nil ?_
      refine wq_seq ?_
      refine wc_cond rfl (fun h10 => ?_) (fun h10 => ?_)
      · (try simp only [cmpS] at h10)
        
        refine wc_seq ?_
        refine wc_region ?_
        refine wl_val (r_move rfl) (ltn rfl) ?_
        refine wl_val (r_lenR (hv _ (H4.right.right)) Try.underlying22 rfl) (ltn rfl) ?_
        refine wl_val (r_gtr rfl rfl) (ltn rfl) ?_
        refine wl_split rfl (ltn rfl) (fun h11 => ?_) (fun h11 => ?_)
        · (try simp only [cmpS] at h11)
          refine wl_no rfl rfl rfl (ltn rfl) ?_
          refine wl_no rfl rfl rfl (ltn rfl) ?_
          refine wl_val (r_pick_t rfl rfl) (ltn rfl) ?_
          refine wl_val (r_move rfl) (ltn rfl) ?_
          refine wl_no rfl rfl rfl (ltn rfl) ?_
          refine wl_no rfl rfl rfl (ltn rfl) ?_
          refine wl_no rfl rfl rfl (ltn rfl) ?_
          refine wl_no rfl rfl rfl (ltn rfl) ?_
          refine wl_val (r_pick_t rfl rfl) (ltn rfl) ?_
          refine wl_val (r_assign rfl) (ltn rfl) ?_
          refine wl_nil ?_
          refine wq_seq ?_
          refine wc_ret ?_
          refine wq_then_ret ?_
          refine wq_end1 (.inl rfl) Try.results4 rfl ?_
          first | exact ⟨rfl, H4.base⟩ | (exfalso; omega) | exact ⟨by simp; omega, H4.base⟩
        · (try simp only [cmpS] at h11)
          refine wl_yes rfl rfl ?_
          refine wl_val (r_move rfl) (ltn rfl) ?_
          refine wl_yes rfl rfl ?_
          refine wl_val (r_lss rfl rfl) (ltn rfl) ?_
          refine wl_val (r_pick_f rfl rfl) (ltn rfl) ?_
          refine wl_split rfl (ltn rfl) (fun h12 => ?_) (fun h12 => ?_)
          · (try simp only [cmpS] at h12)
            refine wl_no rfl rfl rfl (ltn rfl) ?_
            refine wl_no rfl rfl rfl (ltn rfl) ?_
            refine wl_no rfl rfl rfl (ltn rfl) ?_
            refine wl_no rfl rfl rfl (ltn rfl) ?_
            refine wl_val (r_pick_t rfl rfl) (ltn rfl) ?_
            refine wl_val (r_assign rfl) (ltn rfl) ?_
            refine wl_nil ?_
            refine wq_seq ?_
            refine wc_ret ?_
            refine wq_then_ret ?_
            refine wq_end1 (.inl rfl) Try.results4 rfl ?_
            first | exact ⟨rfl, H4.base⟩ | (exfalso; omega) | exact ⟨by simp; omega, H4.base⟩
          · (try simp only [cmpS] at h12)
            refine wl_yes rfl rfl ?_
            refine wl_val (r_move rfl) (ltn rfl) ?_
            refine wl_yes rfl rfl ?_
            refine wl_val (r_move rfl) (ltn rfl) ?_
            refine wl_yes rfl rfl ?_
            refine wl_val (r_lenR (hv _ (H4.right.right)) Try.underlying22 rfl) (ltn rfl) ?_
            refine wl_yes rfl rfl ?_
            refine wl_val (r_gtr rfl rfl) (ltn rfl) ?_
            refine wl_val (r_pick_f rfl rfl) (ltn rfl) ?_
            refine wl_val (r_assign rfl) (ltn rfl) ?_
            refine wl_nil ?_
            refine wq_seq ?_
            refine wc_ret ?_
            refine wq_then_ret ?_
            refine wq_end1 (.inl rfl) Try.results4 rfl ?_
            first | exact ⟨rfl, H4.base⟩ | (exfalso; omega) | exact ⟨by simp; omega, H4.base⟩
      · (try simp only [cmpS] at h10)
        have hin : 0 ≤ at_ ∧ at_ ≤ L.length := by have h9 := h10; omega
        refine wc_skip ?_
        refine wq_seq ?_
        refine wc_seq ?_
        refine wc_region ?_
        refine wl_val (r_move rfl) (ltn rfl) ?_
        refine wl_val (r_move rfl) (ltn rfl) ?_
        refine wl_val (r_assign rfl) (ltn rfl) ?_
        refine wl_val (r_assign rfl) (ltn rfl) ?_
        refine wl_nil ?_
        refine wq_seq ?_
        refine wc_seq ?_
        refine wc_region ?_
        refine wl_val (r_move rfl) (ltn rfl) ?_
        refine wl_eff (e_call (r_call rfl Try.func8 rfl rfl) (ed_begin_ret H4)) (ltn rfl) ?_
        rintro _ w5 ⟨rfl, H5⟩
        refine wl_nil ?_
        refine wq_seq ?_
        refine wc_seq ?_
        refine wc_region ?_
        refine wl_val (r_move rfl) (ltn rfl) ?_
        refine wl_val (r_move rfl) (ltn rfl) ?_
        refine wl_eff (e_call (r_call rfl Try.func11 rfl rfl) (ed_move_ret H5)) (ltn rfl) ?_
        rintro _ w6 ⟨rfl, H6⟩
        refine wl_nil ?_
        refine wq_seq ?_
        refine wc_seq ?_
        refine wc_region ?_
        refine wl_val (r_move rfl) (ltn rfl) ?_
        refine wl_eff (e_call (r_call rfl Try.func9 rfl rfl) (ed_end_ret H6)) (ltn rfl) ?_
        rintro _ w7 ⟨rfl, H7⟩
        refine wl_nil ?_
        refine wq_seq ?_
        refine wc_seq ?_
        refine wc_seq ?_
        refine wc_region ?_
        refine wl_val (r_move rfl) (ltn rfl) ?_
        refine wl_val (r_lenR (hu _ (H7.right.right)) Try.underlying45 rfl) (ltn rfl) ?_
        refine wl_val (r_move rfl) (ltn rfl) ?_
        refine wl_nil ?_
        refine wq_seq ?_
        refine wc_block ?_
        refine wc_loop [(0, _), (9, _), (74, _), (75, _)] (fun (⟨a, b, k⟩ : Int × Int × Nat) => [(11, .int .i64 a), (12, .int .i64 b), (76, .int .i64 (k : Int))]) (fun (⟨a, b, k⟩ : Int × Int × Nat) W => k ≤ ns.length ∧ ∃ s, KOut s L a b ∧ Holds w W (EdRep e2 s • F)) (fun (⟨a, b, k⟩ : Int × Int × Nat) => ns.length - k) ((at_, at_, 0)) (Sub.cons rfl (Sub.cons rfl (Sub.cons rfl (Sub.cons rfl (Sub.nil _))))) (Sub.cons rfl (Sub.cons rfl (Sub.cons rfl (Sub.nil _)))) ⟨by omega, _, kout_start hsh hin, H7.f2.right⟩ ?_
        rintro ⟨a, b, k⟩ w8 ⟨hk, s, hs, HL⟩
        dsimp only [List.cons_append, List.nil_append]
        refine wc_seq ?_
        refine wc_region ?_
        refine wl_val (r_lss rfl rfl) (ltn rfl) ?_
        refine wl_nil ?_
        refine wq_seq ?_
        refine wc_seq ?_
        refine wc_cond rfl (fun h13 => ?_) (fun h13 => ?_)
        · (try simp only [cmpS] at h13)
          
          refine wc_skip ?_
          refine wq_seq ?_
          refine wc_seq ?_
          refine wc_block ?_
          refine wc_seq ?_
          have hkl : k < ns.length := by omega
          have hpt : s.beginS.c.pt = a := by rw [begin_c]; exact hs.pt
          have hok := hs.ok
          refine wc_region ?_
          obtain ⟨bu, ou, cu, eu⟩ := RdI.posV (hu _ (HL.right)) (by omega)
          cases eu
          refine wl_val (r_index Try.underlying45 Try.sizeOf3 rfl rfl (by omega)) (ltn rfl) ?_
          refine wl_val (r_load (plain_of Try.underlying3 rfl) rfl (by first | exact RdI.at1n (hu _ (HL.right)) (by omega) | exact RdI.at0 (hu _ (HL.right)) (by omega) | exact RdI.at1 (hu _ (HL.right)) (by omega))) (ltn rfl) ?_
          refine wl_val (r_assign rfl) (ltn rfl) ?_
          refine wl_nil ?_
          refine wq_seq ?_
          refine wc_seq ?_
          refine wc_region ?_
          refine wl_val (r_move rfl) (ltn rfl) ?_
          refine wl_eff (e_call (r_call rfl Try.func8 rfl rfl) (ed_begin_ret HL)) (ltn rfl) ?_
          rintro _ w9 ⟨rfl, H9⟩
          refine wl_nil ?_
          refine wq_seq ?_
          refine wc_seq ?_
          refine wc_region ?_
          refine wl_val (r_move rfl) (ltn rfl) ?_
          refine wl_eff (e_call (r_call rfl Try.func14 rfl rfl) (ed_line_ret H9)) (ltn rfl) ?_
          rintro _ w10 ⟨u10, rfl, H10⟩
          refine wl_val (r_field_val 1 Try.underlying38 rfl rfl (plain_of Try.underlying3 rfl) rfl rfl) (ltn rfl) ?_
          refine wl_val (r_assign rfl) (ltn rfl) ?_
          refine wl_nil ?_
          refine wq_seq ?_
          refine wc_join [(0, _), (9, _), (74, _), (75, _), (76, _)] (fun (⟨a2, b2⟩ : Int × Int) => [(11, .int .i64 a2), (12, .int .i64 b2)]) (fun (⟨a2, b2⟩ : Int × Int) W => ∃ s2, KOut (s2.endS 0) L a2 b2 ∧ Holds w W (EdRep e2 s2 • F)) (Sub.cons rfl (Sub.cons rfl (Sub.cons rfl (Sub.cons rfl (Sub.cons rfl (Sub.nil _)))))) ?_ ?_
          · rintro ⟨a2, b2⟩ w11 ⟨s2, hjn, HJ⟩
            dsimp only [List.cons_append, List.nil_append]
            refine wc_region ?_
            refine wl_val (r_move rfl) (ltn rfl) ?_
            refine wl_eff (e_call (r_call rfl Try.func9 rfl rfl) (ed_end_ret HJ)) (ltn rfl) ?_
            rintro _ w12 ⟨rfl, H12⟩
            refine wl_nil ?_
            refine wq_block_normal ?_
            refine wq_seq ?_
            refine wc_region ?_
            refine wl_val (r_add rfl rfl (by omega)) (ltn rfl) ?_
            refine wl_val (r_move rfl) (ltn rfl) ?_
            refine wl_nil ?_
            refine wq_round ((a2, b2, k + 1)) ?_ ?_ ?_ ?_
            · exact (Sub.cons rfl (Sub.cons rfl (Sub.cons rfl (Sub.nil _))))
            · exact (Sub.cons rfl (Sub.cons rfl (Sub.cons rfl (Sub.cons rfl (Sub.nil _)))))
            · (try dsimp only)
              first | done | exact ⟨by omega, _, hjn, H12⟩
            · (try dsimp only); omega
          · skip
            refine wc_seq ?_
            refine wc_region ?_
            refine wl_val (r_move rfl) (ltn rfl) ?_
            refine wl_val (r_lss rfl rfl) (ltn rfl) ?_
            refine wl_nil ?_
            refine wq_seq ?_
            refine wc_cond rfl (fun h14 => ?_) (fun h14 => ?_)
            · (try simp only [cmpS] at h14)
              
              refine wc_seq ?_
              refine wc_region ?_
              refine wl_val (r_move rfl) (ltn rfl) ?_
              refine wl_val (r_move rfl) (ltn rfl) ?_
              refine wl_val (r_negK rfl) (ltn rfl) ?_
              refine wl_val (r_max rfl rfl) (ltn rfl) ?_
              refine wl_val (r_rem rfl rfl (by omega) (by  omega)) (ltn rfl) ?_
              refine wl_val (r_min rfl rfl) (ltn rfl) ?_
              refine wl_val (r_assign rfl) (ltn rfl) ?_
              refine wl_nil ?_
              refine wq_seq ?_
              refine wc_seq ?_
              have hjoin := hs.back (k := min a (max (IntKind.i64.wrap (0 - ns.getD k 0)) 0 % 5)) hsh (by omega)
              refine wc_region ?_
              refine wl_val (r_move rfl) (ltn rfl) ?_
              refine wl_val (r_move rfl) (ltn rfl) ?_
              refine wl_val (r_move rfl) (ltn rfl) ?_
              refine wl_val (r_sub rfl rfl (by omega)) (ltn rfl) ?_
              refine wl_val (r_move rfl) (ltn rfl) ?_
              refine wl_eff (e_call (r_call rfl Try.func18 rfl rfl) (ed_kill_ret H10.f2)) (ltn rfl) ?_
              rintro _ w13 ⟨rfl, H13⟩
              refine wl_nil ?_
              refine wq_seq ?_
              refine wc_region ?_
              refine wl_val (r_move rfl) (ltn rfl) ?_
              refine wl_val (r_move rfl) (ltn rfl) ?_
              refine wl_val (r_sub rfl rfl (by omega)) (ltn rfl) ?_
              refine wl_val (r_assign rfl) (ltn rfl) ?_
              refine wl_nil ?_
              refine wq_join (_, _) (Sub.cons rfl (Sub.cons rfl (Sub.nil _))) (Sub.cons rfl (Sub.cons rfl (Sub.cons rfl (Sub.cons rfl (Sub.cons rfl (Sub.nil _)))))) (by (try dsimp only); exact ⟨_, hjoin, H13.f2.right⟩)
            · (try simp only [cmpS] at h14)
              
              refine wc_seq ?_
              refine wc_region ?_
              refine wl_val (r_move rfl) (ltn rfl) ?_
              refine wl_val (r_lenR (hv _ (H10.right.right)) Try.underlying22 rfl) (ltn rfl) ?_
              refine wl_val (r_move rfl) (ltn rfl) ?_
              refine wl_val (r_sub rfl rfl (by omega)) (ltn rfl) ?_
              refine wl_val (r_move rfl) (ltn rfl) ?_
              refine wl_val (r_rem rfl rfl (by omega) (by  omega)) (ltn rfl) ?_
              refine wl_val (r_min rfl rfl) (ltn rfl) ?_
              refine wl_val (r_assign rfl) (ltn rfl) ?_
              refine wl_nil ?_
              refine wq_seq ?_
              refine wc_seq ?_
              have hjoin := hs.fwd (k := min ((L.length : Int) - b) (ns.getD k 0 % 5)) hsh (by omega)
              refine wc_region ?_
              refine wl_val (r_move rfl) (ltn rfl) ?_
              refine wl_val (r_move rfl) (ltn rfl) ?_
              refine wl_val (r_move rfl) (ltn rfl) ?_
              refine wl_val (r_move rfl) (ltn rfl) ?_
              refine wl_val (r_add rfl rfl (by omega)) (ltn rfl) ?_
              refine wl_eff (e_call (r_call rfl Try.func18 rfl rfl) (ed_kill_ret H10.f2)) (ltn rfl) ?_
              rintro _ w14 ⟨rfl, H14⟩
              refine wl_nil ?_
              refine wq_seq ?_
              refine wc_region ?_
              refine wl_val (r_move rfl) (ltn rfl) ?_
              refine wl_val (r_move rfl) (ltn rfl) ?_
              refine wl_val (r_add rfl rfl (by omega)) (ltn rfl) ?_
              refine wl_val (r_assign rfl) (ltn rfl) ?_
              refine wl_nil ?_
              refine wq_join (_, _) (Sub.cons rfl (Sub.cons rfl (Sub.nil _))) (Sub.cons rfl (Sub.cons rfl (Sub.cons rfl (Sub.cons rfl (Sub.cons rfl (Sub.nil _)))))) (by (try dsimp only); exact ⟨_, hjoin, H14.f2.right⟩)
        · (try simp only [cmpS] at h13)
          
          refine wc_exit ?_
          refine wq_then_exit ?_
          refine wq_then_exit ?_
          refine wq_block_hit ?_
          refine wq_seq ?_
          refine wc_seq ?_
          obtain rfl : k = ns.length := by omega
          have hy := hs.yank hsh
          have hok := hs.ok
          refine wc_region ?_
          refine wl_val (r_move rfl) (ltn rfl) ?_
          refine wl_eff (e_call (r_call rfl Try.func8 rfl rfl) (ed_begin_ret HL)) (ltn rfl) ?_
          rintro _ w15 ⟨rfl, H15⟩
          refine wl_nil ?_
          refine wq_seq ?_
          refine wc_seq ?_
          refine wc_region ?_
          refine wl_val (r_move rfl) (ltn rfl) ?_
          refine wl_eff (e_call (r_call rfl Try.func19 rfl rfl) (ed_yank_ret H15)) (ltn rfl) ?_
          rintro _ w16 ⟨rfl, H16⟩
          refine wl_val (r_assign rfl) (ltn rfl) ?_
          refine wl_nil ?_
          refine wq_seq ?_
          refine wc_seq ?_
          refine wc_region ?_
          refine wl_val (r_move rfl) (ltn rfl) ?_
          refine wl_val (r_move rfl) (ltn rfl) ?_
          refine wl_eff (e_call (r_call rfl Try.func9 rfl rfl) (ed_end_ret H16)) (ltn rfl) ?_
          rintro _ w17 ⟨rfl, H17⟩
          refine wl_nil ?_
          refine wq_seq ?_
          refine wc_seq ?_
          refine wc_seq ?_
          refine wc_region ?_
          refine wl_val (r_move rfl) (ltn rfl) ?_
          refine wl_val (r_move rfl) (ltn rfl) ?_
          refine wl_val (r_eql rfl rfl) (ltn rfl) ?_
          refine wl_nil ?_
          refine wq_seq ?_
          refine wc_cond rfl (fun h15 => ?_) (fun h15 => ?_)
          · (try simp only [cmpS] at h15)
            have hab := h15
            refine wc_seq ?_
            refine wc_region ?_
            refine wl_val (r_move rfl) (ltn rfl) ?_
            refine wl_eff (e_call (r_call rfl Try.func14 rfl rfl) (ed_line_ret H17)) (ltn rfl) ?_
            rintro _ w18 ⟨u18, rfl, H18⟩
            refine wl_val (r_field_val 0 Try.underlying38 rfl rfl (plain_of Try.underlying22 rfl) rfl rfl) (ltn rfl) ?_
            refine wl_val (r_lenR ((H18).row_rd) Try.underlying22 rfl) (ltn rfl) ?_
            refine wl_val (r_move rfl) (ltn rfl) ?_
            refine wl_val (r_lenR (hv _ (H18.right.right)) Try.underlying22 rfl) (ltn rfl) ?_
            refine wl_val (r_known_t (r_eql rfl rfl) (by have := hy.1 hab; simp; omega)) (ltn rfl) ?_
            refine wl_val (r_assign rfl) (ltn rfl) ?_
            refine wl_nil ?_
            refine wq_seq ?_
            refine wc_ret ?_
            refine wq_then_ret ?_
            refine wq_end1 (.inl rfl) Try.results4 rfl ?_
            exact ⟨rfl, H18.base⟩
          · (try simp only [cmpS] at h15)
            have hab := h15
            refine wc_skip ?_
            refine wq_seq ?_
            refine wc_seq ?_
            refine wc_region ?_
            refine wl_val (r_move rfl) (ltn rfl) ?_
            refine wl_val (r_eql rfl rfl) (ltn rfl) ?_
            refine wl_split rfl (ltn rfl) (fun h16 => ?_) (fun h => by exfalso; (try simp only [cmpS] at h); exact h (hy.2 hab).1)
            (try simp only [cmpS] at h16)
            refine wl_yes rfl rfl ?_
            refine wl_val (r_move rfl) (ltn rfl) ?_
            refine wl_yes rfl rfl ?_
            refine wl_eff (e_call (r_call rfl Try.func14 rfl rfl) (ed_line_ret H17)) (ltn rfl) ?_
            rintro _ w19 ⟨u19, rfl, H19⟩
            refine wl_yes rfl rfl ?_
            refine wl_val (r_field_val 0 Try.underlying38 rfl rfl (plain_of Try.underlying22 rfl) rfl rfl) (ltn rfl) ?_
            refine wl_yes rfl rfl ?_
            refine wl_val (r_move rfl) (ltn rfl) ?_
            refine wl_yes rfl rfl ?_
            refine wl_eff (e_call (r_call rfl Try.func13 rfl rfl) (equal_ret _ _ _ _ _ ((H19).row_rd) (hv _ (H19.right.right)))) (ltn rfl) ?_
            rintro _ w20 ⟨rfl, hD20⟩
            have HD20 := H19.drewn hD20
            refine wl_val (r_pick_t rfl rfl) (ltn rfl) ?_
            refine wl_split rfl (ltn rfl) (fun h17 => ?_) (fun h => by exfalso; (try simp only [cmpS] at h); exact h (hy.2 hab).2.1)
            (try simp only [cmpS] at h17)
            refine wl_yes rfl rfl ?_
            refine wl_val (r_move rfl) (ltn rfl) ?_
            refine wl_yes rfl rfl ?_
            refine wl_eff (e_call (r_call rfl Try.func14 rfl rfl) (ed_line_ret HD20.f2)) (ltn rfl) ?_
            rintro _ w21 ⟨u21, rfl, H21⟩
            refine wl_yes rfl rfl ?_
            refine wl_val (r_field_val 2 Try.underlying38 rfl rfl (plain_of Try.underlying3 rfl) rfl rfl) (ltn rfl) ?_
            refine wl_yes rfl rfl ?_
            refine wl_val (r_move rfl) (ltn rfl) ?_
            refine wl_yes rfl rfl ?_
            refine wl_val (r_eql rfl rfl) (ltn rfl) ?_
            refine wl_val (r_pick_t rfl rfl) (ltn rfl) ?_
            refine wl_split rfl (ltn rfl) (fun h18 => ?_) (fun h => by exfalso; (try simp only [cmpS] at h); exact h (hy.2 hab).2.2.1)
            (try simp only [cmpS] at h18)
            refine wl_yes rfl rfl ?_
            refine wl_val (r_move rfl) (ltn rfl) ?_
            refine wl_yes rfl rfl ?_
            refine wl_eff (e_call (r_call rfl Try.func14 rfl rfl) (ed_line_ret H21.f2)) (ltn rfl) ?_
            rintro _ w22 ⟨u22, rfl, H22⟩
            refine wl_yes rfl rfl ?_
            refine wl_val (r_field_val 1 Try.underlying38 rfl rfl (plain_of Try.underlying3 rfl) rfl rfl) (ltn rfl) ?_
            refine wl_yes rfl rfl ?_
            refine wl_val (r_move rfl) (ltn rfl) ?_
            refine wl_yes rfl rfl ?_
            refine wl_val (r_known_t (r_eql rfl rfl) (by exact decide_eq_true (hy.2 hab).2.2.2)) (ltn rfl) ?_
            refine wl_val (r_pick_t rfl rfl) (ltn rfl) ?_
            refine wl_val (r_assign rfl) (ltn rfl) ?_
            refine wl_nil ?_
            refine wq_seq ?_
            refine wc_ret ?_
            refine wq_end1 (.inl rfl) Try.results4 rfl ?_
            exact ⟨rfl, H22.base⟩
end Go.Proofs.Ytgmpclifphbjkaa
end
section
/- EditorKills: the row. -/
set_option linter.unusedVariables false
namespace Go.Proofs.Ytgmpclifphbjkaa
open Go.ChangeShapes Go.WideShapes Go.ChangeAt Go.RowKit

set_option maxRecDepth 100000 in
theorem editorKills_lifted (os : Os) (started : os.Started) (H : Type) (enc : TypeId × Value → H) :
    ReturnsInHanded {} Try.checked os 4 .any (Rows.editorKillsSpec.pre6 enc Try.prog Try.f4 Rows.editorKillsRow.domain false) (Rows.editorKillsSpec.post enc Try.prog Try.f4 false true false false) := by
  refine law_lift (C := Try.checked) (tb := 4) _ own laid started (by kernel_rfl) Try.func4 (congrArg Array.toList Try.params4) rfl Try.underlying4 rfl (by kernel_rfl) (fun ds hd => ?_)
    (ChangeSpec.witness6 (enc := enc) (C := Try.checked) false ⟨#[], #[.slice none 0 0, .int .i64 0, .slice none 0 0], []⟩ 8 (by kernel_rfl) (by kernel_rfl) (by kernel_rfl) (by kernel_rfl)) ?_
  · obtain ⟨a0, a1, a2, rfl⟩ := len_three hd
    rfl
  intro W args hin
  obtain ⟨v1, v2, v3, rfl, ⟨⟨_, o1⟩, i1⟩, ⟨⟨_, o2⟩, i2⟩, ⟨⟨_, o3⟩, i3⟩⟩ := hin.three
  obtain ⟨a1, n1, c1, rfl⟩ := okWide_slice Try.underlying22 o1
  obtain ⟨m, rfl⟩ := okWide_int Try.underlying3 o2
  obtain ⟨a3, n3, c3, rfl⟩ := okWide_slice Try.underlying45 o3
  obtain ⟨_, l, e1, g1, bl, -⟩ := i1.ints Try.underlying22 Try.underlying21 (by kernel_rfl)
  obtain rfl := List.singleton_inj.1 e1
  obtain ⟨_, ns, e3, g3, bn, -⟩ := i3.ints Try.underlying45 Try.underlying3 (by kernel_rfl)
  obtain rfl := List.singleton_inj.1 e3
  rw [show Try.prog.bytesOf 21 = 4 from by kernel_rfl, show reachBytes = 140737488351232 from rfl] at bl
  rw [show Try.prog.bytesOf 3 = 8 from by kernel_rfl, show reachBytes = 140737488351232 from rfl] at bn
  exact editor_kills g1 g3 (by omega) (by omega)

theorem editorKills_proved : Rows.EditorKillsSaid :=
  OpenClaim.holds_of_wide 4 Try.f4 rfl rfl rfl rfl rfl rfl rfl ⟨rfl, rfl, rfl, rfl, rfl⟩ rfl rfl rfl rfl rfl (by kernel_rfl) Try.func4 (by kernel_rfl)
    (of_decide_eq_true (by kernel_rfl)) (by unfold Func.isWrapper; first | (rw [if_pos (by decide +kernel)]; kernel_rfl) | (rw [if_neg (by decide +kernel)]; exact ⟨rfl, rfl⟩))
    (fun os started H enc _ => editorKills_lifted os started H enc)
end Go.Proofs.Ytgmpclifphbjkaa
end
