/- UcellCells, walked. -/
import Derived.Test.YtmkmffoadapmnaaDoorULive
set_option linter.unusedSimpArgs false
set_option linter.unusedVariables false
namespace Go.Proofs.YtmkmffoadapmnaaDoor
open Go.RowKit
theorem ucell_cells {w : World} {v : Value} {l : List Int} {col : Int} (hT : Tabs w) (hU : UTabs w) (g : RdI w .i32 v l) (hl : Runs32 l) (hL : l.length ≤ 4294967295) (hcol : col ≤ 9223372036854775807) :
    Ret Tryd.prog 4 #[v, .int .i64 col] w fun v w' => v = .bool true ∧ Below w.heap.size w w' := by
  obtain ⟨F, H⟩ : ∃ F, Holds w w F := ⟨_, Holds.start w⟩
  have hv : FRdI w F .i32 v l := FRdI.of_start g F
  refine ret_enter Tryd.func4 rfl Tryd.ntmps4 (Nat.le_of_ble_eq_true rfl) ?_
  dsimp only [slots0, Nat.reduceAdd]
  refine wc_seq ?_
  refine wc_region ?_
  refine wl_val (r_assign rfl) (ltn rfl) ?_
  refine wl_nil ?_
  refine wq_seq ?_
  refine wc_seq ?_
  refine wc_region ?_
  refine wl_val (r_move rfl) (ltn rfl) ?_
  refine wl_val (r_move rfl) (ltn rfl) ?_
  refine wl_eff (e_call (r_call rfl Tryd.func14 rfl rfl) (ref_cells_ret H (fun W HW => hv _ (HW)) (by assumption) (by omega) (by omega))) (ltn rfl) ?_
  rintro u1 w1 H1
  refine wl_val (r_assign rfl) (ltn rfl) ?_
  refine wl_nil ?_
  refine wq_seq ?_
  refine wc_seq ?_
  refine wc_region ?_
  refine wl_eff (e_call (r_call rfl Tryd.func13 rfl rfl) (ulive_ret H1 hT hU)) (ltn rfl) ?_
  rintro _ w2 ⟨rfl, H2⟩
  refine wl_val (r_move rfl) (ltn rfl) ?_
  refine wl_yes rfl rfl ?_
  refine wl_val (r_move rfl) (ltn rfl) ?_
  refine wl_yes rfl rfl ?_
  refine wl_val (r_move rfl) (ltn rfl) ?_
  refine wl_yes rfl rfl ?_
  refine wl_eff (e_call (r_call rfl Tryd.func12 rfl rfl) (cells_ret H2 (by assumption) (fun W HW => hv _ (HW.right)) (by assumption) (by omega) (by omega))) (ltn rfl) ?_
  rintro u3 w3 H3
  refine wl_yes rfl rfl ?_
  refine wl_val (r_move rfl) (ltn rfl) ?_
  refine wl_yes rfl rfl ?_
  refine wl_eff (e_call (r_call rfl Tryd.func15 rfl rfl) (cells_eq_rr H3.f2.f2)) (ltn rfl) ?_
  rintro _ w4 ⟨rfl, H4⟩
  refine wl_val (r_pick_t rfl rfl) (ltn rfl) ?_
  refine wl_split rfl (ltn rfl) (fun h1 => ?_) (fun h => by exfalso; (try simp only [beq_iff_eq, bne_iff_ne, ne_eq, decide_eq_true_eq, decide_eq_false_iff_not, beq_eq_false_iff_ne, bne_eq_false_iff_eq, Bool.not_eq_true', Bool.not_eq_false', Bool.not_eq_eq_eq_not, Bool.not_true, Bool.not_false, gt_iff_lt, ge_iff_le, Int.not_lt, Int.not_le] at h); simp at h)
  (try simp only [beq_iff_eq, bne_iff_ne, ne_eq, decide_eq_true_eq, decide_eq_false_iff_not, beq_eq_false_iff_ne, bne_eq_false_iff_eq, Bool.not_eq_true', Bool.not_eq_false', Bool.not_eq_eq_eq_not, Bool.not_true, Bool.not_false, gt_iff_lt, ge_iff_le, Int.not_lt, Int.not_le] at h1)
  refine wl_yes rfl rfl ?_
  refine wl_val (r_move rfl) (ltn rfl) ?_
  refine wl_yes rfl rfl ?_
  refine wl_val (r_move rfl) (ltn rfl) ?_
  refine wl_yes rfl rfl ?_
  refine wl_eff (e_call (r_call rfl Tryd.func16 rfl rfl) (span_ret H4 (by assumption) (fun W HW => hv _ (HW.right.right)) (by assumption) (by omega) (by omega))) (ltn rfl) ?_
  rintro _ w5 ⟨rfl, H5⟩
  refine wl_yes rfl rfl ?_
  refine wl_val (r_move rfl) (ltn rfl) ?_
  refine wl_yes rfl rfl ?_
  refine wl_val (r_lenS ((H5.f2).row_rd) Tryd.underlying23 rfl) (ltn rfl) ?_
  refine wl_yes rfl rfl ?_
  refine wl_val (r_known_t (r_eql rfl rfl) (by simp)) (ltn rfl) ?_
  refine wl_val (r_pick_t rfl rfl) (ltn rfl) ?_
  refine wl_val (r_assign rfl) (ltn rfl) ?_
  refine wl_nil ?_
  refine wq_seq ?_
  refine wc_ret ?_
  refine wq_end1 (.inl rfl) Tryd.results4 rfl ?_
  exact ⟨rfl, H5.base⟩
end Go.Proofs.YtmkmffoadapmnaaDoor
