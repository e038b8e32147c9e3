/- UcellRunes, walked. -/
import Derived.Test.YtmkmffoadapmnaaDoorULive
set_option linter.unusedSimpArgs false
set_option linter.unusedVariables false
namespace Go.Proofs.YtmkmffoadapmnaaDoor
open Go.RowKit
section
variable {w0 w : World} {F : HP} {v u : Value} {b c l : List Int}
theorem bytes_eq_ret (H : Holds w0 w F) (hv : FRdI w0 F .u8 v b) (hu : FRdI w0 F .u8 u c) : Ret Tryd.prog 38 #[v, u] w fun r w' => r = .bool ((byteS b).toList == (byteS c).toList) ∧ Holds w0 w' F := by
  refine ret_enter Tryd.func38 rfl Tryd.ntmps38 (Nat.le_of_ble_eq_true rfl) ?_
  dsimp only [slots0, Nat.reduceAdd]
  refine wc_seq ?_
  refine wc_region ?_
  refine wl_val (r_assign rfl) (ltn rfl) ?_
  refine wl_nil ?_
  refine wq_seq ?_
  refine wc_seq ?_
  refine wc_region ?_
  refine wl_val (r_move rfl) (ltn rfl) ?_
  refine wl_val (r_bytes_str Tryd.underlying39 Tryd.underlying9 Tryd.underlying5 rfl (hv _ (H))) (ltn rfl) ?_
  refine wl_val (r_move rfl) (ltn rfl) ?_
  refine wl_val (r_bytes_str Tryd.underlying39 Tryd.underlying9 Tryd.underlying5 rfl (hu _ (H))) (ltn rfl) ?_
  refine wl_val (r_str_eql rfl rfl) (ltn rfl) ?_
  refine wl_val (r_assign rfl) (ltn rfl) ?_
  refine wl_nil ?_
  refine wq_seq ?_
  refine wc_ret ?_
  refine wq_end1 (.inl rfl) Tryd.results38 rfl ?_
  exact ⟨rfl, H⟩
end
theorem ucell_runes {w : World} {v u : Value} {b l : List Int} (hT : Tabs w) (hU : UTabs w) (g : RdI w .u8 v b) (g2 : RdI w .i32 u l) (hb : Byts b) (hl : Runs32 l) (hbL : b.length ≤ 17179869184) (hL : l.length ≤ 17179869184) :
    Ret Tryd.prog 11 #[v, u] w fun v w' => v = .bool true ∧ Below w.heap.size w w' := by
  obtain ⟨F, H⟩ : ∃ F, Holds w w F := ⟨_, Holds.start w⟩
  have hv : FRdI w F .u8 v b := FRdI.of_start g F
  have hu : FRdI w F .i32 u l := FRdI.of_start g2 F
  refine ret_enter Tryd.func11 rfl Tryd.ntmps11 (Nat.le_of_ble_eq_true rfl) ?_
  dsimp only [slots0, Nat.reduceAdd]
  refine wc_seq ?_
  refine wc_region ?_
  refine wl_val (r_assign rfl) (ltn rfl) ?_
  refine wl_nil ?_
  refine wq_seq ?_
  refine wc_seq ?_
  refine wc_region ?_
  refine wl_eff (e_call (r_call rfl Tryd.func13 rfl rfl) (ulive_ret H hT hU)) (ltn rfl) ?_
  rintro _ w1 ⟨rfl, H1⟩
  refine wl_val (r_move rfl) (ltn rfl) ?_
  refine wl_yes rfl rfl ?_
  refine wl_val (r_move rfl) (ltn rfl) ?_
  refine wl_yes rfl rfl ?_
  refine wl_eff (e_call (r_call rfl Tryd.func27 rfl rfl) (runes_ret H1 (by assumption) (fun W HW => hv _ (HW)) (by assumption) (by omega))) (ltn rfl) ?_
  rintro u2 w2 H2
  refine wl_yes rfl rfl ?_
  refine wl_val (r_move rfl) (ltn rfl) ?_
  refine wl_yes rfl rfl ?_
  refine wl_eff (e_call (r_call rfl Tryd.func37 rfl rfl) (ref_runes_ret H2 (fun W HW => hv _ (HW.right)) (by assumption) (by omega))) (ltn rfl) ?_
  rintro u3 w3 H3
  refine wl_yes rfl rfl ?_
  refine wl_eff (e_call (r_call rfl Tryd.func21 rfl rfl) (equal_ret _ _ _ _ _ ((H3.f2).row_rd) ((H3).row_rd))) (ltn rfl) ?_
  rintro _ w4 ⟨rfl, hD4⟩
  have HD4 := H3.drewn hD4
  refine wl_val (r_pick_t rfl rfl) (ltn rfl) ?_
  refine wl_split rfl (ltn rfl) (fun h1 => ?_) (fun h => by exfalso; (try simp only [beq_iff_eq, bne_iff_ne, ne_eq, decide_eq_true_eq, decide_eq_false_iff_not, beq_eq_false_iff_ne, bne_eq_false_iff_eq, Bool.not_eq_true', Bool.not_eq_false', Bool.not_eq_eq_eq_not, Bool.not_true, Bool.not_false, gt_iff_lt, ge_iff_le, Int.not_lt, Int.not_le] at h); simp at h)
  (try simp only [beq_iff_eq, bne_iff_ne, ne_eq, decide_eq_true_eq, decide_eq_false_iff_not, beq_eq_false_iff_ne, bne_eq_false_iff_eq, Bool.not_eq_true', Bool.not_eq_false', Bool.not_eq_eq_eq_not, Bool.not_true, Bool.not_false, gt_iff_lt, ge_iff_le, Int.not_lt, Int.not_le] at h1)
  refine wl_yes rfl rfl ?_
  refine wl_val (r_move rfl) (ltn rfl) ?_
  refine wl_yes rfl rfl ?_
  refine wl_eff (e_call (r_call rfl Tryd.func36 rfl rfl) (bytes_ret HD4 (fun W HW => hu _ (HW.right.right)) (by assumption) (by omega))) (ltn rfl) ?_
  rintro u5 w5 H5
  refine wl_yes rfl rfl ?_
  refine wl_val (r_move rfl) (ltn rfl) ?_
  refine wl_yes rfl rfl ?_
  refine wl_eff (e_call (r_call rfl Tryd.func39 rfl rfl) (ref_bytes_ret H5 (fun W HW => hu _ (HW.right.right.right)) (by assumption) (by omega))) (ltn rfl) ?_
  rintro u6 w6 H6
  refine wl_yes rfl rfl ?_
  refine wl_eff (e_call (r_call rfl Tryd.func38 rfl rfl) (bytes_eq_ret H6 (fun W HW => (HW.f2).row_rd) (fun W HW => (HW).row_rd))) (ltn rfl) ?_
  rintro _ w7 ⟨rfl, H7⟩
  refine wl_val (r_known_t (r_pick_t rfl rfl) (by simp)) (ltn rfl) ?_
  refine wl_val (r_assign rfl) (ltn rfl) ?_
  refine wl_nil ?_
  refine wq_seq ?_
  refine wc_ret ?_
  refine wq_end1 (.inl rfl) Tryd.results11 rfl ?_
  exact ⟨rfl, H7.base⟩
end Go.Proofs.YtmkmffoadapmnaaDoor
