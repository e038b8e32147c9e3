/- What a rune is, a control, how wide it is, a letter: ucell's tables. -/
import Derived.Test.YtmkmffoadapmnaaDoorProg
import Derived.Test.YtmkmffoadapmnaaDoorFun
import Derived.Test.YtmkmffoadapmnaaDoorImm
set_option linter.unusedSimpArgs false
set_option linter.unusedVariables false
namespace Go.Proofs.YtmkmffoadapmnaaDoor
open Go.RowKit

def validM (r : Int) : Bool := decide (0 ≤ r ∧ r < 55296 ∨ 57343 < r ∧ r ≤ 1114111)
def controlM (r : Int) : Bool := decide (0 ≤ r ∧ r < 32 ∨ 127 ≤ r ∧ r ≤ 159)
def within (r : Int) (T : List (Int × Int)) : Bool := T.any fun x => decide (x.1 ≤ r ∧ r ≤ x.2)
def noneT : List (Int × Int) := [(768, 879), (1155, 1161), (1425, 1469), (1552, 1562), (1611, 1631), (3633, 3633), (3636, 3642), (3655, 3662), (6832, 6911), (7616, 7679), (8203, 8207), (8400, 8447), (12441, 12442), (65024, 65039), (65056, 65071)]
def wideT : List (Int × Int) := [(4352, 4447), (11904, 12350), (12353, 13311), (13312, 19903), (19968, 40959), (40960, 42191), (44032, 55203), (63744, 64255), (65072, 65135), (65280, 65376), (65504, 65510), (127744, 128591), (129280, 129535), (131072, 262141)]
def widthM (r : Int) : Int := if !validM r || controlM r || within r noneT then 0 else if within r wideT then 2 else 1
def letterM (r : Int) : Bool :=
  if r < 192 then decide (48 ≤ r ∧ r ≤ 57 ∨ 65 ≤ r ∧ r ≤ 90 ∨ 97 ≤ r ∧ r ≤ 122)
  else if r = 215 ∨ r = 247 ∨ r = 65533 ∨ 8192 ≤ r ∧ r ≤ 8303 ∨ 12288 ≤ r ∧ r ≤ 12351 ∨ 65280 ≤ r ∧ r ≤ 65295 then false
  else validM r && decide (0 < widthM r)

theorem Holds.cell {w0 w : World} {F : HP} (H : Holds w0 w F) {a : Addr} {v : Value} (h : w0.cell? a = some v) : w.cell? a = some v := (H.base.cell (World.block_lt_of_cell? _ _ h)).trans h
theorem two_cells {w : World} {b o : Nat} {u v : Value} (h : w.cell? ⟨b, o, none⟩ = some u) (k : w.cell? ⟨b, o + 1, none⟩ = some v) : ∀ (j : Nat) x, ([u, v] : List Value)[j]? = some x → w.cell? ⟨b, o + j, none⟩ = some x := by
  intro j x hj
  match j, hj with
  | 0, hj => cases hj; exact h
  | 1, hj => cases hj; exact k
  | j + 2, hj => simp at hj
/-- The table's cells stand in a block. -/
def tabVals (T : List (Int × Int)) : List Value := T.flatMap fun x => [.int .i32 x.1, .int .i32 x.2]
/-- The program's two tables. -/
structure Tabs (w : World) : Prop where
  tnone : Rd w 2 (.slice (some ⟨0, 0, none⟩) 15 15) 15 (tabVals noneT)
  twide : Rd w 2 (.slice (some ⟨1, 0, none⟩) 14 14) 14 (tabVals wideT)
section
variable {w0 w : World} {F : HP} {r : Int}
theorem valid_ret : Ret Tryd.prog 54 #[.int .i32 r] w fun v w' => v = .bool (validM r) ∧ w = w' := by
  refine ret_enter Tryd.func54 rfl Tryd.ntmps54 (Nat.le_of_ble_eq_true rfl) ?_
  dsimp only [slots0, Nat.reduceAdd]
  refine wc_seq ?_
  refine wc_region ?_
  refine wl_val (r_assign rfl) (ltn rfl) ?_
  refine wl_nil ?_
  refine wq_seq ?_
  refine wc_seq ?_
  refine wc_block ?_
  refine wc_seq ?_
  refine wc_region ?_
  refine wl_val (r_move rfl) (ltn rfl) ?_
  refine wl_val (r_leq rfl rfl) (ltn rfl) ?_
  refine wl_split rfl (ltn rfl) (fun h1 => ?_) (fun h1 => ?_)
  · (try simp only [beq_iff_eq, bne_iff_ne, ne_eq, decide_eq_true_eq, decide_eq_false_iff_not, beq_eq_false_iff_ne, bne_eq_false_iff_eq, Bool.not_eq_true', Bool.not_eq_false', Bool.not_eq_eq_eq_not, Bool.not_true, Bool.not_false, gt_iff_lt, ge_iff_le, Int.not_lt, Int.not_le] at h1)
    try (exfalso; first | contradiction | omega)
    all_goals
      refine wl_yes rfl rfl ?_
      refine wl_val (r_move rfl) (ltn rfl) ?_
      refine wl_yes rfl rfl ?_
      refine wl_val (r_lss rfl rfl) (ltn rfl) ?_
      refine wl_val (r_pick_t rfl rfl) (ltn rfl) ?_
      refine wl_val (r_assign rfl) (ltn rfl) ?_
      refine wl_nil ?_
      refine wq_seq ?_
      refine wc_cond rfl (fun h2 => ?_) (fun h2 => ?_)
      · (try simp only [beq_iff_eq, bne_iff_ne, ne_eq, decide_eq_true_eq, decide_eq_false_iff_not, beq_eq_false_iff_ne, bne_eq_false_iff_eq, Bool.not_eq_true', Bool.not_eq_false', Bool.not_eq_eq_eq_not, Bool.not_true, Bool.not_false, gt_iff_lt, ge_iff_le, Int.not_lt, Int.not_le] at h2)
        try (exfalso; first | contradiction | omega)
        all_goals
          
          refine wc_seq ?_
          refine wc_region ?_
          refine wl_val (r_assign rfl) (ltn rfl) ?_
          refine wl_nil ?_
          refine wq_seq ?_
          refine wc_ret ?_
          refine wq_block_ret ?_
          refine wq_then_ret ?_
          refine wq_end1 (.inl rfl) Tryd.results54 rfl ?_
          refine ⟨?_, rfl⟩; congr 1; first | (symm; rw [validM, decide_eq_true_eq]; omega) | (symm; rw [validM, decide_eq_false_iff_not]; omega) | (rw [validM, decide_eq_decide]; omega)
      · (try simp only [beq_iff_eq, bne_iff_ne, ne_eq, decide_eq_true_eq, decide_eq_false_iff_not, beq_eq_false_iff_ne, bne_eq_false_iff_eq, Bool.not_eq_true', Bool.not_eq_false', Bool.not_eq_eq_eq_not, Bool.not_true, Bool.not_false, gt_iff_lt, ge_iff_le, Int.not_lt, Int.not_le] at h2)
        try (exfalso; first | contradiction | omega)
        all_goals
          
          refine wc_seq ?_
          refine wc_region ?_
          refine wl_val (r_move rfl) (ltn rfl) ?_
          refine wl_val (r_lss rfl rfl) (ltn rfl) ?_
          refine wl_split rfl (ltn rfl) (fun h3 => ?_) (fun h3 => ?_)
          · (try simp only [beq_iff_eq, bne_iff_ne, ne_eq, decide_eq_true_eq, decide_eq_false_iff_not, beq_eq_false_iff_ne, bne_eq_false_iff_eq, Bool.not_eq_true', Bool.not_eq_false', Bool.not_eq_eq_eq_not, Bool.not_true, Bool.not_false, gt_iff_lt, ge_iff_le, Int.not_lt, Int.not_le] at h3)
            try (exfalso; first | contradiction | omega)
            all_goals
              refine wl_yes rfl rfl ?_
              refine wl_val (r_move rfl) (ltn rfl) ?_
              refine wl_yes rfl rfl ?_
              refine wl_val (r_leq rfl rfl) (ltn rfl) ?_
              refine wl_val (r_pick_t rfl rfl) (ltn rfl) ?_
              refine wl_val (r_assign rfl) (ltn rfl) ?_
              refine wl_nil ?_
              refine wq_seq ?_
              refine wc_cond rfl (fun h4 => ?_) (fun h4 => ?_)
              · (try simp only [beq_iff_eq, bne_iff_ne, ne_eq, decide_eq_true_eq, decide_eq_false_iff_not, beq_eq_false_iff_ne, bne_eq_false_iff_eq, Bool.not_eq_true', Bool.not_eq_false', Bool.not_eq_eq_eq_not, Bool.not_true, Bool.not_false, gt_iff_lt, ge_iff_le, Int.not_lt, Int.not_le] at h4)
                try (exfalso; first | contradiction | omega)
                all_goals
                  
                  refine wc_seq ?_
                  refine wc_region ?_
                  refine wl_val (r_assign rfl) (ltn rfl) ?_
                  refine wl_nil ?_
                  refine wq_seq ?_
                  refine wc_ret ?_
                  refine wq_block_ret ?_
                  refine wq_then_ret ?_
                  refine wq_end1 (.inl rfl) Tryd.results54 rfl ?_
                  refine ⟨?_, rfl⟩; congr 1; first | (symm; rw [validM, decide_eq_true_eq]; omega) | (symm; rw [validM, decide_eq_false_iff_not]; omega) | (rw [validM, decide_eq_decide]; omega)
              · (try simp only [beq_iff_eq, bne_iff_ne, ne_eq, decide_eq_true_eq, decide_eq_false_iff_not, beq_eq_false_iff_ne, bne_eq_false_iff_eq, Bool.not_eq_true', Bool.not_eq_false', Bool.not_eq_eq_eq_not, Bool.not_true, Bool.not_false, gt_iff_lt, ge_iff_le, Int.not_lt, Int.not_le] at h4)
                try (exfalso; first | contradiction | omega)
                all_goals
                  
                  refine wc_skip ?_
                  refine wq_block_normal ?_
                  refine wq_seq ?_
                  refine wc_seq ?_
                  refine wc_region ?_
                  refine wl_val (r_assign rfl) (ltn rfl) ?_
                  refine wl_nil ?_
                  refine wq_seq ?_
                  refine wc_ret ?_
                  refine wq_end1 (.inl rfl) Tryd.results54 rfl ?_
                  refine ⟨?_, rfl⟩; congr 1; first | (symm; rw [validM, decide_eq_true_eq]; omega) | (symm; rw [validM, decide_eq_false_iff_not]; omega) | (rw [validM, decide_eq_decide]; omega)
          · (try simp only [beq_iff_eq, bne_iff_ne, ne_eq, decide_eq_true_eq, decide_eq_false_iff_not, beq_eq_false_iff_ne, bne_eq_false_iff_eq, Bool.not_eq_true', Bool.not_eq_false', Bool.not_eq_eq_eq_not, Bool.not_true, Bool.not_false, gt_iff_lt, ge_iff_le, Int.not_lt, Int.not_le] at h3)
            try (exfalso; first | contradiction | omega)
            all_goals
              refine wl_no rfl rfl rfl (ltn rfl) ?_
              refine wl_no rfl rfl rfl (ltn rfl) ?_
              refine wl_val (r_pick_f rfl rfl) (ltn rfl) ?_
              refine wl_val (r_assign rfl) (ltn rfl) ?_
              refine wl_nil ?_
              refine wq_seq ?_
              refine wc_cond_f rfl ?_
              refine wc_skip ?_
              refine wq_block_normal ?_
              refine wq_seq ?_
              refine wc_seq ?_
              refine wc_region ?_
              refine wl_val (r_assign rfl) (ltn rfl) ?_
              refine wl_nil ?_
              refine wq_seq ?_
              refine wc_ret ?_
              refine wq_end1 (.inl rfl) Tryd.results54 rfl ?_
              refine ⟨?_, rfl⟩; congr 1; first | (symm; rw [validM, decide_eq_true_eq]; omega) | (symm; rw [validM, decide_eq_false_iff_not]; omega) | (rw [validM, decide_eq_decide]; omega)
  · (try simp only [beq_iff_eq, bne_iff_ne, ne_eq, decide_eq_true_eq, decide_eq_false_iff_not, beq_eq_false_iff_ne, bne_eq_false_iff_eq, Bool.not_eq_true', Bool.not_eq_false', Bool.not_eq_eq_eq_not, Bool.not_true, Bool.not_false, gt_iff_lt, ge_iff_le, Int.not_lt, Int.not_le] at h1)
    try (exfalso; first | contradiction | omega)
    all_goals
      refine wl_no rfl rfl rfl (ltn rfl) ?_
      refine wl_no rfl rfl rfl (ltn rfl) ?_
      refine wl_val (r_pick_f rfl rfl) (ltn rfl) ?_
      refine wl_val (r_assign rfl) (ltn rfl) ?_
      refine wl_nil ?_
      refine wq_seq ?_
      refine wc_cond_f rfl ?_
      refine wc_seq ?_
      refine wc_region ?_
      refine wl_val (r_move rfl) (ltn rfl) ?_
      refine wl_val (r_lss rfl rfl) (ltn rfl) ?_
      refine wl_split rfl (ltn rfl) (fun h5 => ?_) (fun h5 => ?_)
      · (try simp only [beq_iff_eq, bne_iff_ne, ne_eq, decide_eq_true_eq, decide_eq_false_iff_not, beq_eq_false_iff_ne, bne_eq_false_iff_eq, Bool.not_eq_true', Bool.not_eq_false', Bool.not_eq_eq_eq_not, Bool.not_true, Bool.not_false, gt_iff_lt, ge_iff_le, Int.not_lt, Int.not_le] at h5)
        try (exfalso; first | contradiction | omega)
        all_goals
          refine wl_yes rfl rfl ?_
          refine wl_val (r_move rfl) (ltn rfl) ?_
          refine wl_yes rfl rfl ?_
          refine wl_val (r_leq rfl rfl) (ltn rfl) ?_
          refine wl_val (r_pick_t rfl rfl) (ltn rfl) ?_
          refine wl_val (r_assign rfl) (ltn rfl) ?_
          refine wl_nil ?_
          refine wq_seq ?_
          refine wc_cond rfl (fun h6 => ?_) (fun h6 => ?_)
          · (try simp only [beq_iff_eq, bne_iff_ne, ne_eq, decide_eq_true_eq, decide_eq_false_iff_not, beq_eq_false_iff_ne, bne_eq_false_iff_eq, Bool.not_eq_true', Bool.not_eq_false', Bool.not_eq_eq_eq_not, Bool.not_true, Bool.not_false, gt_iff_lt, ge_iff_le, Int.not_lt, Int.not_le] at h6)
            try (exfalso; first | contradiction | omega)
            all_goals
              
              refine wc_seq ?_
              refine wc_region ?_
              refine wl_val (r_assign rfl) (ltn rfl) ?_
              refine wl_nil ?_
              refine wq_seq ?_
              refine wc_ret ?_
              refine wq_block_ret ?_
              refine wq_then_ret ?_
              refine wq_end1 (.inl rfl) Tryd.results54 rfl ?_
              refine ⟨?_, rfl⟩; congr 1; first | (symm; rw [validM, decide_eq_true_eq]; omega) | (symm; rw [validM, decide_eq_false_iff_not]; omega) | (rw [validM, decide_eq_decide]; omega)
          · (try simp only [beq_iff_eq, bne_iff_ne, ne_eq, decide_eq_true_eq, decide_eq_false_iff_not, beq_eq_false_iff_ne, bne_eq_false_iff_eq, Bool.not_eq_true', Bool.not_eq_false', Bool.not_eq_eq_eq_not, Bool.not_true, Bool.not_false, gt_iff_lt, ge_iff_le, Int.not_lt, Int.not_le] at h6)
            try (exfalso; first | contradiction | omega)
            all_goals
              
              refine wc_skip ?_
              refine wq_block_normal ?_
              refine wq_seq ?_
              refine wc_seq ?_
              refine wc_region ?_
              refine wl_val (r_assign rfl) (ltn rfl) ?_
              refine wl_nil ?_
              refine wq_seq ?_
              refine wc_ret ?_
              refine wq_end1 (.inl rfl) Tryd.results54 rfl ?_
              refine ⟨?_, rfl⟩; congr 1; first | (symm; rw [validM, decide_eq_true_eq]; omega) | (symm; rw [validM, decide_eq_false_iff_not]; omega) | (rw [validM, decide_eq_decide]; omega)
      · (try simp only [beq_iff_eq, bne_iff_ne, ne_eq, decide_eq_true_eq, decide_eq_false_iff_not, beq_eq_false_iff_ne, bne_eq_false_iff_eq, Bool.not_eq_true', Bool.not_eq_false', Bool.not_eq_eq_eq_not, Bool.not_true, Bool.not_false, gt_iff_lt, ge_iff_le, Int.not_lt, Int.not_le] at h5)
        try (exfalso; first | contradiction | omega)
        all_goals
          refine wl_no rfl rfl rfl (ltn rfl) ?_
          refine wl_no rfl rfl rfl (ltn rfl) ?_
          refine wl_val (r_pick_f rfl rfl) (ltn rfl) ?_
          refine wl_val (r_assign rfl) (ltn rfl) ?_
          refine wl_nil ?_
          refine wq_seq ?_
          refine wc_cond_f rfl ?_
          refine wc_skip ?_
          refine wq_block_normal ?_
          refine wq_seq ?_
          refine wc_seq ?_
          refine wc_region ?_
          refine wl_val (r_assign rfl) (ltn rfl) ?_
          refine wl_nil ?_
          refine wq_seq ?_
          refine wc_ret ?_
          refine wq_end1 (.inl rfl) Tryd.results54 rfl ?_
          refine ⟨?_, rfl⟩; congr 1; first | (symm; rw [validM, decide_eq_true_eq]; omega) | (symm; rw [validM, decide_eq_false_iff_not]; omega) | (rw [validM, decide_eq_decide]; omega)
theorem is_ret : Ret Tryd.prog 41 #[.int .i32 r] w fun v w' => v = .bool (validM r) ∧ w = w' := by
  refine ret_enter Tryd.func41 rfl Tryd.ntmps41 (Nat.le_of_ble_eq_true rfl) ?_
  dsimp only [slots0, Nat.reduceAdd]
  refine wc_seq ?_
  refine wc_region ?_
  refine wl_val (r_assign rfl) (ltn rfl) ?_
  refine wl_nil ?_
  refine wq_seq ?_
  refine wc_seq ?_
  refine wc_region ?_
  refine wl_val (r_move rfl) (ltn rfl) ?_
  refine wl_eff (e_call (r_call rfl Tryd.func54 rfl rfl) (valid_ret)) (ltn rfl) ?_
  rintro _ _ ⟨rfl, rfl⟩
  refine wl_val (r_assign rfl) (ltn rfl) ?_
  refine wl_nil ?_
  refine wq_seq ?_
  refine wc_ret ?_
  refine wq_end1 (.inl rfl) Tryd.results41 rfl ?_
  exact ⟨rfl, rfl⟩
theorem control_ret : Ret Tryd.prog 17 #[.int .i32 r] w fun v w' => v = .bool (controlM r) ∧ w = w' := by
  refine ret_enter Tryd.func17 rfl Tryd.ntmps17 (Nat.le_of_ble_eq_true rfl) ?_
  dsimp only [slots0, Nat.reduceAdd]
  refine wc_seq ?_
  refine wc_region ?_
  refine wl_val (r_assign rfl) (ltn rfl) ?_
  refine wl_nil ?_
  refine wq_seq ?_
  refine wc_seq ?_
  refine wc_region ?_
  refine wl_val (r_move rfl) (ltn rfl) ?_
  refine wl_val (r_geq rfl rfl) (ltn rfl) ?_
  refine wl_split rfl (ltn rfl) (fun h1 => ?_) (fun h1 => ?_)
  · (try simp only [beq_iff_eq, bne_iff_ne, ne_eq, decide_eq_true_eq, decide_eq_false_iff_not, beq_eq_false_iff_ne, bne_eq_false_iff_eq, Bool.not_eq_true', Bool.not_eq_false', Bool.not_eq_eq_eq_not, Bool.not_true, Bool.not_false, gt_iff_lt, ge_iff_le, Int.not_lt, Int.not_le] at h1)
    try (exfalso; first | contradiction | omega)
    all_goals
      refine wl_yes rfl rfl ?_
      refine wl_val (r_move rfl) (ltn rfl) ?_
      refine wl_yes rfl rfl ?_
      refine wl_val (r_lss rfl rfl) (ltn rfl) ?_
      refine wl_val (r_pick_t rfl rfl) (ltn rfl) ?_
      refine wl_split rfl (ltn rfl) (fun h2 => ?_) (fun h2 => ?_)
      · (try simp only [beq_iff_eq, bne_iff_ne, ne_eq, decide_eq_true_eq, decide_eq_false_iff_not, beq_eq_false_iff_ne, bne_eq_false_iff_eq, Bool.not_eq_true', Bool.not_eq_false', Bool.not_eq_eq_eq_not, Bool.not_true, Bool.not_false, gt_iff_lt, ge_iff_le, Int.not_lt, Int.not_le] at h2)
        try (exfalso; first | contradiction | omega)
        all_goals
          refine wl_no rfl rfl rfl (ltn rfl) ?_
          refine wl_no rfl rfl rfl (ltn rfl) ?_
          refine wl_no rfl rfl rfl (ltn rfl) ?_
          refine wl_nou rfl rfl (ltn rfl) ?_
          refine wl_nou rfl rfl (ltn rfl) ?_
          refine wl_no rfl rfl rfl (ltn rfl) ?_
          refine wl_val (r_pick_t rfl rfl) (ltn rfl) ?_
          refine wl_val (r_assign rfl) (ltn rfl) ?_
          refine wl_nil ?_
          refine wq_seq ?_
          refine wc_ret ?_
          refine wq_end1 (.inl rfl) Tryd.results17 rfl ?_
          refine ⟨?_, rfl⟩; congr 1; first | (symm; rw [controlM, decide_eq_true_eq]; omega) | (symm; rw [controlM, decide_eq_false_iff_not]; omega) | (rw [controlM, decide_eq_decide]; omega)
      · (try simp only [beq_iff_eq, bne_iff_ne, ne_eq, decide_eq_true_eq, decide_eq_false_iff_not, beq_eq_false_iff_ne, bne_eq_false_iff_eq, Bool.not_eq_true', Bool.not_eq_false', Bool.not_eq_eq_eq_not, Bool.not_true, Bool.not_false, gt_iff_lt, ge_iff_le, Int.not_lt, Int.not_le] at h2)
        try (exfalso; first | contradiction | omega)
        all_goals
          refine wl_yes rfl rfl ?_
          refine wl_val (r_move rfl) (ltn rfl) ?_
          refine wl_yes rfl rfl ?_
          refine wl_val (r_geq rfl rfl) (ltn rfl) ?_
          refine wl_yes rfl rfl ?_
          refine wl_split rfl (ltn rfl) (fun h3 => ?_) (fun h3 => ?_)
          · (try simp only [beq_iff_eq, bne_iff_ne, ne_eq, decide_eq_true_eq, decide_eq_false_iff_not, beq_eq_false_iff_ne, bne_eq_false_iff_eq, Bool.not_eq_true', Bool.not_eq_false', Bool.not_eq_eq_eq_not, Bool.not_true, Bool.not_false, gt_iff_lt, ge_iff_le, Int.not_lt, Int.not_le] at h3)
            try (exfalso; first | contradiction | omega)
            all_goals
              refine wl_yes rfl rfl ?_
              refine wl_val (r_move rfl) (ltn rfl) ?_
              refine wl_yes rfl rfl ?_
              refine wl_val (r_leq rfl rfl) (ltn rfl) ?_
              refine wl_yes rfl rfl ?_
              refine wl_val (r_pick_t rfl rfl) (ltn rfl) ?_
              refine wl_val (r_pick_f rfl rfl) (ltn rfl) ?_
              refine wl_val (r_assign rfl) (ltn rfl) ?_
              refine wl_nil ?_
              refine wq_seq ?_
              refine wc_ret ?_
              refine wq_end1 (.inl rfl) Tryd.results17 rfl ?_
              refine ⟨?_, rfl⟩; congr 1; first | (symm; rw [controlM, decide_eq_true_eq]; omega) | (symm; rw [controlM, decide_eq_false_iff_not]; omega) | (rw [controlM, decide_eq_decide]; omega)
          · (try simp only [beq_iff_eq, bne_iff_ne, ne_eq, decide_eq_true_eq, decide_eq_false_iff_not, beq_eq_false_iff_ne, bne_eq_false_iff_eq, Bool.not_eq_true', Bool.not_eq_false', Bool.not_eq_eq_eq_not, Bool.not_true, Bool.not_false, gt_iff_lt, ge_iff_le, Int.not_lt, Int.not_le] at h3)
            try (exfalso; first | contradiction | omega)
            all_goals
              refine wl_no rfl rfl rfl (ltn rfl) ?_
              refine wl_no rfl rfl rfl (ltn rfl) ?_
              refine wl_yes rfl rfl ?_
              refine wl_val (r_pick_f rfl rfl) (ltn rfl) ?_
              refine wl_val (r_pick_f rfl rfl) (ltn rfl) ?_
              refine wl_val (r_assign rfl) (ltn rfl) ?_
              refine wl_nil ?_
              refine wq_seq ?_
              refine wc_ret ?_
              refine wq_end1 (.inl rfl) Tryd.results17 rfl ?_
              refine ⟨?_, rfl⟩; congr 1; first | (symm; rw [controlM, decide_eq_true_eq]; omega) | (symm; rw [controlM, decide_eq_false_iff_not]; omega) | (rw [controlM, decide_eq_decide]; omega)
  · (try simp only [beq_iff_eq, bne_iff_ne, ne_eq, decide_eq_true_eq, decide_eq_false_iff_not, beq_eq_false_iff_ne, bne_eq_false_iff_eq, Bool.not_eq_true', Bool.not_eq_false', Bool.not_eq_eq_eq_not, Bool.not_true, Bool.not_false, gt_iff_lt, ge_iff_le, Int.not_lt, Int.not_le] at h1)
    try (exfalso; first | contradiction | omega)
    all_goals
      refine wl_no rfl rfl rfl (ltn rfl) ?_
      refine wl_no rfl rfl rfl (ltn rfl) ?_
      refine wl_val (r_pick_f rfl rfl) (ltn rfl) ?_
      refine wl_val (r_move rfl) (ltn rfl) ?_
      refine wl_yes rfl rfl ?_
      refine wl_val (r_move rfl) (ltn rfl) ?_
      refine wl_yes rfl rfl ?_
      refine wl_val (r_geq rfl rfl) (ltn rfl) ?_
      refine wl_yes rfl rfl ?_
      refine wl_split rfl (ltn rfl) (fun h4 => ?_) (fun h4 => ?_)
      · (try simp only [beq_iff_eq, bne_iff_ne, ne_eq, decide_eq_true_eq, decide_eq_false_iff_not, beq_eq_false_iff_ne, bne_eq_false_iff_eq, Bool.not_eq_true', Bool.not_eq_false', Bool.not_eq_eq_eq_not, Bool.not_true, Bool.not_false, gt_iff_lt, ge_iff_le, Int.not_lt, Int.not_le] at h4)
        try (exfalso; first | contradiction | omega)
        all_goals
          refine wl_yes rfl rfl ?_
          refine wl_val (r_move rfl) (ltn rfl) ?_
          refine wl_yes rfl rfl ?_
          refine wl_val (r_leq rfl rfl) (ltn rfl) ?_
          refine wl_yes rfl rfl ?_
          refine wl_val (r_pick_t rfl rfl) (ltn rfl) ?_
          refine wl_val (r_pick_f rfl rfl) (ltn rfl) ?_
          refine wl_val (r_assign rfl) (ltn rfl) ?_
          refine wl_nil ?_
          refine wq_seq ?_
          refine wc_ret ?_
          refine wq_end1 (.inl rfl) Tryd.results17 rfl ?_
          refine ⟨?_, rfl⟩; congr 1; first | (symm; rw [controlM, decide_eq_true_eq]; omega) | (symm; rw [controlM, decide_eq_false_iff_not]; omega) | (rw [controlM, decide_eq_decide]; omega)
      · (try simp only [beq_iff_eq, bne_iff_ne, ne_eq, decide_eq_true_eq, decide_eq_false_iff_not, beq_eq_false_iff_ne, bne_eq_false_iff_eq, Bool.not_eq_true', Bool.not_eq_false', Bool.not_eq_eq_eq_not, Bool.not_true, Bool.not_false, gt_iff_lt, ge_iff_le, Int.not_lt, Int.not_le] at h4)
        try (exfalso; first | contradiction | omega)
        all_goals
          refine wl_no rfl rfl rfl (ltn rfl) ?_
          refine wl_no rfl rfl rfl (ltn rfl) ?_
          refine wl_yes rfl rfl ?_
          refine wl_val (r_pick_f rfl rfl) (ltn rfl) ?_
          refine wl_val (r_pick_f rfl rfl) (ltn rfl) ?_
          refine wl_val (r_assign rfl) (ltn rfl) ?_
          refine wl_nil ?_
          refine wq_seq ?_
          refine wc_ret ?_
          refine wq_end1 (.inl rfl) Tryd.results17 rfl ?_
          refine ⟨?_, rfl⟩; congr 1; first | (symm; rw [controlM, decide_eq_true_eq]; omega) | (symm; rw [controlM, decide_eq_false_iff_not]; omega) | (rw [controlM, decide_eq_decide]; omega)
theorem tab_len (T : List (Int × Int)) : (tabVals T).length = T.length * 2 := by
  induction T with
  | nil => rfl
  | cons x r ih => simp only [tabVals, List.flatMap_cons, List.length_append] at *; simp [ih]; omega
theorem tab_from (T : List (Int × Int)) (k : Nat) (h : k < T.length) : (tabVals T).getD (k * 2) undef = .int .i32 (T.getD k (0, 0)).1 ∧ (tabVals T).getD (k * 2 + 1) undef = .int .i32 (T.getD k (0, 0)).2 := by
  induction T generalizing k with
  | nil => simp at h
  | cons x r ih =>
    cases k with
    | zero => exact ⟨rfl, rfl⟩
    | succ k =>
      have := ih k (by simpa using h)
      rw [show (k + 1) * 2 = k * 2 + 2 from by omega, show k * 2 + 2 + 1 = (k * 2 + 1) + 2 from by omega]
      simpa [tabVals, List.getD_eq_getElem?_getD] using this
theorem within_take {r : Int} {T : List (Int × Int)} {k : Nat} (h : k < T.length) : within r (T.take (k + 1)) = (within r (T.take k) || decide ((T.getD k (0, 0)).1 ≤ r ∧ r ≤ (T.getD k (0, 0)).2)) := by
  unfold within
  rw [List.take_succ_eq_append_getElem h, List.any_append]
  simp [List.getD_eq_getElem?_getD, h]
theorem within_yes {r : Int} {T : List (Int × Int)} {k : Nat} (h : k < T.length) (hk : (T.getD k (0, 0)).1 ≤ r ∧ r ≤ (T.getD k (0, 0)).2) : within r T = true := by
  unfold within
  rw [List.any_eq_true]
  refine ⟨T.getD k (0, 0), ?_, by simpa using hk⟩
  rw [List.getD_eq_getElem?_getD, List.getElem?_eq_getElem h]
  exact List.getElem_mem h
theorem tab_in_ret {v : Value} {T : List (Int × Int)} (H : Holds w0 w F) (hr : Rd w0 2 v T.length (tabVals T)) (hT : T.length < 1000000) :
    Ret Tryd.prog 46 #[.int .i32 r, v] w fun v w' => v = .bool (within r T) ∧ Holds w0 w' F := by
  obtain ⟨hlen, a, c, rfl, hc1, hc2, hcell⟩ := hr
  refine ret_enter Tryd.func46 rfl Tryd.ntmps46 (Nat.le_of_ble_eq_true rfl) ?_
  dsimp only [slots0, Nat.reduceAdd]
  refine wc_seq ?_
  refine wc_region ?_
  refine wl_val (r_assign rfl) (ltn rfl) ?_
  refine wl_nil ?_
  refine wq_seq ?_
  refine wc_seq ?_
  refine wc_seq ?_
  refine wc_region ?_
  refine wl_val (r_move rfl) (ltn rfl) ?_
  refine wl_val (r_len Tryd.underlying62 rfl) (ltn rfl) ?_
  refine wl_val (r_move rfl) (ltn rfl) ?_
  refine wl_nil ?_
  refine wq_seq ?_
  refine wc_block ?_
  refine wc_loop [(0, _), (7, _), (8, _)] (fun (k : Nat) => [(9, .int .i64 (k : Int))]) (fun (k : Nat) W => k ≤ T.length ∧ within r (T.take k) = false ∧ Holds w0 W F) (fun (k : Nat) => T.length - k) (0) (Sub.cons rfl (Sub.cons rfl (Sub.cons rfl (Sub.nil _)))) (Sub.cons rfl (Sub.nil _)) ⟨by omega, rfl, H⟩ ?_
  rintro k w1 ⟨hk, hno, HL⟩
  dsimp only [List.cons_append, List.nil_append]
  refine wc_seq ?_
  refine wc_region ?_
  refine wl_val (r_lss rfl rfl) (ltn rfl) ?_
  refine wl_nil ?_
  refine wq_seq ?_
  refine wc_seq ?_
  refine wc_cond rfl (fun h1 => ?_) (fun h1 => ?_)
  · (try simp only [beq_iff_eq, bne_iff_ne, ne_eq, decide_eq_true_eq, decide_eq_false_iff_not, beq_eq_false_iff_ne, bne_eq_false_iff_eq, Bool.not_eq_true', Bool.not_eq_false', Bool.not_eq_eq_eq_not, Bool.not_true, Bool.not_false, gt_iff_lt, ge_iff_le, Int.not_lt, Int.not_le] at h1)
    try (exfalso; first | contradiction | omega)
    all_goals
      
      refine wc_skip ?_
      refine wq_seq ?_
      refine wc_seq ?_
      refine wc_block ?_
      refine wc_seq ?_
      have hk1 : k < T.length := by omega
      obtain ⟨b0, o, rfl, hq⟩ := hcell (by omega)
      have hq0 := hq (k * 2) (by omega)
      have hq1 := hq (k * 2 + 1) (by omega)
      rw [(tab_from T k hk1).1] at hq0
      rw [(tab_from T k hk1).2] at hq1
      rw [← Nat.add_assoc] at hq1
      refine wc_region ?_
      refine wl_val (r_index Tryd.underlying62 Tryd.sizeOf64 rfl rfl (by omega)) (ltn rfl) ?_
      refine wl_val (r_load_agg (cs := [.int .i32 (T.getD k (0, 0)).1, .int .i32 (T.getD k (0, 0)).2]) (by rw [Tryd.underlying64]; rfl) (plain_no Tryd.underlying64 rfl) Tryd.sizeOf64 rfl rfl (two_cells (by rw [show ((k : Int).toNat * 2) = k * 2 from by omega]; exact HL.cell hq0) (by rw [show ((k : Int).toNat * 2) = k * 2 from by omega]; exact HL.cell hq1))) (ltn rfl) ?_
      refine wl_eff (e_alloc HL Tryd.zeroValue64) (ltn rfl) ?_
      rintro _ w2 ⟨b2, rfl, H2⟩
      refine wl_eff0 (e_store_whole (cs := #[.int .i32 (T.getD k (0, 0)).1, .int .i32 (T.getD k (0, 0)).2]) H2 Tryd.sizeOf64 rfl rfl rfl rfl (by simp [Value.oneCell'])) ?_
      rintro _ w3 H3
      have HN := H3.right
      refine wl_nil ?_
      refine wq_seq ?_
      refine wc_seq ?_
      refine wc_region ?_
      refine wl_val (r_move rfl) (ltn rfl) ?_
      refine wl_val ((by first | exact r_field0 0 Tryd.underlying64 rfl rfl Tryd.sizeOf21 (by decide) rfl | exact r_field 0 Tryd.underlying64 rfl rfl Tryd.sizeOf21 (by decide) rfl)) (ltn rfl) ?_
      refine wl_val (r_load (plain_of Tryd.underlying21 rfl) rfl (cell_of_blk H3.get.2 rfl)) (ltn rfl) ?_
      refine wl_val (r_geq rfl rfl) (ltn rfl) ?_
      refine wl_split rfl (ltn rfl) (fun h2 => ?_) (fun h2 => ?_)
      · (try simp only [beq_iff_eq, bne_iff_ne, ne_eq, decide_eq_true_eq, decide_eq_false_iff_not, beq_eq_false_iff_ne, bne_eq_false_iff_eq, Bool.not_eq_true', Bool.not_eq_false', Bool.not_eq_eq_eq_not, Bool.not_true, Bool.not_false, gt_iff_lt, ge_iff_le, Int.not_lt, Int.not_le] at h2)
        try (exfalso; first | contradiction | omega)
        all_goals
          refine wl_yes rfl rfl ?_
          refine wl_val (r_move rfl) (ltn rfl) ?_
          refine wl_yes rfl rfl ?_
          refine wl_val ((by first | exact r_field0 1 Tryd.underlying64 rfl rfl Tryd.sizeOf21 (by decide) rfl | exact r_field 1 Tryd.underlying64 rfl rfl Tryd.sizeOf21 (by decide) rfl)) (ltn rfl) ?_
          refine wl_yes rfl rfl ?_
          refine wl_val (r_load (plain_of Tryd.underlying21 rfl) rfl (cell_of_blk H3.get.2 rfl)) (ltn rfl) ?_
          refine wl_yes rfl rfl ?_
          refine wl_val (r_leq rfl rfl) (ltn rfl) ?_
          refine wl_val (r_pick_t rfl rfl) (ltn rfl) ?_
          refine wl_nil ?_
          refine wq_seq ?_
          refine wc_cond rfl (fun h3 => ?_) (fun h3 => ?_)
          · (try simp only [beq_iff_eq, bne_iff_ne, ne_eq, decide_eq_true_eq, decide_eq_false_iff_not, beq_eq_false_iff_ne, bne_eq_false_iff_eq, Bool.not_eq_true', Bool.not_eq_false', Bool.not_eq_eq_eq_not, Bool.not_true, Bool.not_false, gt_iff_lt, ge_iff_le, Int.not_lt, Int.not_le] at h3)
            try (exfalso; first | contradiction | omega)
            all_goals
              
              refine wc_seq ?_
              refine wc_region ?_
              refine wl_val (r_assign rfl) (ltn rfl) ?_
              refine wl_nil ?_
              refine wq_seq ?_
              refine wc_ret ?_
              refine wq_block_ret ?_
              refine wq_then_ret ?_
              refine wq_then_ret ?_
              refine wq_block_ret ?_
              refine wq_then_ret ?_
              refine wq_end1 (.inl rfl) Tryd.results46 rfl ?_
              exact ⟨by rw [within_yes hk1 (by omega)], HN⟩
          · (try simp only [beq_iff_eq, bne_iff_ne, ne_eq, decide_eq_true_eq, decide_eq_false_iff_not, beq_eq_false_iff_ne, bne_eq_false_iff_eq, Bool.not_eq_true', Bool.not_eq_false', Bool.not_eq_eq_eq_not, Bool.not_true, Bool.not_false, gt_iff_lt, ge_iff_le, Int.not_lt, Int.not_le] at h3)
            try (exfalso; first | contradiction | omega)
            all_goals
              
              refine wc_skip ?_
              refine wq_block_normal ?_
              refine wq_seq ?_
              refine wc_region ?_
              refine wl_val (r_add rfl rfl (by omega)) (ltn rfl) ?_
              refine wl_val (r_move rfl) (ltn rfl) ?_
              refine wl_nil ?_
              refine wq_round (k + 1) ?_ ?_ ?_ ?_
              · exact (Sub.cons rfl (Sub.nil _))
              · exact (Sub.cons rfl (Sub.cons rfl (Sub.cons rfl (Sub.nil _))))
              · (try dsimp only)
                exact ⟨by omega, by rw [within_take hk1, hno, Bool.false_or, decide_eq_false_iff_not]; omega, HN⟩
              · (try dsimp only); omega
      · (try simp only [beq_iff_eq, bne_iff_ne, ne_eq, decide_eq_true_eq, decide_eq_false_iff_not, beq_eq_false_iff_ne, bne_eq_false_iff_eq, Bool.not_eq_true', Bool.not_eq_false', Bool.not_eq_eq_eq_not, Bool.not_true, Bool.not_false, gt_iff_lt, ge_iff_le, Int.not_lt, Int.not_le] at h2)
        try (exfalso; first | contradiction | omega)
        all_goals
          refine wl_no rfl rfl rfl (ltn rfl) ?_
          refine wl_no rfl rfl rfl (ltn rfl) ?_
          refine wl_no rfl rfl rfl (ltn rfl) ?_
          refine wl_no rfl rfl rfl (ltn rfl) ?_
          refine wl_val (r_pick_f rfl rfl) (ltn rfl) ?_
          refine wl_nil ?_
          refine wq_seq ?_
          refine wc_cond_f rfl ?_
          refine wc_skip ?_
          refine wq_block_normal ?_
          refine wq_seq ?_
          refine wc_region ?_
          refine wl_val (r_add rfl rfl (by omega)) (ltn rfl) ?_
          refine wl_val (r_move rfl) (ltn rfl) ?_
          refine wl_nil ?_
          refine wq_round (k + 1) ?_ ?_ ?_ ?_
          · exact (Sub.cons rfl (Sub.nil _))
          · exact (Sub.cons rfl (Sub.cons rfl (Sub.cons rfl (Sub.nil _))))
          · (try dsimp only)
            exact ⟨by omega, by rw [within_take hk1, hno, Bool.false_or, decide_eq_false_iff_not]; omega, HN⟩
          · (try dsimp only); omega
  · (try simp only [beq_iff_eq, bne_iff_ne, ne_eq, decide_eq_true_eq, decide_eq_false_iff_not, beq_eq_false_iff_ne, bne_eq_false_iff_eq, Bool.not_eq_true', Bool.not_eq_false', Bool.not_eq_eq_eq_not, Bool.not_true, Bool.not_false, gt_iff_lt, ge_iff_le, Int.not_lt, Int.not_le] at h1)
    try (exfalso; first | contradiction | omega)
    all_goals
      
      refine wc_exit ?_
      refine wq_then_exit ?_
      refine wq_then_exit ?_
      refine wq_block_hit ?_
      refine wq_seq ?_
      refine wc_seq ?_
      refine wc_region ?_
      refine wl_val (r_assign rfl) (ltn rfl) ?_
      refine wl_nil ?_
      refine wq_seq ?_
      refine wc_ret ?_
      refine wq_end1 (.inl rfl) Tryd.results46 rfl ?_
      exact ⟨by rw [← hno, List.take_of_length_le (by omega)], HL⟩
theorem width_ret (H : Holds w0 w F) (hT : Tabs w0) : Ret Tryd.prog 19 #[.int .i32 r] w fun v w' => v = .int .i64 (widthM r) ∧ Holds w0 w' F := by
  refine ret_enter Tryd.func19 rfl Tryd.ntmps19 (Nat.le_of_ble_eq_true rfl) ?_
  dsimp only [slots0, Nat.reduceAdd]
  refine wc_seq ?_
  refine wc_region ?_
  refine wl_val (r_assign rfl) (ltn rfl) ?_
  refine wl_nil ?_
  refine wq_seq ?_
  refine wc_seq ?_
  refine wc_block ?_
  refine wc_seq ?_
  refine wc_region ?_
  refine wl_val (r_move rfl) (ltn rfl) ?_
  refine wl_eff (e_call (r_call rfl Tryd.func41 rfl rfl) (is_ret)) (ltn rfl) ?_
  rintro _ _ ⟨rfl, rfl⟩
  refine wl_val (r_not rfl) (ltn rfl) ?_
  refine wl_split rfl (ltn rfl) (fun h1 => ?_) (fun h1 => ?_)
  · (try simp only [beq_iff_eq, bne_iff_ne, ne_eq, decide_eq_true_eq, decide_eq_false_iff_not, beq_eq_false_iff_ne, bne_eq_false_iff_eq, Bool.not_eq_true', Bool.not_eq_false', Bool.not_eq_eq_eq_not, Bool.not_true, Bool.not_false, gt_iff_lt, ge_iff_le, Int.not_lt, Int.not_le] at h1)
    try (exfalso; first | contradiction | omega)
    all_goals
      refine wl_no rfl rfl rfl (ltn rfl) ?_
      refine wl_no rfl rfl rfl (ltn rfl) ?_
      refine wl_val (r_pick_t rfl rfl) (ltn rfl) ?_
      refine wl_val (r_move rfl) (ltn rfl) ?_
      refine wl_no rfl rfl rfl (ltn rfl) ?_
      refine wl_no rfl rfl rfl (ltn rfl) ?_
      refine wl_no rfl rfl rfl (ltn rfl) ?_
      refine wl_val (r_pick_t rfl rfl) (ltn rfl) ?_
      refine wl_val (r_assign rfl) (ltn rfl) ?_
      refine wl_nil ?_
      refine wq_seq ?_
      refine wc_cond_t rfl ?_
      refine wc_seq ?_
      refine wc_region ?_
      refine wl_val (r_assign rfl) (ltn rfl) ?_
      refine wl_nil ?_
      refine wq_seq ?_
      refine wc_ret ?_
      refine wq_block_ret ?_
      refine wq_then_ret ?_
      refine wq_end1 (.inl rfl) Tryd.results19 rfl ?_
      exact ⟨by unfold widthM; simp [*], H⟩
  · (try simp only [beq_iff_eq, bne_iff_ne, ne_eq, decide_eq_true_eq, decide_eq_false_iff_not, beq_eq_false_iff_ne, bne_eq_false_iff_eq, Bool.not_eq_true', Bool.not_eq_false', Bool.not_eq_eq_eq_not, Bool.not_true, Bool.not_false, gt_iff_lt, ge_iff_le, Int.not_lt, Int.not_le] at h1)
    try (exfalso; first | contradiction | omega)
    all_goals
      refine wl_yes rfl rfl ?_
      refine wl_val (r_move rfl) (ltn rfl) ?_
      refine wl_yes rfl rfl ?_
      refine wl_eff (e_call (r_call rfl Tryd.func17 rfl rfl) (control_ret)) (ltn rfl) ?_
      rintro _ _ ⟨rfl, rfl⟩
      refine wl_val (r_pick_f rfl rfl) (ltn rfl) ?_
      refine wl_split rfl (ltn rfl) (fun h2 => ?_) (fun h2 => ?_)
      · (try simp only [beq_iff_eq, bne_iff_ne, ne_eq, decide_eq_true_eq, decide_eq_false_iff_not, beq_eq_false_iff_ne, bne_eq_false_iff_eq, Bool.not_eq_true', Bool.not_eq_false', Bool.not_eq_eq_eq_not, Bool.not_true, Bool.not_false, gt_iff_lt, ge_iff_le, Int.not_lt, Int.not_le] at h2)
        try (exfalso; first | contradiction | omega)
        all_goals
          refine wl_no rfl rfl rfl (ltn rfl) ?_
          refine wl_no rfl rfl rfl (ltn rfl) ?_
          refine wl_no rfl rfl rfl (ltn rfl) ?_
          refine wl_val (r_pick_t rfl rfl) (ltn rfl) ?_
          refine wl_val (r_assign rfl) (ltn rfl) ?_
          refine wl_nil ?_
          refine wq_seq ?_
          refine wc_cond_t rfl ?_
          refine wc_seq ?_
          refine wc_region ?_
          refine wl_val (r_assign rfl) (ltn rfl) ?_
          refine wl_nil ?_
          refine wq_seq ?_
          refine wc_ret ?_
          refine wq_block_ret ?_
          refine wq_then_ret ?_
          refine wq_end1 (.inl rfl) Tryd.results19 rfl ?_
          exact ⟨by unfold widthM; simp [*], H⟩
      · (try simp only [beq_iff_eq, bne_iff_ne, ne_eq, decide_eq_true_eq, decide_eq_false_iff_not, beq_eq_false_iff_ne, bne_eq_false_iff_eq, Bool.not_eq_true', Bool.not_eq_false', Bool.not_eq_eq_eq_not, Bool.not_true, Bool.not_false, gt_iff_lt, ge_iff_le, Int.not_lt, Int.not_le] at h2)
        try (exfalso; first | contradiction | omega)
        all_goals
          refine wl_yes rfl rfl ?_
          refine wl_val (r_move rfl) (ltn rfl) ?_
          refine wl_yes rfl rfl ?_
          refine wl_val (r_slice_arr Tryd.underlying65 Tryd.sizeOf64 rfl) (ltn rfl) ?_
          refine wl_yes rfl rfl ?_
          refine wl_eff (e_call (r_call rfl Tryd.func46 rfl rfl) (tab_in_ret (T := noneT) H hT.tnone (by decide))) (ltn rfl) ?_
          rintro _ w3 ⟨rfl, H3⟩
          refine wl_val (r_pick_f rfl rfl) (ltn rfl) ?_
          refine wl_val (r_assign rfl) (ltn rfl) ?_
          refine wl_nil ?_
          refine wq_seq ?_
          refine wc_cond rfl (fun h3 => ?_) (fun h3 => ?_)
          · (try simp only [beq_iff_eq, bne_iff_ne, ne_eq, decide_eq_true_eq, decide_eq_false_iff_not, beq_eq_false_iff_ne, bne_eq_false_iff_eq, Bool.not_eq_true', Bool.not_eq_false', Bool.not_eq_eq_eq_not, Bool.not_true, Bool.not_false, gt_iff_lt, ge_iff_le, Int.not_lt, Int.not_le] at h3)
            try (exfalso; first | contradiction | omega)
            all_goals
              
              refine wc_seq ?_
              refine wc_region ?_
              refine wl_val (r_assign rfl) (ltn rfl) ?_
              refine wl_nil ?_
              refine wq_seq ?_
              refine wc_ret ?_
              refine wq_block_ret ?_
              refine wq_then_ret ?_
              refine wq_end1 (.inl rfl) Tryd.results19 rfl ?_
              exact ⟨by unfold widthM; simp [*], H3⟩
          · (try simp only [beq_iff_eq, bne_iff_ne, ne_eq, decide_eq_true_eq, decide_eq_false_iff_not, beq_eq_false_iff_ne, bne_eq_false_iff_eq, Bool.not_eq_true', Bool.not_eq_false', Bool.not_eq_eq_eq_not, Bool.not_true, Bool.not_false, gt_iff_lt, ge_iff_le, Int.not_lt, Int.not_le] at h3)
            try (exfalso; first | contradiction | omega)
            all_goals
              
              refine wc_seq ?_
              refine wc_region ?_
              refine wl_val (r_move rfl) (ltn rfl) ?_
              refine wl_val (r_slice_arr Tryd.underlying66 Tryd.sizeOf64 rfl) (ltn rfl) ?_
              refine wl_eff (e_call (r_call rfl Tryd.func46 rfl rfl) (tab_in_ret (T := wideT) H3 hT.twide (by decide))) (ltn rfl) ?_
              rintro _ w4 ⟨rfl, H4⟩
              refine wl_val (r_assign rfl) (ltn rfl) ?_
              refine wl_nil ?_
              refine wq_seq ?_
              refine wc_cond rfl (fun h4 => ?_) (fun h4 => ?_)
              · (try simp only [beq_iff_eq, bne_iff_ne, ne_eq, decide_eq_true_eq, decide_eq_false_iff_not, beq_eq_false_iff_ne, bne_eq_false_iff_eq, Bool.not_eq_true', Bool.not_eq_false', Bool.not_eq_eq_eq_not, Bool.not_true, Bool.not_false, gt_iff_lt, ge_iff_le, Int.not_lt, Int.not_le] at h4)
                try (exfalso; first | contradiction | omega)
                all_goals
                  
                  refine wc_seq ?_
                  refine wc_region ?_
                  refine wl_val (r_assign rfl) (ltn rfl) ?_
                  refine wl_nil ?_
                  refine wq_seq ?_
                  refine wc_ret ?_
                  refine wq_block_ret ?_
                  refine wq_then_ret ?_
                  refine wq_end1 (.inl rfl) Tryd.results19 rfl ?_
                  exact ⟨by unfold widthM; simp [*], H4⟩
              · (try simp only [beq_iff_eq, bne_iff_ne, ne_eq, decide_eq_true_eq, decide_eq_false_iff_not, beq_eq_false_iff_ne, bne_eq_false_iff_eq, Bool.not_eq_true', Bool.not_eq_false', Bool.not_eq_eq_eq_not, Bool.not_true, Bool.not_false, gt_iff_lt, ge_iff_le, Int.not_lt, Int.not_le] at h4)
                try (exfalso; first | contradiction | omega)
                all_goals
                  
                  refine wc_skip ?_
                  refine wq_block_normal ?_
                  refine wq_seq ?_
                  refine wc_seq ?_
                  refine wc_region ?_
                  refine wl_val (r_assign rfl) (ltn rfl) ?_
                  refine wl_nil ?_
                  refine wq_seq ?_
                  refine wc_ret ?_
                  refine wq_end1 (.inl rfl) Tryd.results19 rfl ?_
                  exact ⟨by unfold widthM; simp [*], H4⟩
theorem letter_ret (H : Holds w0 w F) (hT : Tabs w0) : Ret Tryd.prog 30 #[.int .i32 r] w fun v w' => v = .bool (letterM r) ∧ Holds w0 w' F := by
  refine ret_enter Tryd.func30 rfl Tryd.ntmps30 (Nat.le_of_ble_eq_true rfl) ?_
  dsimp only [slots0, Nat.reduceAdd]
  refine wc_seq ?_
  refine wc_region ?_
  refine wl_val (r_assign rfl) (ltn rfl) ?_
  refine wl_nil ?_
  refine wq_seq ?_
  refine wc_seq ?_
  refine wc_seq ?_
  refine wc_region ?_
  refine wl_val (r_move rfl) (ltn rfl) ?_
  refine wl_val (r_lss rfl rfl) (ltn rfl) ?_
  refine wl_nil ?_
  refine wq_seq ?_
  refine wc_cond rfl (fun h1 => ?_) (fun h1 => ?_)
  · (try simp only [beq_iff_eq, bne_iff_ne, ne_eq, decide_eq_true_eq, decide_eq_false_iff_not, beq_eq_false_iff_ne, bne_eq_false_iff_eq, Bool.not_eq_true', Bool.not_eq_false', Bool.not_eq_eq_eq_not, Bool.not_true, Bool.not_false, gt_iff_lt, ge_iff_le, Int.not_lt, Int.not_le] at h1)
    try (exfalso; first | contradiction | omega)
    all_goals
      
      refine wc_seq ?_
      refine wc_region ?_
      refine wl_val (r_move rfl) (ltn rfl) ?_
      refine wl_val (r_geq rfl rfl) (ltn rfl) ?_
      refine wl_split rfl (ltn rfl) (fun h2 => ?_) (fun h2 => ?_)
      · (try simp only [beq_iff_eq, bne_iff_ne, ne_eq, decide_eq_true_eq, decide_eq_false_iff_not, beq_eq_false_iff_ne, bne_eq_false_iff_eq, Bool.not_eq_true', Bool.not_eq_false', Bool.not_eq_eq_eq_not, Bool.not_true, Bool.not_false, gt_iff_lt, ge_iff_le, Int.not_lt, Int.not_le] at h2)
        try (exfalso; first | contradiction | omega)
        all_goals
          refine wl_yes rfl rfl ?_
          refine wl_val (r_move rfl) (ltn rfl) ?_
          refine wl_yes rfl rfl ?_
          refine wl_val (r_leq rfl rfl) (ltn rfl) ?_
          refine wl_val (r_pick_t rfl rfl) (ltn rfl) ?_
          refine wl_split rfl (ltn rfl) (fun h3 => ?_) (fun h3 => ?_)
          · (try simp only [beq_iff_eq, bne_iff_ne, ne_eq, decide_eq_true_eq, decide_eq_false_iff_not, beq_eq_false_iff_ne, bne_eq_false_iff_eq, Bool.not_eq_true', Bool.not_eq_false', Bool.not_eq_eq_eq_not, Bool.not_true, Bool.not_false, gt_iff_lt, ge_iff_le, Int.not_lt, Int.not_le] at h3)
            try (exfalso; first | contradiction | omega)
            all_goals
              refine wl_no rfl rfl rfl (ltn rfl) ?_
              refine wl_no rfl rfl rfl (ltn rfl) ?_
              refine wl_no rfl rfl rfl (ltn rfl) ?_
              refine wl_nou rfl rfl (ltn rfl) ?_
              refine wl_nou rfl rfl (ltn rfl) ?_
              refine wl_no rfl rfl rfl (ltn rfl) ?_
              refine wl_val (r_pick_t rfl rfl) (ltn rfl) ?_
              refine wl_val (r_move rfl) (ltn rfl) ?_
              refine wl_no rfl rfl rfl (ltn rfl) ?_
              refine wl_no rfl rfl rfl (ltn rfl) ?_
              refine wl_no rfl rfl rfl (ltn rfl) ?_
              refine wl_nou rfl rfl (ltn rfl) ?_
              refine wl_nou rfl rfl (ltn rfl) ?_
              refine wl_no rfl rfl rfl (ltn rfl) ?_
              refine wl_val (r_pick_t rfl rfl) (ltn rfl) ?_
              refine wl_val (r_assign rfl) (ltn rfl) ?_
              refine wl_nil ?_
              refine wq_seq ?_
              refine wc_ret ?_
              refine wq_then_ret ?_
              refine wq_end1 (.inl rfl) Tryd.results30 rfl ?_
              refine ⟨?_, H⟩; congr 1; rw [letterM, if_pos (by omega)]; first | (symm; rw [decide_eq_true_eq]; omega) | (symm; rw [decide_eq_false_iff_not]; omega) | (rw [decide_eq_decide]; omega)
          · (try simp only [beq_iff_eq, bne_iff_ne, ne_eq, decide_eq_true_eq, decide_eq_false_iff_not, beq_eq_false_iff_ne, bne_eq_false_iff_eq, Bool.not_eq_true', Bool.not_eq_false', Bool.not_eq_eq_eq_not, Bool.not_true, Bool.not_false, gt_iff_lt, ge_iff_le, Int.not_lt, Int.not_le] at h3)
            try (exfalso; first | contradiction | omega)
            all_goals
              refine wl_yes rfl rfl ?_
              refine wl_val (r_move rfl) (ltn rfl) ?_
              refine wl_yes rfl rfl ?_
              refine wl_val (r_geq rfl rfl) (ltn rfl) ?_
              refine wl_yes rfl rfl ?_
              refine wl_split rfl (ltn rfl) (fun h4 => ?_) (fun h4 => ?_)
              · (try simp only [beq_iff_eq, bne_iff_ne, ne_eq, decide_eq_true_eq, decide_eq_false_iff_not, beq_eq_false_iff_ne, bne_eq_false_iff_eq, Bool.not_eq_true', Bool.not_eq_false', Bool.not_eq_eq_eq_not, Bool.not_true, Bool.not_false, gt_iff_lt, ge_iff_le, Int.not_lt, Int.not_le] at h4)
                try (exfalso; first | contradiction | omega)
                all_goals
                  refine wl_yes rfl rfl ?_
                  refine wl_val (r_move rfl) (ltn rfl) ?_
                  refine wl_yes rfl rfl ?_
                  refine wl_val (r_leq rfl rfl) (ltn rfl) ?_
                  refine wl_yes rfl rfl ?_
                  refine wl_val (r_pick_t rfl rfl) (ltn rfl) ?_
                  refine wl_val (r_pick_f rfl rfl) (ltn rfl) ?_
                  refine wl_split rfl (ltn rfl) (fun h5 => ?_) (fun h5 => ?_)
                  · (try simp only [beq_iff_eq, bne_iff_ne, ne_eq, decide_eq_true_eq, decide_eq_false_iff_not, beq_eq_false_iff_ne, bne_eq_false_iff_eq, Bool.not_eq_true', Bool.not_eq_false', Bool.not_eq_eq_eq_not, Bool.not_true, Bool.not_false, gt_iff_lt, ge_iff_le, Int.not_lt, Int.not_le] at h5)
                    try (exfalso; first | contradiction | omega)
                    all_goals
                      refine wl_no rfl rfl rfl (ltn rfl) ?_
                      refine wl_no rfl rfl rfl (ltn rfl) ?_
                      refine wl_no rfl rfl rfl (ltn rfl) ?_
                      refine wl_nou rfl rfl (ltn rfl) ?_
                      refine wl_nou rfl rfl (ltn rfl) ?_
                      refine wl_no rfl rfl rfl (ltn rfl) ?_
                      refine wl_val (r_pick_t rfl rfl) (ltn rfl) ?_
                      refine wl_val (r_assign rfl) (ltn rfl) ?_
                      refine wl_nil ?_
                      refine wq_seq ?_
                      refine wc_ret ?_
                      refine wq_then_ret ?_
                      refine wq_end1 (.inl rfl) Tryd.results30 rfl ?_
                      refine ⟨?_, H⟩; congr 1; rw [letterM, if_pos (by omega)]; first | (symm; rw [decide_eq_true_eq]; omega) | (symm; rw [decide_eq_false_iff_not]; omega) | (rw [decide_eq_decide]; omega)
                  · (try simp only [beq_iff_eq, bne_iff_ne, ne_eq, decide_eq_true_eq, decide_eq_false_iff_not, beq_eq_false_iff_ne, bne_eq_false_iff_eq, Bool.not_eq_true', Bool.not_eq_false', Bool.not_eq_eq_eq_not, Bool.not_true, Bool.not_false, gt_iff_lt, ge_iff_le, Int.not_lt, Int.not_le] at h5)
                    try (exfalso; first | contradiction | omega)
                    all_goals
                      refine wl_yes rfl rfl ?_
                      refine wl_val (r_move rfl) (ltn rfl) ?_
                      refine wl_yes rfl rfl ?_
                      refine wl_val (r_geq rfl rfl) (ltn rfl) ?_
                      refine wl_yes rfl rfl ?_
                      refine wl_split rfl (ltn rfl) (fun h6 => ?_) (fun h6 => ?_)
                      · (try simp only [beq_iff_eq, bne_iff_ne, ne_eq, decide_eq_true_eq, decide_eq_false_iff_not, beq_eq_false_iff_ne, bne_eq_false_iff_eq, Bool.not_eq_true', Bool.not_eq_false', Bool.not_eq_eq_eq_not, Bool.not_true, Bool.not_false, gt_iff_lt, ge_iff_le, Int.not_lt, Int.not_le] at h6)
                        try (exfalso; first | contradiction | omega)
                        all_goals
                          refine wl_yes rfl rfl ?_
                          refine wl_val (r_move rfl) (ltn rfl) ?_
                          refine wl_yes rfl rfl ?_
                          refine wl_val (r_leq rfl rfl) (ltn rfl) ?_
                          refine wl_yes rfl rfl ?_
                          refine wl_val (r_pick_t rfl rfl) (ltn rfl) ?_
                          refine wl_val (r_pick_f rfl rfl) (ltn rfl) ?_
                          refine wl_val (r_assign rfl) (ltn rfl) ?_
                          refine wl_nil ?_
                          refine wq_seq ?_
                          refine wc_ret ?_
                          refine wq_then_ret ?_
                          refine wq_end1 (.inl rfl) Tryd.results30 rfl ?_
                          refine ⟨?_, H⟩; congr 1; rw [letterM, if_pos (by omega)]; first | (symm; rw [decide_eq_true_eq]; omega) | (symm; rw [decide_eq_false_iff_not]; omega) | (rw [decide_eq_decide]; omega)
                      · (try simp only [beq_iff_eq, bne_iff_ne, ne_eq, decide_eq_true_eq, decide_eq_false_iff_not, beq_eq_false_iff_ne, bne_eq_false_iff_eq, Bool.not_eq_true', Bool.not_eq_false', Bool.not_eq_eq_eq_not, Bool.not_true, Bool.not_false, gt_iff_lt, ge_iff_le, Int.not_lt, Int.not_le] at h6)
                        try (exfalso; first | contradiction | omega)
                        all_goals
                          refine wl_no rfl rfl rfl (ltn rfl) ?_
                          refine wl_no rfl rfl rfl (ltn rfl) ?_
                          refine wl_yes rfl rfl ?_
                          refine wl_val (r_pick_f rfl rfl) (ltn rfl) ?_
                          refine wl_val (r_pick_f rfl rfl) (ltn rfl) ?_
                          refine wl_val (r_assign rfl) (ltn rfl) ?_
                          refine wl_nil ?_
                          refine wq_seq ?_
                          refine wc_ret ?_
                          refine wq_then_ret ?_
                          refine wq_end1 (.inl rfl) Tryd.results30 rfl ?_
                          refine ⟨?_, H⟩; congr 1; rw [letterM, if_pos (by omega)]; first | (symm; rw [decide_eq_true_eq]; omega) | (symm; rw [decide_eq_false_iff_not]; omega) | (rw [decide_eq_decide]; omega)
              · (try simp only [beq_iff_eq, bne_iff_ne, ne_eq, decide_eq_true_eq, decide_eq_false_iff_not, beq_eq_false_iff_ne, bne_eq_false_iff_eq, Bool.not_eq_true', Bool.not_eq_false', Bool.not_eq_eq_eq_not, Bool.not_true, Bool.not_false, gt_iff_lt, ge_iff_le, Int.not_lt, Int.not_le] at h4)
                try (exfalso; first | contradiction | omega)
                all_goals
                  refine wl_no rfl rfl rfl (ltn rfl) ?_
                  refine wl_no rfl rfl rfl (ltn rfl) ?_
                  refine wl_yes rfl rfl ?_
                  refine wl_val (r_pick_f rfl rfl) (ltn rfl) ?_
                  refine wl_val (r_pick_f rfl rfl) (ltn rfl) ?_
                  refine wl_val (r_move rfl) (ltn rfl) ?_
                  refine wl_yes rfl rfl ?_
                  refine wl_val (r_move rfl) (ltn rfl) ?_
                  refine wl_yes rfl rfl ?_
                  refine wl_val (r_geq rfl rfl) (ltn rfl) ?_
                  refine wl_yes rfl rfl ?_
                  refine wl_split rfl (ltn rfl) (fun h7 => ?_) (fun h7 => ?_)
                  · (try simp only [beq_iff_eq, bne_iff_ne, ne_eq, decide_eq_true_eq, decide_eq_false_iff_not, beq_eq_false_iff_ne, bne_eq_false_iff_eq, Bool.not_eq_true', Bool.not_eq_false', Bool.not_eq_eq_eq_not, Bool.not_true, Bool.not_false, gt_iff_lt, ge_iff_le, Int.not_lt, Int.not_le] at h7)
                    try (exfalso; first | contradiction | omega)
                    all_goals
                      refine wl_yes rfl rfl ?_
                      refine wl_val (r_move rfl) (ltn rfl) ?_
                      refine wl_yes rfl rfl ?_
                      refine wl_val (r_leq rfl rfl) (ltn rfl) ?_
                      refine wl_yes rfl rfl ?_
                      refine wl_val (r_pick_t rfl rfl) (ltn rfl) ?_
                      refine wl_val (r_pick_f rfl rfl) (ltn rfl) ?_
                      refine wl_val (r_assign rfl) (ltn rfl) ?_
                      refine wl_nil ?_
                      refine wq_seq ?_
                      refine wc_ret ?_
                      refine wq_then_ret ?_
                      refine wq_end1 (.inl rfl) Tryd.results30 rfl ?_
                      refine ⟨?_, H⟩; congr 1; rw [letterM, if_pos (by omega)]; first | (symm; rw [decide_eq_true_eq]; omega) | (symm; rw [decide_eq_false_iff_not]; omega) | (rw [decide_eq_decide]; omega)
                  · (try simp only [beq_iff_eq, bne_iff_ne, ne_eq, decide_eq_true_eq, decide_eq_false_iff_not, beq_eq_false_iff_ne, bne_eq_false_iff_eq, Bool.not_eq_true', Bool.not_eq_false', Bool.not_eq_eq_eq_not, Bool.not_true, Bool.not_false, gt_iff_lt, ge_iff_le, Int.not_lt, Int.not_le] at h7)
                    try (exfalso; first | contradiction | omega)
                    all_goals
                      refine wl_no rfl rfl rfl (ltn rfl) ?_
                      refine wl_no rfl rfl rfl (ltn rfl) ?_
                      refine wl_yes rfl rfl ?_
                      refine wl_val (r_pick_f rfl rfl) (ltn rfl) ?_
                      refine wl_val (r_pick_f rfl rfl) (ltn rfl) ?_
                      refine wl_val (r_assign rfl) (ltn rfl) ?_
                      refine wl_nil ?_
                      refine wq_seq ?_
                      refine wc_ret ?_
                      refine wq_then_ret ?_
                      refine wq_end1 (.inl rfl) Tryd.results30 rfl ?_
                      refine ⟨?_, H⟩; congr 1; rw [letterM, if_pos (by omega)]; first | (symm; rw [decide_eq_true_eq]; omega) | (symm; rw [decide_eq_false_iff_not]; omega) | (rw [decide_eq_decide]; omega)
      · (try simp only [beq_iff_eq, bne_iff_ne, ne_eq, decide_eq_true_eq, decide_eq_false_iff_not, beq_eq_false_iff_ne, bne_eq_false_iff_eq, Bool.not_eq_true', Bool.not_eq_false', Bool.not_eq_eq_eq_not, Bool.not_true, Bool.not_false, gt_iff_lt, ge_iff_le, Int.not_lt, Int.not_le] at h2)
        try (exfalso; first | contradiction | omega)
        all_goals
          refine wl_no rfl rfl rfl (ltn rfl) ?_
          refine wl_no rfl rfl rfl (ltn rfl) ?_
          refine wl_val (r_pick_f rfl rfl) (ltn rfl) ?_
          refine wl_val (r_move rfl) (ltn rfl) ?_
          refine wl_yes rfl rfl ?_
          refine wl_val (r_move rfl) (ltn rfl) ?_
          refine wl_yes rfl rfl ?_
          refine wl_val (r_geq rfl rfl) (ltn rfl) ?_
          refine wl_yes rfl rfl ?_
          refine wl_split rfl (ltn rfl) (fun h8 => ?_) (fun h8 => ?_)
          · (try simp only [beq_iff_eq, bne_iff_ne, ne_eq, decide_eq_true_eq, decide_eq_false_iff_not, beq_eq_false_iff_ne, bne_eq_false_iff_eq, Bool.not_eq_true', Bool.not_eq_false', Bool.not_eq_eq_eq_not, Bool.not_true, Bool.not_false, gt_iff_lt, ge_iff_le, Int.not_lt, Int.not_le] at h8)
            try (exfalso; first | contradiction | omega)
            all_goals
              refine wl_yes rfl rfl ?_
              refine wl_val (r_move rfl) (ltn rfl) ?_
              refine wl_yes rfl rfl ?_
              refine wl_val (r_leq rfl rfl) (ltn rfl) ?_
              refine wl_yes rfl rfl ?_
              refine wl_val (r_pick_t rfl rfl) (ltn rfl) ?_
              refine wl_val (r_pick_f rfl rfl) (ltn rfl) ?_
              refine wl_split rfl (ltn rfl) (fun h9 => ?_) (fun h9 => ?_)
              · (try simp only [beq_iff_eq, bne_iff_ne, ne_eq, decide_eq_true_eq, decide_eq_false_iff_not, beq_eq_false_iff_ne, bne_eq_false_iff_eq, Bool.not_eq_true', Bool.not_eq_false', Bool.not_eq_eq_eq_not, Bool.not_true, Bool.not_false, gt_iff_lt, ge_iff_le, Int.not_lt, Int.not_le] at h9)
                try (exfalso; first | contradiction | omega)
                all_goals
                  refine wl_no rfl rfl rfl (ltn rfl) ?_
                  refine wl_no rfl rfl rfl (ltn rfl) ?_
                  refine wl_no rfl rfl rfl (ltn rfl) ?_
                  refine wl_nou rfl rfl (ltn rfl) ?_
                  refine wl_nou rfl rfl (ltn rfl) ?_
                  refine wl_no rfl rfl rfl (ltn rfl) ?_
                  refine wl_val (r_pick_t rfl rfl) (ltn rfl) ?_
                  refine wl_val (r_assign rfl) (ltn rfl) ?_
                  refine wl_nil ?_
                  refine wq_seq ?_
                  refine wc_ret ?_
                  refine wq_then_ret ?_
                  refine wq_end1 (.inl rfl) Tryd.results30 rfl ?_
                  refine ⟨?_, H⟩; congr 1; rw [letterM, if_pos (by omega)]; first | (symm; rw [decide_eq_true_eq]; omega) | (symm; rw [decide_eq_false_iff_not]; omega) | (rw [decide_eq_decide]; omega)
              · (try simp only [beq_iff_eq, bne_iff_ne, ne_eq, decide_eq_true_eq, decide_eq_false_iff_not, beq_eq_false_iff_ne, bne_eq_false_iff_eq, Bool.not_eq_true', Bool.not_eq_false', Bool.not_eq_eq_eq_not, Bool.not_true, Bool.not_false, gt_iff_lt, ge_iff_le, Int.not_lt, Int.not_le] at h9)
                try (exfalso; first | contradiction | omega)
                all_goals
                  refine wl_yes rfl rfl ?_
                  refine wl_val (r_move rfl) (ltn rfl) ?_
                  refine wl_yes rfl rfl ?_
                  refine wl_val (r_geq rfl rfl) (ltn rfl) ?_
                  refine wl_yes rfl rfl ?_
                  refine wl_split rfl (ltn rfl) (fun h10 => ?_) (fun h10 => ?_)
                  · (try simp only [beq_iff_eq, bne_iff_ne, ne_eq, decide_eq_true_eq, decide_eq_false_iff_not, beq_eq_false_iff_ne, bne_eq_false_iff_eq, Bool.not_eq_true', Bool.not_eq_false', Bool.not_eq_eq_eq_not, Bool.not_true, Bool.not_false, gt_iff_lt, ge_iff_le, Int.not_lt, Int.not_le] at h10)
                    try (exfalso; first | contradiction | omega)
                    all_goals
                      refine wl_yes rfl rfl ?_
                      refine wl_val (r_move rfl) (ltn rfl) ?_
                      refine wl_yes rfl rfl ?_
                      refine wl_val (r_leq rfl rfl) (ltn rfl) ?_
                      refine wl_yes rfl rfl ?_
                      refine wl_val (r_pick_t rfl rfl) (ltn rfl) ?_
                      refine wl_val (r_pick_f rfl rfl) (ltn rfl) ?_
                      refine wl_val (r_assign rfl) (ltn rfl) ?_
                      refine wl_nil ?_
                      refine wq_seq ?_
                      refine wc_ret ?_
                      refine wq_then_ret ?_
                      refine wq_end1 (.inl rfl) Tryd.results30 rfl ?_
                      refine ⟨?_, H⟩; congr 1; rw [letterM, if_pos (by omega)]; first | (symm; rw [decide_eq_true_eq]; omega) | (symm; rw [decide_eq_false_iff_not]; omega) | (rw [decide_eq_decide]; omega)
                  · (try simp only [beq_iff_eq, bne_iff_ne, ne_eq, decide_eq_true_eq, decide_eq_false_iff_not, beq_eq_false_iff_ne, bne_eq_false_iff_eq, Bool.not_eq_true', Bool.not_eq_false', Bool.not_eq_eq_eq_not, Bool.not_true, Bool.not_false, gt_iff_lt, ge_iff_le, Int.not_lt, Int.not_le] at h10)
                    try (exfalso; first | contradiction | omega)
                    all_goals
                      refine wl_no rfl rfl rfl (ltn rfl) ?_
                      refine wl_no rfl rfl rfl (ltn rfl) ?_
                      refine wl_yes rfl rfl ?_
                      refine wl_val (r_pick_f rfl rfl) (ltn rfl) ?_
                      refine wl_val (r_pick_f rfl rfl) (ltn rfl) ?_
                      refine wl_val (r_assign rfl) (ltn rfl) ?_
                      refine wl_nil ?_
                      refine wq_seq ?_
                      refine wc_ret ?_
                      refine wq_then_ret ?_
                      refine wq_end1 (.inl rfl) Tryd.results30 rfl ?_
                      refine ⟨?_, H⟩; congr 1; rw [letterM, if_pos (by omega)]; first | (symm; rw [decide_eq_true_eq]; omega) | (symm; rw [decide_eq_false_iff_not]; omega) | (rw [decide_eq_decide]; omega)
          · (try simp only [beq_iff_eq, bne_iff_ne, ne_eq, decide_eq_true_eq, decide_eq_false_iff_not, beq_eq_false_iff_ne, bne_eq_false_iff_eq, Bool.not_eq_true', Bool.not_eq_false', Bool.not_eq_eq_eq_not, Bool.not_true, Bool.not_false, gt_iff_lt, ge_iff_le, Int.not_lt, Int.not_le] at h8)
            try (exfalso; first | contradiction | omega)
            all_goals
              refine wl_no rfl rfl rfl (ltn rfl) ?_
              refine wl_no rfl rfl rfl (ltn rfl) ?_
              refine wl_yes rfl rfl ?_
              refine wl_val (r_pick_f rfl rfl) (ltn rfl) ?_
              refine wl_val (r_pick_f rfl rfl) (ltn rfl) ?_
              refine wl_val (r_move rfl) (ltn rfl) ?_
              refine wl_yes rfl rfl ?_
              refine wl_val (r_move rfl) (ltn rfl) ?_
              refine wl_yes rfl rfl ?_
              refine wl_val (r_geq rfl rfl) (ltn rfl) ?_
              refine wl_yes rfl rfl ?_
              refine wl_split rfl (ltn rfl) (fun h11 => ?_) (fun h11 => ?_)
              · (try simp only [beq_iff_eq, bne_iff_ne, ne_eq, decide_eq_true_eq, decide_eq_false_iff_not, beq_eq_false_iff_ne, bne_eq_false_iff_eq, Bool.not_eq_true', Bool.not_eq_false', Bool.not_eq_eq_eq_not, Bool.not_true, Bool.not_false, gt_iff_lt, ge_iff_le, Int.not_lt, Int.not_le] at h11)
                try (exfalso; first | contradiction | omega)
                all_goals
                  refine wl_yes rfl rfl ?_
                  refine wl_val (r_move rfl) (ltn rfl) ?_
                  refine wl_yes rfl rfl ?_
                  refine wl_val (r_leq rfl rfl) (ltn rfl) ?_
                  refine wl_yes rfl rfl ?_
                  refine wl_val (r_pick_t rfl rfl) (ltn rfl) ?_
                  refine wl_val (r_pick_f rfl rfl) (ltn rfl) ?_
                  refine wl_val (r_assign rfl) (ltn rfl) ?_
                  refine wl_nil ?_
                  refine wq_seq ?_
                  refine wc_ret ?_
                  refine wq_then_ret ?_
                  refine wq_end1 (.inl rfl) Tryd.results30 rfl ?_
                  refine ⟨?_, H⟩; congr 1; rw [letterM, if_pos (by omega)]; first | (symm; rw [decide_eq_true_eq]; omega) | (symm; rw [decide_eq_false_iff_not]; omega) | (rw [decide_eq_decide]; omega)
              · (try simp only [beq_iff_eq, bne_iff_ne, ne_eq, decide_eq_true_eq, decide_eq_false_iff_not, beq_eq_false_iff_ne, bne_eq_false_iff_eq, Bool.not_eq_true', Bool.not_eq_false', Bool.not_eq_eq_eq_not, Bool.not_true, Bool.not_false, gt_iff_lt, ge_iff_le, Int.not_lt, Int.not_le] at h11)
                try (exfalso; first | contradiction | omega)
                all_goals
                  refine wl_no rfl rfl rfl (ltn rfl) ?_
                  refine wl_no rfl rfl rfl (ltn rfl) ?_
                  refine wl_yes rfl rfl ?_
                  refine wl_val (r_pick_f rfl rfl) (ltn rfl) ?_
                  refine wl_val (r_pick_f rfl rfl) (ltn rfl) ?_
                  refine wl_val (r_assign rfl) (ltn rfl) ?_
                  refine wl_nil ?_
                  refine wq_seq ?_
                  refine wc_ret ?_
                  refine wq_then_ret ?_
                  refine wq_end1 (.inl rfl) Tryd.results30 rfl ?_
                  refine ⟨?_, H⟩; congr 1; rw [letterM, if_pos (by omega)]; first | (symm; rw [decide_eq_true_eq]; omega) | (symm; rw [decide_eq_false_iff_not]; omega) | (rw [decide_eq_decide]; omega)
  · (try simp only [beq_iff_eq, bne_iff_ne, ne_eq, decide_eq_true_eq, decide_eq_false_iff_not, beq_eq_false_iff_ne, bne_eq_false_iff_eq, Bool.not_eq_true', Bool.not_eq_false', Bool.not_eq_eq_eq_not, Bool.not_true, Bool.not_false, gt_iff_lt, ge_iff_le, Int.not_lt, Int.not_le] at h1)
    try (exfalso; first | contradiction | omega)
    all_goals
      
      refine wc_skip ?_
      refine wq_seq ?_
      refine wc_seq ?_
      refine wc_block ?_
      refine wc_seq ?_
      refine wc_seq ?_
      refine wc_region ?_
      refine wl_val (r_move rfl) (ltn rfl) ?_
      refine wl_val (r_eql rfl rfl) (ltn rfl) ?_
      refine wl_split rfl (ltn rfl) (fun h12 => ?_) (fun h12 => ?_)
      · (try simp only [beq_iff_eq, bne_iff_ne, ne_eq, decide_eq_true_eq, decide_eq_false_iff_not, beq_eq_false_iff_ne, bne_eq_false_iff_eq, Bool.not_eq_true', Bool.not_eq_false', Bool.not_eq_eq_eq_not, Bool.not_true, Bool.not_false, gt_iff_lt, ge_iff_le, Int.not_lt, Int.not_le] at h12)
        try (exfalso; first | contradiction | omega)
        all_goals
          refine wl_no rfl rfl rfl (ltn rfl) ?_
          refine wl_no rfl rfl rfl (ltn rfl) ?_
          refine wl_val (r_pick_t rfl rfl) (ltn rfl) ?_
          refine wl_val (r_move rfl) (ltn rfl) ?_
          refine wl_no rfl rfl rfl (ltn rfl) ?_
          refine wl_no rfl rfl rfl (ltn rfl) ?_
          refine wl_val (r_pick_t rfl rfl) (ltn rfl) ?_
          refine wl_val (r_assign rfl) (ltn rfl) ?_
          refine wl_nil ?_
          refine wq_seq ?_
          refine wc_cond_t rfl ?_
          refine wc_skip ?_
          refine wq_seq ?_
          refine wc_cond_t rfl ?_
          refine wc_seq ?_
          refine wc_region ?_
          refine wl_val (r_assign rfl) (ltn rfl) ?_
          refine wl_nil ?_
          refine wq_seq ?_
          refine wc_ret ?_
          refine wq_block_ret ?_
          refine wq_then_ret ?_
          refine wq_end1 (.inl rfl) Tryd.results30 rfl ?_
          refine ⟨?_, H⟩; congr 1; rw [letterM, if_neg (by omega), if_pos (by omega)]
      · (try simp only [beq_iff_eq, bne_iff_ne, ne_eq, decide_eq_true_eq, decide_eq_false_iff_not, beq_eq_false_iff_ne, bne_eq_false_iff_eq, Bool.not_eq_true', Bool.not_eq_false', Bool.not_eq_eq_eq_not, Bool.not_true, Bool.not_false, gt_iff_lt, ge_iff_le, Int.not_lt, Int.not_le] at h12)
        try (exfalso; first | contradiction | omega)
        all_goals
          refine wl_yes rfl rfl ?_
          refine wl_val (r_move rfl) (ltn rfl) ?_
          refine wl_yes rfl rfl ?_
          refine wl_val (r_eql rfl rfl) (ltn rfl) ?_
          refine wl_val (r_pick_f rfl rfl) (ltn rfl) ?_
          refine wl_split rfl (ltn rfl) (fun h13 => ?_) (fun h13 => ?_)
          · (try simp only [beq_iff_eq, bne_iff_ne, ne_eq, decide_eq_true_eq, decide_eq_false_iff_not, beq_eq_false_iff_ne, bne_eq_false_iff_eq, Bool.not_eq_true', Bool.not_eq_false', Bool.not_eq_eq_eq_not, Bool.not_true, Bool.not_false, gt_iff_lt, ge_iff_le, Int.not_lt, Int.not_le] at h13)
            try (exfalso; first | contradiction | omega)
            all_goals
              refine wl_no rfl rfl rfl (ltn rfl) ?_
              refine wl_no rfl rfl rfl (ltn rfl) ?_
              refine wl_val (r_pick_t rfl rfl) (ltn rfl) ?_
              refine wl_val (r_assign rfl) (ltn rfl) ?_
              refine wl_nil ?_
              refine wq_seq ?_
              refine wc_cond_t rfl ?_
              refine wc_skip ?_
              refine wq_seq ?_
              refine wc_cond_t rfl ?_
              refine wc_seq ?_
              refine wc_region ?_
              refine wl_val (r_assign rfl) (ltn rfl) ?_
              refine wl_nil ?_
              refine wq_seq ?_
              refine wc_ret ?_
              refine wq_block_ret ?_
              refine wq_then_ret ?_
              refine wq_end1 (.inl rfl) Tryd.results30 rfl ?_
              refine ⟨?_, H⟩; congr 1; rw [letterM, if_neg (by omega), if_pos (by omega)]
          · (try simp only [beq_iff_eq, bne_iff_ne, ne_eq, decide_eq_true_eq, decide_eq_false_iff_not, beq_eq_false_iff_ne, bne_eq_false_iff_eq, Bool.not_eq_true', Bool.not_eq_false', Bool.not_eq_eq_eq_not, Bool.not_true, Bool.not_false, gt_iff_lt, ge_iff_le, Int.not_lt, Int.not_le] at h13)
            try (exfalso; first | contradiction | omega)
            all_goals
              refine wl_yes rfl rfl ?_
              refine wl_val (r_move rfl) (ltn rfl) ?_
              refine wl_yes rfl rfl ?_
              refine wl_val (r_eql rfl rfl) (ltn rfl) ?_
              refine wl_val (r_pick_f rfl rfl) (ltn rfl) ?_
              refine wl_val (r_assign rfl) (ltn rfl) ?_
              refine wl_nil ?_
              refine wq_seq ?_
              refine wc_cond rfl (fun h14 => ?_) (fun h14 => ?_)
              · (try simp only [beq_iff_eq, bne_iff_ne, ne_eq, decide_eq_true_eq, decide_eq_false_iff_not, beq_eq_false_iff_ne, bne_eq_false_iff_eq, Bool.not_eq_true', Bool.not_eq_false', Bool.not_eq_eq_eq_not, Bool.not_true, Bool.not_false, gt_iff_lt, ge_iff_le, Int.not_lt, Int.not_le] at h14)
                try (exfalso; first | contradiction | omega)
                all_goals
                  
                  refine wc_skip ?_
                  refine wq_seq ?_
                  refine wc_cond rfl (fun h15 => ?_) (fun h15 => ?_)
                  · (try simp only [beq_iff_eq, bne_iff_ne, ne_eq, decide_eq_true_eq, decide_eq_false_iff_not, beq_eq_false_iff_ne, bne_eq_false_iff_eq, Bool.not_eq_true', Bool.not_eq_false', Bool.not_eq_eq_eq_not, Bool.not_true, Bool.not_false, gt_iff_lt, ge_iff_le, Int.not_lt, Int.not_le] at h15)
                    try (exfalso; first | contradiction | omega)
                    all_goals
                      
                      refine wc_seq ?_
                      refine wc_region ?_
                      refine wl_val (r_assign rfl) (ltn rfl) ?_
                      refine wl_nil ?_
                      refine wq_seq ?_
                      refine wc_ret ?_
                      refine wq_block_ret ?_
                      refine wq_then_ret ?_
                      refine wq_end1 (.inl rfl) Tryd.results30 rfl ?_
                      refine ⟨?_, H⟩; congr 1; rw [letterM, if_neg (by omega), if_pos (by omega)]
                  · (try simp only [beq_iff_eq, bne_iff_ne, ne_eq, decide_eq_true_eq, decide_eq_false_iff_not, beq_eq_false_iff_ne, bne_eq_false_iff_eq, Bool.not_eq_true', Bool.not_eq_false', Bool.not_eq_eq_eq_not, Bool.not_true, Bool.not_false, gt_iff_lt, ge_iff_le, Int.not_lt, Int.not_le] at h15)
                    try (exfalso; first | contradiction | omega)
                    all_goals
                      
                      refine wc_skip ?_
                      refine wq_block_normal ?_
                      refine wq_seq ?_
                      refine wc_seq ?_
                      refine wc_region ?_
                      refine wl_val (r_move rfl) (ltn rfl) ?_
                      refine wl_eff (e_call (r_call rfl Tryd.func41 rfl rfl) (is_ret)) (ltn rfl) ?_
                      rintro _ _ ⟨rfl, rfl⟩
                      refine wl_split rfl (ltn rfl) (fun h16 => ?_) (fun h16 => ?_)
                      · (try simp only [beq_iff_eq, bne_iff_ne, ne_eq, decide_eq_true_eq, decide_eq_false_iff_not, beq_eq_false_iff_ne, bne_eq_false_iff_eq, Bool.not_eq_true', Bool.not_eq_false', Bool.not_eq_eq_eq_not, Bool.not_true, Bool.not_false, gt_iff_lt, ge_iff_le, Int.not_lt, Int.not_le] at h16)
                        try (exfalso; first | contradiction | omega)
                        all_goals
                          refine wl_yes rfl rfl ?_
                          refine wl_val (r_move rfl) (ltn rfl) ?_
                          refine wl_yes rfl rfl ?_
                          refine wl_eff (e_call (r_call rfl Tryd.func19 rfl rfl) (width_ret H hT)) (ltn rfl) ?_
                          rintro _ w2 ⟨rfl, H2⟩
                          refine wl_yes rfl rfl ?_
                          refine wl_val (r_gtr rfl rfl) (ltn rfl) ?_
                          refine wl_val (r_pick_t rfl rfl) (ltn rfl) ?_
                          refine wl_val (r_assign rfl) (ltn rfl) ?_
                          refine wl_nil ?_
                          refine wq_seq ?_
                          refine wc_ret ?_
                          refine wq_end1 (.inl rfl) Tryd.results30 rfl ?_
                          refine ⟨?_, H2⟩; congr 1; rw [letterM, if_neg (by omega), if_neg (by omega)]; simp [*]
                      · (try simp only [beq_iff_eq, bne_iff_ne, ne_eq, decide_eq_true_eq, decide_eq_false_iff_not, beq_eq_false_iff_ne, bne_eq_false_iff_eq, Bool.not_eq_true', Bool.not_eq_false', Bool.not_eq_eq_eq_not, Bool.not_true, Bool.not_false, gt_iff_lt, ge_iff_le, Int.not_lt, Int.not_le] at h16)
                        try (exfalso; first | contradiction | omega)
                        all_goals
                          refine wl_no rfl rfl rfl (ltn rfl) ?_
                          refine wl_no rfl rfl rfl (ltn rfl) ?_
                          refine wl_no rfl rfl rfl (ltn rfl) ?_
                          refine wl_val (r_pick_f rfl rfl) (ltn rfl) ?_
                          refine wl_val (r_assign rfl) (ltn rfl) ?_
                          refine wl_nil ?_
                          refine wq_seq ?_
                          refine wc_ret ?_
                          refine wq_end1 (.inl rfl) Tryd.results30 rfl ?_
                          refine ⟨?_, H⟩; congr 1; rw [letterM, if_neg (by omega), if_neg (by omega)]; simp [*]
              · (try simp only [beq_iff_eq, bne_iff_ne, ne_eq, decide_eq_true_eq, decide_eq_false_iff_not, beq_eq_false_iff_ne, bne_eq_false_iff_eq, Bool.not_eq_true', Bool.not_eq_false', Bool.not_eq_eq_eq_not, Bool.not_true, Bool.not_false, gt_iff_lt, ge_iff_le, Int.not_lt, Int.not_le] at h14)
                try (exfalso; first | contradiction | omega)
                all_goals
                  
                  refine wc_seq ?_
                  refine wc_region ?_
                  refine wl_val (r_move rfl) (ltn rfl) ?_
                  refine wl_val (r_geq rfl rfl) (ltn rfl) ?_
                  refine wl_split rfl (ltn rfl) (fun h17 => ?_) (fun h17 => ?_)
                  · (try simp only [beq_iff_eq, bne_iff_ne, ne_eq, decide_eq_true_eq, decide_eq_false_iff_not, beq_eq_false_iff_ne, bne_eq_false_iff_eq, Bool.not_eq_true', Bool.not_eq_false', Bool.not_eq_eq_eq_not, Bool.not_true, Bool.not_false, gt_iff_lt, ge_iff_le, Int.not_lt, Int.not_le] at h17)
                    try (exfalso; first | contradiction | omega)
                    all_goals
                      refine wl_yes rfl rfl ?_
                      refine wl_val (r_move rfl) (ltn rfl) ?_
                      refine wl_yes rfl rfl ?_
                      refine wl_val (r_leq rfl rfl) (ltn rfl) ?_
                      refine wl_val (r_pick_t rfl rfl) (ltn rfl) ?_
                      refine wl_val (r_assign rfl) (ltn rfl) ?_
                      refine wl_nil ?_
                      refine wq_seq ?_
                      refine wc_cond rfl (fun h18 => ?_) (fun h18 => ?_)
                      · (try simp only [beq_iff_eq, bne_iff_ne, ne_eq, decide_eq_true_eq, decide_eq_false_iff_not, beq_eq_false_iff_ne, bne_eq_false_iff_eq, Bool.not_eq_true', Bool.not_eq_false', Bool.not_eq_eq_eq_not, Bool.not_true, Bool.not_false, gt_iff_lt, ge_iff_le, Int.not_lt, Int.not_le] at h18)
                        try (exfalso; first | contradiction | omega)
                        all_goals
                          
                          refine wc_skip ?_
                          refine wq_seq ?_
                          refine wc_cond rfl (fun h19 => ?_) (fun h19 => ?_)
                          · (try simp only [beq_iff_eq, bne_iff_ne, ne_eq, decide_eq_true_eq, decide_eq_false_iff_not, beq_eq_false_iff_ne, bne_eq_false_iff_eq, Bool.not_eq_true', Bool.not_eq_false', Bool.not_eq_eq_eq_not, Bool.not_true, Bool.not_false, gt_iff_lt, ge_iff_le, Int.not_lt, Int.not_le] at h19)
                            try (exfalso; first | contradiction | omega)
                            all_goals
                              
                              refine wc_seq ?_
                              refine wc_region ?_
                              refine wl_val (r_assign rfl) (ltn rfl) ?_
                              refine wl_nil ?_
                              refine wq_seq ?_
                              refine wc_ret ?_
                              refine wq_block_ret ?_
                              refine wq_then_ret ?_
                              refine wq_end1 (.inl rfl) Tryd.results30 rfl ?_
                              refine ⟨?_, H⟩; congr 1; rw [letterM, if_neg (by omega), if_pos (by omega)]
                          · (try simp only [beq_iff_eq, bne_iff_ne, ne_eq, decide_eq_true_eq, decide_eq_false_iff_not, beq_eq_false_iff_ne, bne_eq_false_iff_eq, Bool.not_eq_true', Bool.not_eq_false', Bool.not_eq_eq_eq_not, Bool.not_true, Bool.not_false, gt_iff_lt, ge_iff_le, Int.not_lt, Int.not_le] at h19)
                            try (exfalso; first | contradiction | omega)
                            all_goals
                              
                              refine wc_skip ?_
                              refine wq_block_normal ?_
                              refine wq_seq ?_
                              refine wc_seq ?_
                              refine wc_region ?_
                              refine wl_val (r_move rfl) (ltn rfl) ?_
                              refine wl_eff (e_call (r_call rfl Tryd.func41 rfl rfl) (is_ret)) (ltn rfl) ?_
                              rintro _ _ ⟨rfl, rfl⟩
                              refine wl_split rfl (ltn rfl) (fun h20 => ?_) (fun h20 => ?_)
                              · (try simp only [beq_iff_eq, bne_iff_ne, ne_eq, decide_eq_true_eq, decide_eq_false_iff_not, beq_eq_false_iff_ne, bne_eq_false_iff_eq, Bool.not_eq_true', Bool.not_eq_false', Bool.not_eq_eq_eq_not, Bool.not_true, Bool.not_false, gt_iff_lt, ge_iff_le, Int.not_lt, Int.not_le] at h20)
                                try (exfalso; first | contradiction | omega)
                                all_goals
                                  refine wl_yes rfl rfl ?_
                                  refine wl_val (r_move rfl) (ltn rfl) ?_
                                  refine wl_yes rfl rfl ?_
                                  refine wl_eff (e_call (r_call rfl Tryd.func19 rfl rfl) (width_ret H hT)) (ltn rfl) ?_
                                  rintro _ w4 ⟨rfl, H4⟩
                                  refine wl_yes rfl rfl ?_
                                  refine wl_val (r_gtr rfl rfl) (ltn rfl) ?_
                                  refine wl_val (r_pick_t rfl rfl) (ltn rfl) ?_
                                  refine wl_val (r_assign rfl) (ltn rfl) ?_
                                  refine wl_nil ?_
                                  refine wq_seq ?_
                                  refine wc_ret ?_
                                  refine wq_end1 (.inl rfl) Tryd.results30 rfl ?_
                                  refine ⟨?_, H4⟩; congr 1; rw [letterM, if_neg (by omega), if_neg (by omega)]; simp [*]
                              · (try simp only [beq_iff_eq, bne_iff_ne, ne_eq, decide_eq_true_eq, decide_eq_false_iff_not, beq_eq_false_iff_ne, bne_eq_false_iff_eq, Bool.not_eq_true', Bool.not_eq_false', Bool.not_eq_eq_eq_not, Bool.not_true, Bool.not_false, gt_iff_lt, ge_iff_le, Int.not_lt, Int.not_le] at h20)
                                try (exfalso; first | contradiction | omega)
                                all_goals
                                  refine wl_no rfl rfl rfl (ltn rfl) ?_
                                  refine wl_no rfl rfl rfl (ltn rfl) ?_
                                  refine wl_no rfl rfl rfl (ltn rfl) ?_
                                  refine wl_val (r_pick_f rfl rfl) (ltn rfl) ?_
                                  refine wl_val (r_assign rfl) (ltn rfl) ?_
                                  refine wl_nil ?_
                                  refine wq_seq ?_
                                  refine wc_ret ?_
                                  refine wq_end1 (.inl rfl) Tryd.results30 rfl ?_
                                  refine ⟨?_, H⟩; congr 1; rw [letterM, if_neg (by omega), if_neg (by omega)]; simp [*]
                      · (try simp only [beq_iff_eq, bne_iff_ne, ne_eq, decide_eq_true_eq, decide_eq_false_iff_not, beq_eq_false_iff_ne, bne_eq_false_iff_eq, Bool.not_eq_true', Bool.not_eq_false', Bool.not_eq_eq_eq_not, Bool.not_true, Bool.not_false, gt_iff_lt, ge_iff_le, Int.not_lt, Int.not_le] at h18)
                        try (exfalso; first | contradiction | omega)
                        all_goals
                          
                          refine wc_seq ?_
                          refine wc_region ?_
                          refine wl_val (r_move rfl) (ltn rfl) ?_
                          refine wl_val (r_geq rfl rfl) (ltn rfl) ?_
                          refine wl_split rfl (ltn rfl) (fun h21 => ?_) (fun h21 => ?_)
                          · (try simp only [beq_iff_eq, bne_iff_ne, ne_eq, decide_eq_true_eq, decide_eq_false_iff_not, beq_eq_false_iff_ne, bne_eq_false_iff_eq, Bool.not_eq_true', Bool.not_eq_false', Bool.not_eq_eq_eq_not, Bool.not_true, Bool.not_false, gt_iff_lt, ge_iff_le, Int.not_lt, Int.not_le] at h21)
                            try (exfalso; first | contradiction | omega)
                            all_goals
                              refine wl_yes rfl rfl ?_
                              refine wl_val (r_move rfl) (ltn rfl) ?_
                              refine wl_yes rfl rfl ?_
                              refine wl_val (r_leq rfl rfl) (ltn rfl) ?_
                              refine wl_val (r_pick_t rfl rfl) (ltn rfl) ?_
                              refine wl_val (r_assign rfl) (ltn rfl) ?_
                              refine wl_nil ?_
                              refine wq_seq ?_
                              refine wc_cond rfl (fun h22 => ?_) (fun h22 => ?_)
                              · (try simp only [beq_iff_eq, bne_iff_ne, ne_eq, decide_eq_true_eq, decide_eq_false_iff_not, beq_eq_false_iff_ne, bne_eq_false_iff_eq, Bool.not_eq_true', Bool.not_eq_false', Bool.not_eq_eq_eq_not, Bool.not_true, Bool.not_false, gt_iff_lt, ge_iff_le, Int.not_lt, Int.not_le] at h22)
                                try (exfalso; first | contradiction | omega)
                                all_goals
                                  
                                  refine wc_skip ?_
                                  refine wq_seq ?_
                                  refine wc_cond rfl (fun h23 => ?_) (fun h23 => ?_)
                                  · (try simp only [beq_iff_eq, bne_iff_ne, ne_eq, decide_eq_true_eq, decide_eq_false_iff_not, beq_eq_false_iff_ne, bne_eq_false_iff_eq, Bool.not_eq_true', Bool.not_eq_false', Bool.not_eq_eq_eq_not, Bool.not_true, Bool.not_false, gt_iff_lt, ge_iff_le, Int.not_lt, Int.not_le] at h23)
                                    try (exfalso; first | contradiction | omega)
                                    all_goals
                                      
                                      refine wc_seq ?_
                                      refine wc_region ?_
                                      refine wl_val (r_assign rfl) (ltn rfl) ?_
                                      refine wl_nil ?_
                                      refine wq_seq ?_
                                      refine wc_ret ?_
                                      refine wq_block_ret ?_
                                      refine wq_then_ret ?_
                                      refine wq_end1 (.inl rfl) Tryd.results30 rfl ?_
                                      refine ⟨?_, H⟩; congr 1; rw [letterM, if_neg (by omega), if_pos (by omega)]
                                  · (try simp only [beq_iff_eq, bne_iff_ne, ne_eq, decide_eq_true_eq, decide_eq_false_iff_not, beq_eq_false_iff_ne, bne_eq_false_iff_eq, Bool.not_eq_true', Bool.not_eq_false', Bool.not_eq_eq_eq_not, Bool.not_true, Bool.not_false, gt_iff_lt, ge_iff_le, Int.not_lt, Int.not_le] at h23)
                                    try (exfalso; first | contradiction | omega)
                                    all_goals
                                      
                                      refine wc_skip ?_
                                      refine wq_block_normal ?_
                                      refine wq_seq ?_
                                      refine wc_seq ?_
                                      refine wc_region ?_
                                      refine wl_val (r_move rfl) (ltn rfl) ?_
                                      refine wl_eff (e_call (r_call rfl Tryd.func41 rfl rfl) (is_ret)) (ltn rfl) ?_
                                      rintro _ _ ⟨rfl, rfl⟩
                                      refine wl_split rfl (ltn rfl) (fun h24 => ?_) (fun h24 => ?_)
                                      · (try simp only [beq_iff_eq, bne_iff_ne, ne_eq, decide_eq_true_eq, decide_eq_false_iff_not, beq_eq_false_iff_ne, bne_eq_false_iff_eq, Bool.not_eq_true', Bool.not_eq_false', Bool.not_eq_eq_eq_not, Bool.not_true, Bool.not_false, gt_iff_lt, ge_iff_le, Int.not_lt, Int.not_le] at h24)
                                        try (exfalso; first | contradiction | omega)
                                        all_goals
                                          refine wl_yes rfl rfl ?_
                                          refine wl_val (r_move rfl) (ltn rfl) ?_
                                          refine wl_yes rfl rfl ?_
                                          refine wl_eff (e_call (r_call rfl Tryd.func19 rfl rfl) (width_ret H hT)) (ltn rfl) ?_
                                          rintro _ w6 ⟨rfl, H6⟩
                                          refine wl_yes rfl rfl ?_
                                          refine wl_val (r_gtr rfl rfl) (ltn rfl) ?_
                                          refine wl_val (r_pick_t rfl rfl) (ltn rfl) ?_
                                          refine wl_val (r_assign rfl) (ltn rfl) ?_
                                          refine wl_nil ?_
                                          refine wq_seq ?_
                                          refine wc_ret ?_
                                          refine wq_end1 (.inl rfl) Tryd.results30 rfl ?_
                                          refine ⟨?_, H6⟩; congr 1; rw [letterM, if_neg (by omega), if_neg (by omega)]; simp [*]
                                      · (try simp only [beq_iff_eq, bne_iff_ne, ne_eq, decide_eq_true_eq, decide_eq_false_iff_not, beq_eq_false_iff_ne, bne_eq_false_iff_eq, Bool.not_eq_true', Bool.not_eq_false', Bool.not_eq_eq_eq_not, Bool.not_true, Bool.not_false, gt_iff_lt, ge_iff_le, Int.not_lt, Int.not_le] at h24)
                                        try (exfalso; first | contradiction | omega)
                                        all_goals
                                          refine wl_no rfl rfl rfl (ltn rfl) ?_
                                          refine wl_no rfl rfl rfl (ltn rfl) ?_
                                          refine wl_no rfl rfl rfl (ltn rfl) ?_
                                          refine wl_val (r_pick_f rfl rfl) (ltn rfl) ?_
                                          refine wl_val (r_assign rfl) (ltn rfl) ?_
                                          refine wl_nil ?_
                                          refine wq_seq ?_
                                          refine wc_ret ?_
                                          refine wq_end1 (.inl rfl) Tryd.results30 rfl ?_
                                          refine ⟨?_, H⟩; congr 1; rw [letterM, if_neg (by omega), if_neg (by omega)]; simp [*]
                              · (try simp only [beq_iff_eq, bne_iff_ne, ne_eq, decide_eq_true_eq, decide_eq_false_iff_not, beq_eq_false_iff_ne, bne_eq_false_iff_eq, Bool.not_eq_true', Bool.not_eq_false', Bool.not_eq_eq_eq_not, Bool.not_true, Bool.not_false, gt_iff_lt, ge_iff_le, Int.not_lt, Int.not_le] at h22)
                                try (exfalso; first | contradiction | omega)
                                all_goals
                                  
                                  refine wc_region ?_
                                  refine wl_val (r_move rfl) (ltn rfl) ?_
                                  refine wl_val (r_geq rfl rfl) (ltn rfl) ?_
                                  refine wl_split rfl (ltn rfl) (fun h25 => ?_) (fun h25 => ?_)
                                  · (try simp only [beq_iff_eq, bne_iff_ne, ne_eq, decide_eq_true_eq, decide_eq_false_iff_not, beq_eq_false_iff_ne, bne_eq_false_iff_eq, Bool.not_eq_true', Bool.not_eq_false', Bool.not_eq_eq_eq_not, Bool.not_true, Bool.not_false, gt_iff_lt, ge_iff_le, Int.not_lt, Int.not_le] at h25)
                                    try (exfalso; first | contradiction | omega)
                                    all_goals
                                      refine wl_yes rfl rfl ?_
                                      refine wl_val (r_move rfl) (ltn rfl) ?_
                                      refine wl_yes rfl rfl ?_
                                      refine wl_val (r_leq rfl rfl) (ltn rfl) ?_
                                      refine wl_val (r_pick_t rfl rfl) (ltn rfl) ?_
                                      refine wl_val (r_assign rfl) (ltn rfl) ?_
                                      refine wl_nil ?_
                                      refine wq_seq ?_
                                      refine wc_cond rfl (fun h26 => ?_) (fun h26 => ?_)
                                      · (try simp only [beq_iff_eq, bne_iff_ne, ne_eq, decide_eq_true_eq, decide_eq_false_iff_not, beq_eq_false_iff_ne, bne_eq_false_iff_eq, Bool.not_eq_true', Bool.not_eq_false', Bool.not_eq_eq_eq_not, Bool.not_true, Bool.not_false, gt_iff_lt, ge_iff_le, Int.not_lt, Int.not_le] at h26)
                                        try (exfalso; first | contradiction | omega)
                                        all_goals
                                          
                                          refine wc_seq ?_
                                          refine wc_region ?_
                                          refine wl_val (r_assign rfl) (ltn rfl) ?_
                                          refine wl_nil ?_
                                          refine wq_seq ?_
                                          refine wc_ret ?_
                                          refine wq_block_ret ?_
                                          refine wq_then_ret ?_
                                          refine wq_end1 (.inl rfl) Tryd.results30 rfl ?_
                                          refine ⟨?_, H⟩; congr 1; rw [letterM, if_neg (by omega), if_pos (by omega)]
                                      · (try simp only [beq_iff_eq, bne_iff_ne, ne_eq, decide_eq_true_eq, decide_eq_false_iff_not, beq_eq_false_iff_ne, bne_eq_false_iff_eq, Bool.not_eq_true', Bool.not_eq_false', Bool.not_eq_eq_eq_not, Bool.not_true, Bool.not_false, gt_iff_lt, ge_iff_le, Int.not_lt, Int.not_le] at h26)
                                        try (exfalso; first | contradiction | omega)
                                        all_goals
                                          
                                          refine wc_skip ?_
                                          refine wq_block_normal ?_
                                          refine wq_seq ?_
                                          refine wc_seq ?_
                                          refine wc_region ?_
                                          refine wl_val (r_move rfl) (ltn rfl) ?_
                                          refine wl_eff (e_call (r_call rfl Tryd.func41 rfl rfl) (is_ret)) (ltn rfl) ?_
                                          rintro _ _ ⟨rfl, rfl⟩
                                          refine wl_split rfl (ltn rfl) (fun h27 => ?_) (fun h27 => ?_)
                                          · (try simp only [beq_iff_eq, bne_iff_ne, ne_eq, decide_eq_true_eq, decide_eq_false_iff_not, beq_eq_false_iff_ne, bne_eq_false_iff_eq, Bool.not_eq_true', Bool.not_eq_false', Bool.not_eq_eq_eq_not, Bool.not_true, Bool.not_false, gt_iff_lt, ge_iff_le, Int.not_lt, Int.not_le] at h27)
                                            try (exfalso; first | contradiction | omega)
                                            all_goals
                                              refine wl_yes rfl rfl ?_
                                              refine wl_val (r_move rfl) (ltn rfl) ?_
                                              refine wl_yes rfl rfl ?_
                                              refine wl_eff (e_call (r_call rfl Tryd.func19 rfl rfl) (width_ret H hT)) (ltn rfl) ?_
                                              rintro _ w8 ⟨rfl, H8⟩
                                              refine wl_yes rfl rfl ?_
                                              refine wl_val (r_gtr rfl rfl) (ltn rfl) ?_
                                              refine wl_val (r_pick_t rfl rfl) (ltn rfl) ?_
                                              refine wl_val (r_assign rfl) (ltn rfl) ?_
                                              refine wl_nil ?_
                                              refine wq_seq ?_
                                              refine wc_ret ?_
                                              refine wq_end1 (.inl rfl) Tryd.results30 rfl ?_
                                              refine ⟨?_, H8⟩; congr 1; rw [letterM, if_neg (by omega), if_neg (by omega)]; simp [*]
                                          · (try simp only [beq_iff_eq, bne_iff_ne, ne_eq, decide_eq_true_eq, decide_eq_false_iff_not, beq_eq_false_iff_ne, bne_eq_false_iff_eq, Bool.not_eq_true', Bool.not_eq_false', Bool.not_eq_eq_eq_not, Bool.not_true, Bool.not_false, gt_iff_lt, ge_iff_le, Int.not_lt, Int.not_le] at h27)
                                            try (exfalso; first | contradiction | omega)
                                            all_goals
                                              refine wl_no rfl rfl rfl (ltn rfl) ?_
                                              refine wl_no rfl rfl rfl (ltn rfl) ?_
                                              refine wl_no rfl rfl rfl (ltn rfl) ?_
                                              refine wl_val (r_pick_f rfl rfl) (ltn rfl) ?_
                                              refine wl_val (r_assign rfl) (ltn rfl) ?_
                                              refine wl_nil ?_
                                              refine wq_seq ?_
                                              refine wc_ret ?_
                                              refine wq_end1 (.inl rfl) Tryd.results30 rfl ?_
                                              refine ⟨?_, H⟩; congr 1; rw [letterM, if_neg (by omega), if_neg (by omega)]; simp [*]
                                  · (try simp only [beq_iff_eq, bne_iff_ne, ne_eq, decide_eq_true_eq, decide_eq_false_iff_not, beq_eq_false_iff_ne, bne_eq_false_iff_eq, Bool.not_eq_true', Bool.not_eq_false', Bool.not_eq_eq_eq_not, Bool.not_true, Bool.not_false, gt_iff_lt, ge_iff_le, Int.not_lt, Int.not_le] at h25)
                                    try (exfalso; first | contradiction | omega)
                                    all_goals
                                      refine wl_no rfl rfl rfl (ltn rfl) ?_
                                      refine wl_no rfl rfl rfl (ltn rfl) ?_
                                      refine wl_val (r_pick_f rfl rfl) (ltn rfl) ?_
                                      refine wl_val (r_assign rfl) (ltn rfl) ?_
                                      refine wl_nil ?_
                                      refine wq_seq ?_
                                      refine wc_cond_f rfl ?_
                                      refine wc_skip ?_
                                      refine wq_block_normal ?_
                                      refine wq_seq ?_
                                      refine wc_seq ?_
                                      refine wc_region ?_
                                      refine wl_val (r_move rfl) (ltn rfl) ?_
                                      refine wl_eff (e_call (r_call rfl Tryd.func41 rfl rfl) (is_ret)) (ltn rfl) ?_
                                      rintro _ _ ⟨rfl, rfl⟩
                                      refine wl_split rfl (ltn rfl) (fun h28 => ?_) (fun h28 => ?_)
                                      · (try simp only [beq_iff_eq, bne_iff_ne, ne_eq, decide_eq_true_eq, decide_eq_false_iff_not, beq_eq_false_iff_ne, bne_eq_false_iff_eq, Bool.not_eq_true', Bool.not_eq_false', Bool.not_eq_eq_eq_not, Bool.not_true, Bool.not_false, gt_iff_lt, ge_iff_le, Int.not_lt, Int.not_le] at h28)
                                        try (exfalso; first | contradiction | omega)
                                        all_goals
                                          refine wl_yes rfl rfl ?_
                                          refine wl_val (r_move rfl) (ltn rfl) ?_
                                          refine wl_yes rfl rfl ?_
                                          refine wl_eff (e_call (r_call rfl Tryd.func19 rfl rfl) (width_ret H hT)) (ltn rfl) ?_
                                          rintro _ w10 ⟨rfl, H10⟩
                                          refine wl_yes rfl rfl ?_
                                          refine wl_val (r_gtr rfl rfl) (ltn rfl) ?_
                                          refine wl_val (r_pick_t rfl rfl) (ltn rfl) ?_
                                          refine wl_val (r_assign rfl) (ltn rfl) ?_
                                          refine wl_nil ?_
                                          refine wq_seq ?_
                                          refine wc_ret ?_
                                          refine wq_end1 (.inl rfl) Tryd.results30 rfl ?_
                                          refine ⟨?_, H10⟩; congr 1; rw [letterM, if_neg (by omega), if_neg (by omega)]; simp [*]
                                      · (try simp only [beq_iff_eq, bne_iff_ne, ne_eq, decide_eq_true_eq, decide_eq_false_iff_not, beq_eq_false_iff_ne, bne_eq_false_iff_eq, Bool.not_eq_true', Bool.not_eq_false', Bool.not_eq_eq_eq_not, Bool.not_true, Bool.not_false, gt_iff_lt, ge_iff_le, Int.not_lt, Int.not_le] at h28)
                                        try (exfalso; first | contradiction | omega)
                                        all_goals
                                          refine wl_no rfl rfl rfl (ltn rfl) ?_
                                          refine wl_no rfl rfl rfl (ltn rfl) ?_
                                          refine wl_no rfl rfl rfl (ltn rfl) ?_
                                          refine wl_val (r_pick_f rfl rfl) (ltn rfl) ?_
                                          refine wl_val (r_assign rfl) (ltn rfl) ?_
                                          refine wl_nil ?_
                                          refine wq_seq ?_
                                          refine wc_ret ?_
                                          refine wq_end1 (.inl rfl) Tryd.results30 rfl ?_
                                          refine ⟨?_, H⟩; congr 1; rw [letterM, if_neg (by omega), if_neg (by omega)]; simp [*]
                          · (try simp only [beq_iff_eq, bne_iff_ne, ne_eq, decide_eq_true_eq, decide_eq_false_iff_not, beq_eq_false_iff_ne, bne_eq_false_iff_eq, Bool.not_eq_true', Bool.not_eq_false', Bool.not_eq_eq_eq_not, Bool.not_true, Bool.not_false, gt_iff_lt, ge_iff_le, Int.not_lt, Int.not_le] at h21)
                            try (exfalso; first | contradiction | omega)
                            all_goals
                              refine wl_no rfl rfl rfl (ltn rfl) ?_
                              refine wl_no rfl rfl rfl (ltn rfl) ?_
                              refine wl_val (r_pick_f rfl rfl) (ltn rfl) ?_
                              refine wl_val (r_assign rfl) (ltn rfl) ?_
                              refine wl_nil ?_
                              refine wq_seq ?_
                              refine wc_cond_f rfl ?_
                              refine wc_region ?_
                              refine wl_val (r_move rfl) (ltn rfl) ?_
                              refine wl_val (r_geq rfl rfl) (ltn rfl) ?_
                              refine wl_split rfl (ltn rfl) (fun h29 => ?_) (fun h29 => ?_)
                              · (try simp only [beq_iff_eq, bne_iff_ne, ne_eq, decide_eq_true_eq, decide_eq_false_iff_not, beq_eq_false_iff_ne, bne_eq_false_iff_eq, Bool.not_eq_true', Bool.not_eq_false', Bool.not_eq_eq_eq_not, Bool.not_true, Bool.not_false, gt_iff_lt, ge_iff_le, Int.not_lt, Int.not_le] at h29)
                                try (exfalso; first | contradiction | omega)
                                all_goals
                                  refine wl_yes rfl rfl ?_
                                  refine wl_val (r_move rfl) (ltn rfl) ?_
                                  refine wl_yes rfl rfl ?_
                                  refine wl_val (r_leq rfl rfl) (ltn rfl) ?_
                                  refine wl_val (r_pick_t rfl rfl) (ltn rfl) ?_
                                  refine wl_val (r_assign rfl) (ltn rfl) ?_
                                  refine wl_nil ?_
                                  refine wq_seq ?_
                                  refine wc_cond rfl (fun h30 => ?_) (fun h30 => ?_)
                                  · (try simp only [beq_iff_eq, bne_iff_ne, ne_eq, decide_eq_true_eq, decide_eq_false_iff_not, beq_eq_false_iff_ne, bne_eq_false_iff_eq, Bool.not_eq_true', Bool.not_eq_false', Bool.not_eq_eq_eq_not, Bool.not_true, Bool.not_false, gt_iff_lt, ge_iff_le, Int.not_lt, Int.not_le] at h30)
                                    try (exfalso; first | contradiction | omega)
                                    all_goals
                                      
                                      refine wc_seq ?_
                                      refine wc_region ?_
                                      refine wl_val (r_assign rfl) (ltn rfl) ?_
                                      refine wl_nil ?_
                                      refine wq_seq ?_
                                      refine wc_ret ?_
                                      refine wq_block_ret ?_
                                      refine wq_then_ret ?_
                                      refine wq_end1 (.inl rfl) Tryd.results30 rfl ?_
                                      refine ⟨?_, H⟩; congr 1; rw [letterM, if_neg (by omega), if_pos (by omega)]
                                  · (try simp only [beq_iff_eq, bne_iff_ne, ne_eq, decide_eq_true_eq, decide_eq_false_iff_not, beq_eq_false_iff_ne, bne_eq_false_iff_eq, Bool.not_eq_true', Bool.not_eq_false', Bool.not_eq_eq_eq_not, Bool.not_true, Bool.not_false, gt_iff_lt, ge_iff_le, Int.not_lt, Int.not_le] at h30)
                                    try (exfalso; first | contradiction | omega)
                                    all_goals
                                      
                                      refine wc_skip ?_
                                      refine wq_block_normal ?_
                                      refine wq_seq ?_
                                      refine wc_seq ?_
                                      refine wc_region ?_
                                      refine wl_val (r_move rfl) (ltn rfl) ?_
                                      refine wl_eff (e_call (r_call rfl Tryd.func41 rfl rfl) (is_ret)) (ltn rfl) ?_
                                      rintro _ _ ⟨rfl, rfl⟩
                                      refine wl_split rfl (ltn rfl) (fun h31 => ?_) (fun h31 => ?_)
                                      · (try simp only [beq_iff_eq, bne_iff_ne, ne_eq, decide_eq_true_eq, decide_eq_false_iff_not, beq_eq_false_iff_ne, bne_eq_false_iff_eq, Bool.not_eq_true', Bool.not_eq_false', Bool.not_eq_eq_eq_not, Bool.not_true, Bool.not_false, gt_iff_lt, ge_iff_le, Int.not_lt, Int.not_le] at h31)
                                        try (exfalso; first | contradiction | omega)
                                        all_goals
                                          refine wl_yes rfl rfl ?_
                                          refine wl_val (r_move rfl) (ltn rfl) ?_
                                          refine wl_yes rfl rfl ?_
                                          refine wl_eff (e_call (r_call rfl Tryd.func19 rfl rfl) (width_ret H hT)) (ltn rfl) ?_
                                          rintro _ w12 ⟨rfl, H12⟩
                                          refine wl_yes rfl rfl ?_
                                          refine wl_val (r_gtr rfl rfl) (ltn rfl) ?_
                                          refine wl_val (r_pick_t rfl rfl) (ltn rfl) ?_
                                          refine wl_val (r_assign rfl) (ltn rfl) ?_
                                          refine wl_nil ?_
                                          refine wq_seq ?_
                                          refine wc_ret ?_
                                          refine wq_end1 (.inl rfl) Tryd.results30 rfl ?_
                                          refine ⟨?_, H12⟩; congr 1; rw [letterM, if_neg (by omega), if_neg (by omega)]; simp [*]
                                      · (try simp only [beq_iff_eq, bne_iff_ne, ne_eq, decide_eq_true_eq, decide_eq_false_iff_not, beq_eq_false_iff_ne, bne_eq_false_iff_eq, Bool.not_eq_true', Bool.not_eq_false', Bool.not_eq_eq_eq_not, Bool.not_true, Bool.not_false, gt_iff_lt, ge_iff_le, Int.not_lt, Int.not_le] at h31)
                                        try (exfalso; first | contradiction | omega)
                                        all_goals
                                          refine wl_no rfl rfl rfl (ltn rfl) ?_
                                          refine wl_no rfl rfl rfl (ltn rfl) ?_
                                          refine wl_no rfl rfl rfl (ltn rfl) ?_
                                          refine wl_val (r_pick_f rfl rfl) (ltn rfl) ?_
                                          refine wl_val (r_assign rfl) (ltn rfl) ?_
                                          refine wl_nil ?_
                                          refine wq_seq ?_
                                          refine wc_ret ?_
                                          refine wq_end1 (.inl rfl) Tryd.results30 rfl ?_
                                          refine ⟨?_, H⟩; congr 1; rw [letterM, if_neg (by omega), if_neg (by omega)]; simp [*]
                              · (try simp only [beq_iff_eq, bne_iff_ne, ne_eq, decide_eq_true_eq, decide_eq_false_iff_not, beq_eq_false_iff_ne, bne_eq_false_iff_eq, Bool.not_eq_true', Bool.not_eq_false', Bool.not_eq_eq_eq_not, Bool.not_true, Bool.not_false, gt_iff_lt, ge_iff_le, Int.not_lt, Int.not_le] at h29)
                                try (exfalso; first | contradiction | omega)
                                all_goals
                                  refine wl_no rfl rfl rfl (ltn rfl) ?_
                                  refine wl_no rfl rfl rfl (ltn rfl) ?_
                                  refine wl_val (r_pick_f rfl rfl) (ltn rfl) ?_
                                  refine wl_val (r_assign rfl) (ltn rfl) ?_
                                  refine wl_nil ?_
                                  refine wq_seq ?_
                                  refine wc_cond_f rfl ?_
                                  refine wc_skip ?_
                                  refine wq_block_normal ?_
                                  refine wq_seq ?_
                                  refine wc_seq ?_
                                  refine wc_region ?_
                                  refine wl_val (r_move rfl) (ltn rfl) ?_
                                  refine wl_eff (e_call (r_call rfl Tryd.func41 rfl rfl) (is_ret)) (ltn rfl) ?_
                                  rintro _ _ ⟨rfl, rfl⟩
                                  refine wl_split rfl (ltn rfl) (fun h32 => ?_) (fun h32 => ?_)
                                  · (try simp only [beq_iff_eq, bne_iff_ne, ne_eq, decide_eq_true_eq, decide_eq_false_iff_not, beq_eq_false_iff_ne, bne_eq_false_iff_eq, Bool.not_eq_true', Bool.not_eq_false', Bool.not_eq_eq_eq_not, Bool.not_true, Bool.not_false, gt_iff_lt, ge_iff_le, Int.not_lt, Int.not_le] at h32)
                                    try (exfalso; first | contradiction | omega)
                                    all_goals
                                      refine wl_yes rfl rfl ?_
                                      refine wl_val (r_move rfl) (ltn rfl) ?_
                                      refine wl_yes rfl rfl ?_
                                      refine wl_eff (e_call (r_call rfl Tryd.func19 rfl rfl) (width_ret H hT)) (ltn rfl) ?_
                                      rintro _ w14 ⟨rfl, H14⟩
                                      refine wl_yes rfl rfl ?_
                                      refine wl_val (r_gtr rfl rfl) (ltn rfl) ?_
                                      refine wl_val (r_pick_t rfl rfl) (ltn rfl) ?_
                                      refine wl_val (r_assign rfl) (ltn rfl) ?_
                                      refine wl_nil ?_
                                      refine wq_seq ?_
                                      refine wc_ret ?_
                                      refine wq_end1 (.inl rfl) Tryd.results30 rfl ?_
                                      refine ⟨?_, H14⟩; congr 1; rw [letterM, if_neg (by omega), if_neg (by omega)]; simp [*]
                                  · (try simp only [beq_iff_eq, bne_iff_ne, ne_eq, decide_eq_true_eq, decide_eq_false_iff_not, beq_eq_false_iff_ne, bne_eq_false_iff_eq, Bool.not_eq_true', Bool.not_eq_false', Bool.not_eq_eq_eq_not, Bool.not_true, Bool.not_false, gt_iff_lt, ge_iff_le, Int.not_lt, Int.not_le] at h32)
                                    try (exfalso; first | contradiction | omega)
                                    all_goals
                                      refine wl_no rfl rfl rfl (ltn rfl) ?_
                                      refine wl_no rfl rfl rfl (ltn rfl) ?_
                                      refine wl_no rfl rfl rfl (ltn rfl) ?_
                                      refine wl_val (r_pick_f rfl rfl) (ltn rfl) ?_
                                      refine wl_val (r_assign rfl) (ltn rfl) ?_
                                      refine wl_nil ?_
                                      refine wq_seq ?_
                                      refine wc_ret ?_
                                      refine wq_end1 (.inl rfl) Tryd.results30 rfl ?_
                                      refine ⟨?_, H⟩; congr 1; rw [letterM, if_neg (by omega), if_neg (by omega)]; simp [*]
                  · (try simp only [beq_iff_eq, bne_iff_ne, ne_eq, decide_eq_true_eq, decide_eq_false_iff_not, beq_eq_false_iff_ne, bne_eq_false_iff_eq, Bool.not_eq_true', Bool.not_eq_false', Bool.not_eq_eq_eq_not, Bool.not_true, Bool.not_false, gt_iff_lt, ge_iff_le, Int.not_lt, Int.not_le] at h17)
                    try (exfalso; first | contradiction | omega)
                    all_goals
                      refine wl_no rfl rfl rfl (ltn rfl) ?_
                      refine wl_no rfl rfl rfl (ltn rfl) ?_
                      refine wl_val (r_pick_f rfl rfl) (ltn rfl) ?_
                      refine wl_val (r_assign rfl) (ltn rfl) ?_
                      refine wl_nil ?_
                      refine wq_seq ?_
                      refine wc_cond_f rfl ?_
                      refine wc_seq ?_
                      refine wc_region ?_
                      refine wl_val (r_move rfl) (ltn rfl) ?_
                      refine wl_val (r_geq rfl rfl) (ltn rfl) ?_
                      refine wl_split rfl (ltn rfl) (fun h33 => ?_) (fun h33 => ?_)
                      · (try simp only [beq_iff_eq, bne_iff_ne, ne_eq, decide_eq_true_eq, decide_eq_false_iff_not, beq_eq_false_iff_ne, bne_eq_false_iff_eq, Bool.not_eq_true', Bool.not_eq_false', Bool.not_eq_eq_eq_not, Bool.not_true, Bool.not_false, gt_iff_lt, ge_iff_le, Int.not_lt, Int.not_le] at h33)
                        try (exfalso; first | contradiction | omega)
                        all_goals
                          refine wl_yes rfl rfl ?_
                          refine wl_val (r_move rfl) (ltn rfl) ?_
                          refine wl_yes rfl rfl ?_
                          refine wl_val (r_leq rfl rfl) (ltn rfl) ?_
                          refine wl_val (r_pick_t rfl rfl) (ltn rfl) ?_
                          refine wl_val (r_assign rfl) (ltn rfl) ?_
                          refine wl_nil ?_
                          refine wq_seq ?_
                          refine wc_cond rfl (fun h34 => ?_) (fun h34 => ?_)
                          · (try simp only [beq_iff_eq, bne_iff_ne, ne_eq, decide_eq_true_eq, decide_eq_false_iff_not, beq_eq_false_iff_ne, bne_eq_false_iff_eq, Bool.not_eq_true', Bool.not_eq_false', Bool.not_eq_eq_eq_not, Bool.not_true, Bool.not_false, gt_iff_lt, ge_iff_le, Int.not_lt, Int.not_le] at h34)
                            try (exfalso; first | contradiction | omega)
                            all_goals
                              
                              refine wc_skip ?_
                              refine wq_seq ?_
                              refine wc_cond rfl (fun h35 => ?_) (fun h35 => ?_)
                              · (try simp only [beq_iff_eq, bne_iff_ne, ne_eq, decide_eq_true_eq, decide_eq_false_iff_not, beq_eq_false_iff_ne, bne_eq_false_iff_eq, Bool.not_eq_true', Bool.not_eq_false', Bool.not_eq_eq_eq_not, Bool.not_true, Bool.not_false, gt_iff_lt, ge_iff_le, Int.not_lt, Int.not_le] at h35)
                                try (exfalso; first | contradiction | omega)
                                all_goals
                                  
                                  refine wc_seq ?_
                                  refine wc_region ?_
                                  refine wl_val (r_assign rfl) (ltn rfl) ?_
                                  refine wl_nil ?_
                                  refine wq_seq ?_
                                  refine wc_ret ?_
                                  refine wq_block_ret ?_
                                  refine wq_then_ret ?_
                                  refine wq_end1 (.inl rfl) Tryd.results30 rfl ?_
                                  refine ⟨?_, H⟩; congr 1; rw [letterM, if_neg (by omega), if_pos (by omega)]
                              · (try simp only [beq_iff_eq, bne_iff_ne, ne_eq, decide_eq_true_eq, decide_eq_false_iff_not, beq_eq_false_iff_ne, bne_eq_false_iff_eq, Bool.not_eq_true', Bool.not_eq_false', Bool.not_eq_eq_eq_not, Bool.not_true, Bool.not_false, gt_iff_lt, ge_iff_le, Int.not_lt, Int.not_le] at h35)
                                try (exfalso; first | contradiction | omega)
                                all_goals
                                  
                                  refine wc_skip ?_
                                  refine wq_block_normal ?_
                                  refine wq_seq ?_
                                  refine wc_seq ?_
                                  refine wc_region ?_
                                  refine wl_val (r_move rfl) (ltn rfl) ?_
                                  refine wl_eff (e_call (r_call rfl Tryd.func41 rfl rfl) (is_ret)) (ltn rfl) ?_
                                  rintro _ _ ⟨rfl, rfl⟩
                                  refine wl_split rfl (ltn rfl) (fun h36 => ?_) (fun h36 => ?_)
                                  · (try simp only [beq_iff_eq, bne_iff_ne, ne_eq, decide_eq_true_eq, decide_eq_false_iff_not, beq_eq_false_iff_ne, bne_eq_false_iff_eq, Bool.not_eq_true', Bool.not_eq_false', Bool.not_eq_eq_eq_not, Bool.not_true, Bool.not_false, gt_iff_lt, ge_iff_le, Int.not_lt, Int.not_le] at h36)
                                    try (exfalso; first | contradiction | omega)
                                    all_goals
                                      refine wl_yes rfl rfl ?_
                                      refine wl_val (r_move rfl) (ltn rfl) ?_
                                      refine wl_yes rfl rfl ?_
                                      refine wl_eff (e_call (r_call rfl Tryd.func19 rfl rfl) (width_ret H hT)) (ltn rfl) ?_
                                      rintro _ w16 ⟨rfl, H16⟩
                                      refine wl_yes rfl rfl ?_
                                      refine wl_val (r_gtr rfl rfl) (ltn rfl) ?_
                                      refine wl_val (r_pick_t rfl rfl) (ltn rfl) ?_
                                      refine wl_val (r_assign rfl) (ltn rfl) ?_
                                      refine wl_nil ?_
                                      refine wq_seq ?_
                                      refine wc_ret ?_
                                      refine wq_end1 (.inl rfl) Tryd.results30 rfl ?_
                                      refine ⟨?_, H16⟩; congr 1; rw [letterM, if_neg (by omega), if_neg (by omega)]; simp [*]
                                  · (try simp only [beq_iff_eq, bne_iff_ne, ne_eq, decide_eq_true_eq, decide_eq_false_iff_not, beq_eq_false_iff_ne, bne_eq_false_iff_eq, Bool.not_eq_true', Bool.not_eq_false', Bool.not_eq_eq_eq_not, Bool.not_true, Bool.not_false, gt_iff_lt, ge_iff_le, Int.not_lt, Int.not_le] at h36)
                                    try (exfalso; first | contradiction | omega)
                                    all_goals
                                      refine wl_no rfl rfl rfl (ltn rfl) ?_
                                      refine wl_no rfl rfl rfl (ltn rfl) ?_
                                      refine wl_no rfl rfl rfl (ltn rfl) ?_
                                      refine wl_val (r_pick_f rfl rfl) (ltn rfl) ?_
                                      refine wl_val (r_assign rfl) (ltn rfl) ?_
                                      refine wl_nil ?_
                                      refine wq_seq ?_
                                      refine wc_ret ?_
                                      refine wq_end1 (.inl rfl) Tryd.results30 rfl ?_
                                      refine ⟨?_, H⟩; congr 1; rw [letterM, if_neg (by omega), if_neg (by omega)]; simp [*]
                          · (try simp only [beq_iff_eq, bne_iff_ne, ne_eq, decide_eq_true_eq, decide_eq_false_iff_not, beq_eq_false_iff_ne, bne_eq_false_iff_eq, Bool.not_eq_true', Bool.not_eq_false', Bool.not_eq_eq_eq_not, Bool.not_true, Bool.not_false, gt_iff_lt, ge_iff_le, Int.not_lt, Int.not_le] at h34)
                            try (exfalso; first | contradiction | omega)
                            all_goals
                              
                              refine wc_region ?_
                              refine wl_val (r_move rfl) (ltn rfl) ?_
                              refine wl_val (r_geq rfl rfl) (ltn rfl) ?_
                              refine wl_split rfl (ltn rfl) (fun h37 => ?_) (fun h37 => ?_)
                              · (try simp only [beq_iff_eq, bne_iff_ne, ne_eq, decide_eq_true_eq, decide_eq_false_iff_not, beq_eq_false_iff_ne, bne_eq_false_iff_eq, Bool.not_eq_true', Bool.not_eq_false', Bool.not_eq_eq_eq_not, Bool.not_true, Bool.not_false, gt_iff_lt, ge_iff_le, Int.not_lt, Int.not_le] at h37)
                                try (exfalso; first | contradiction | omega)
                                all_goals
                                  refine wl_yes rfl rfl ?_
                                  refine wl_val (r_move rfl) (ltn rfl) ?_
                                  refine wl_yes rfl rfl ?_
                                  refine wl_val (r_leq rfl rfl) (ltn rfl) ?_
                                  refine wl_val (r_pick_t rfl rfl) (ltn rfl) ?_
                                  refine wl_val (r_assign rfl) (ltn rfl) ?_
                                  refine wl_nil ?_
                                  refine wq_seq ?_
                                  refine wc_cond rfl (fun h38 => ?_) (fun h38 => ?_)
                                  · (try simp only [beq_iff_eq, bne_iff_ne, ne_eq, decide_eq_true_eq, decide_eq_false_iff_not, beq_eq_false_iff_ne, bne_eq_false_iff_eq, Bool.not_eq_true', Bool.not_eq_false', Bool.not_eq_eq_eq_not, Bool.not_true, Bool.not_false, gt_iff_lt, ge_iff_le, Int.not_lt, Int.not_le] at h38)
                                    try (exfalso; first | contradiction | omega)
                                    all_goals
                                      
                                      refine wc_seq ?_
                                      refine wc_region ?_
                                      refine wl_val (r_assign rfl) (ltn rfl) ?_
                                      refine wl_nil ?_
                                      refine wq_seq ?_
                                      refine wc_ret ?_
                                      refine wq_block_ret ?_
                                      refine wq_then_ret ?_
                                      refine wq_end1 (.inl rfl) Tryd.results30 rfl ?_
                                      refine ⟨?_, H⟩; congr 1; rw [letterM, if_neg (by omega), if_pos (by omega)]
                                  · (try simp only [beq_iff_eq, bne_iff_ne, ne_eq, decide_eq_true_eq, decide_eq_false_iff_not, beq_eq_false_iff_ne, bne_eq_false_iff_eq, Bool.not_eq_true', Bool.not_eq_false', Bool.not_eq_eq_eq_not, Bool.not_true, Bool.not_false, gt_iff_lt, ge_iff_le, Int.not_lt, Int.not_le] at h38)
                                    try (exfalso; first | contradiction | omega)
                                    all_goals
                                      
                                      refine wc_skip ?_
                                      refine wq_block_normal ?_
                                      refine wq_seq ?_
                                      refine wc_seq ?_
                                      refine wc_region ?_
                                      refine wl_val (r_move rfl) (ltn rfl) ?_
                                      refine wl_eff (e_call (r_call rfl Tryd.func41 rfl rfl) (is_ret)) (ltn rfl) ?_
                                      rintro _ _ ⟨rfl, rfl⟩
                                      refine wl_split rfl (ltn rfl) (fun h39 => ?_) (fun h39 => ?_)
                                      · (try simp only [beq_iff_eq, bne_iff_ne, ne_eq, decide_eq_true_eq, decide_eq_false_iff_not, beq_eq_false_iff_ne, bne_eq_false_iff_eq, Bool.not_eq_true', Bool.not_eq_false', Bool.not_eq_eq_eq_not, Bool.not_true, Bool.not_false, gt_iff_lt, ge_iff_le, Int.not_lt, Int.not_le] at h39)
                                        try (exfalso; first | contradiction | omega)
                                        all_goals
                                          refine wl_yes rfl rfl ?_
                                          refine wl_val (r_move rfl) (ltn rfl) ?_
                                          refine wl_yes rfl rfl ?_
                                          refine wl_eff (e_call (r_call rfl Tryd.func19 rfl rfl) (width_ret H hT)) (ltn rfl) ?_
                                          rintro _ w18 ⟨rfl, H18⟩
                                          refine wl_yes rfl rfl ?_
                                          refine wl_val (r_gtr rfl rfl) (ltn rfl) ?_
                                          refine wl_val (r_pick_t rfl rfl) (ltn rfl) ?_
                                          refine wl_val (r_assign rfl) (ltn rfl) ?_
                                          refine wl_nil ?_
                                          refine wq_seq ?_
                                          refine wc_ret ?_
                                          refine wq_end1 (.inl rfl) Tryd.results30 rfl ?_
                                          refine ⟨?_, H18⟩; congr 1; rw [letterM, if_neg (by omega), if_neg (by omega)]; simp [*]
                                      · (try simp only [beq_iff_eq, bne_iff_ne, ne_eq, decide_eq_true_eq, decide_eq_false_iff_not, beq_eq_false_iff_ne, bne_eq_false_iff_eq, Bool.not_eq_true', Bool.not_eq_false', Bool.not_eq_eq_eq_not, Bool.not_true, Bool.not_false, gt_iff_lt, ge_iff_le, Int.not_lt, Int.not_le] at h39)
                                        try (exfalso; first | contradiction | omega)
                                        all_goals
                                          refine wl_no rfl rfl rfl (ltn rfl) ?_
                                          refine wl_no rfl rfl rfl (ltn rfl) ?_
                                          refine wl_no rfl rfl rfl (ltn rfl) ?_
                                          refine wl_val (r_pick_f rfl rfl) (ltn rfl) ?_
                                          refine wl_val (r_assign rfl) (ltn rfl) ?_
                                          refine wl_nil ?_
                                          refine wq_seq ?_
                                          refine wc_ret ?_
                                          refine wq_end1 (.inl rfl) Tryd.results30 rfl ?_
                                          refine ⟨?_, H⟩; congr 1; rw [letterM, if_neg (by omega), if_neg (by omega)]; simp [*]
                              · (try simp only [beq_iff_eq, bne_iff_ne, ne_eq, decide_eq_true_eq, decide_eq_false_iff_not, beq_eq_false_iff_ne, bne_eq_false_iff_eq, Bool.not_eq_true', Bool.not_eq_false', Bool.not_eq_eq_eq_not, Bool.not_true, Bool.not_false, gt_iff_lt, ge_iff_le, Int.not_lt, Int.not_le] at h37)
                                try (exfalso; first | contradiction | omega)
                                all_goals
                                  refine wl_no rfl rfl rfl (ltn rfl) ?_
                                  refine wl_no rfl rfl rfl (ltn rfl) ?_
                                  refine wl_val (r_pick_f rfl rfl) (ltn rfl) ?_
                                  refine wl_val (r_assign rfl) (ltn rfl) ?_
                                  refine wl_nil ?_
                                  refine wq_seq ?_
                                  refine wc_cond_f rfl ?_
                                  refine wc_skip ?_
                                  refine wq_block_normal ?_
                                  refine wq_seq ?_
                                  refine wc_seq ?_
                                  refine wc_region ?_
                                  refine wl_val (r_move rfl) (ltn rfl) ?_
                                  refine wl_eff (e_call (r_call rfl Tryd.func41 rfl rfl) (is_ret)) (ltn rfl) ?_
                                  rintro _ _ ⟨rfl, rfl⟩
                                  refine wl_split rfl (ltn rfl) (fun h40 => ?_) (fun h40 => ?_)
                                  · (try simp only [beq_iff_eq, bne_iff_ne, ne_eq, decide_eq_true_eq, decide_eq_false_iff_not, beq_eq_false_iff_ne, bne_eq_false_iff_eq, Bool.not_eq_true', Bool.not_eq_false', Bool.not_eq_eq_eq_not, Bool.not_true, Bool.not_false, gt_iff_lt, ge_iff_le, Int.not_lt, Int.not_le] at h40)
                                    try (exfalso; first | contradiction | omega)
                                    all_goals
                                      refine wl_yes rfl rfl ?_
                                      refine wl_val (r_move rfl) (ltn rfl) ?_
                                      refine wl_yes rfl rfl ?_
                                      refine wl_eff (e_call (r_call rfl Tryd.func19 rfl rfl) (width_ret H hT)) (ltn rfl) ?_
                                      rintro _ w20 ⟨rfl, H20⟩
                                      refine wl_yes rfl rfl ?_
                                      refine wl_val (r_gtr rfl rfl) (ltn rfl) ?_
                                      refine wl_val (r_pick_t rfl rfl) (ltn rfl) ?_
                                      refine wl_val (r_assign rfl) (ltn rfl) ?_
                                      refine wl_nil ?_
                                      refine wq_seq ?_
                                      refine wc_ret ?_
                                      refine wq_end1 (.inl rfl) Tryd.results30 rfl ?_
                                      refine ⟨?_, H20⟩; congr 1; rw [letterM, if_neg (by omega), if_neg (by omega)]; simp [*]
                                  · (try simp only [beq_iff_eq, bne_iff_ne, ne_eq, decide_eq_true_eq, decide_eq_false_iff_not, beq_eq_false_iff_ne, bne_eq_false_iff_eq, Bool.not_eq_true', Bool.not_eq_false', Bool.not_eq_eq_eq_not, Bool.not_true, Bool.not_false, gt_iff_lt, ge_iff_le, Int.not_lt, Int.not_le] at h40)
                                    try (exfalso; first | contradiction | omega)
                                    all_goals
                                      refine wl_no rfl rfl rfl (ltn rfl) ?_
                                      refine wl_no rfl rfl rfl (ltn rfl) ?_
                                      refine wl_no rfl rfl rfl (ltn rfl) ?_
                                      refine wl_val (r_pick_f rfl rfl) (ltn rfl) ?_
                                      refine wl_val (r_assign rfl) (ltn rfl) ?_
                                      refine wl_nil ?_
                                      refine wq_seq ?_
                                      refine wc_ret ?_
                                      refine wq_end1 (.inl rfl) Tryd.results30 rfl ?_
                                      refine ⟨?_, H⟩; congr 1; rw [letterM, if_neg (by omega), if_neg (by omega)]; simp [*]
                      · (try simp only [beq_iff_eq, bne_iff_ne, ne_eq, decide_eq_true_eq, decide_eq_false_iff_not, beq_eq_false_iff_ne, bne_eq_false_iff_eq, Bool.not_eq_true', Bool.not_eq_false', Bool.not_eq_eq_eq_not, Bool.not_true, Bool.not_false, gt_iff_lt, ge_iff_le, Int.not_lt, Int.not_le] at h33)
                        try (exfalso; first | contradiction | omega)
                        all_goals
                          refine wl_no rfl rfl rfl (ltn rfl) ?_
                          refine wl_no rfl rfl rfl (ltn rfl) ?_
                          refine wl_val (r_pick_f rfl rfl) (ltn rfl) ?_
                          refine wl_val (r_assign rfl) (ltn rfl) ?_
                          refine wl_nil ?_
                          refine wq_seq ?_
                          refine wc_cond_f rfl ?_
                          refine wc_region ?_
                          refine wl_val (r_move rfl) (ltn rfl) ?_
                          refine wl_val (r_geq rfl rfl) (ltn rfl) ?_
                          refine wl_split rfl (ltn rfl) (fun h41 => ?_) (fun h41 => ?_)
                          · (try simp only [beq_iff_eq, bne_iff_ne, ne_eq, decide_eq_true_eq, decide_eq_false_iff_not, beq_eq_false_iff_ne, bne_eq_false_iff_eq, Bool.not_eq_true', Bool.not_eq_false', Bool.not_eq_eq_eq_not, Bool.not_true, Bool.not_false, gt_iff_lt, ge_iff_le, Int.not_lt, Int.not_le] at h41)
                            try (exfalso; first | contradiction | omega)
                            all_goals
                              refine wl_yes rfl rfl ?_
                              refine wl_val (r_move rfl) (ltn rfl) ?_
                              refine wl_yes rfl rfl ?_
                              refine wl_val (r_leq rfl rfl) (ltn rfl) ?_
                              refine wl_val (r_pick_t rfl rfl) (ltn rfl) ?_
                              refine wl_val (r_assign rfl) (ltn rfl) ?_
                              refine wl_nil ?_
                              refine wq_seq ?_
                              refine wc_cond rfl (fun h42 => ?_) (fun h42 => ?_)
                              · (try simp only [beq_iff_eq, bne_iff_ne, ne_eq, decide_eq_true_eq, decide_eq_false_iff_not, beq_eq_false_iff_ne, bne_eq_false_iff_eq, Bool.not_eq_true', Bool.not_eq_false', Bool.not_eq_eq_eq_not, Bool.not_true, Bool.not_false, gt_iff_lt, ge_iff_le, Int.not_lt, Int.not_le] at h42)
                                try (exfalso; first | contradiction | omega)
                                all_goals
                                  
                                  refine wc_seq ?_
                                  refine wc_region ?_
                                  refine wl_val (r_assign rfl) (ltn rfl) ?_
                                  refine wl_nil ?_
                                  refine wq_seq ?_
                                  refine wc_ret ?_
                                  refine wq_block_ret ?_
                                  refine wq_then_ret ?_
                                  refine wq_end1 (.inl rfl) Tryd.results30 rfl ?_
                                  refine ⟨?_, H⟩; congr 1; rw [letterM, if_neg (by omega), if_pos (by omega)]
                              · (try simp only [beq_iff_eq, bne_iff_ne, ne_eq, decide_eq_true_eq, decide_eq_false_iff_not, beq_eq_false_iff_ne, bne_eq_false_iff_eq, Bool.not_eq_true', Bool.not_eq_false', Bool.not_eq_eq_eq_not, Bool.not_true, Bool.not_false, gt_iff_lt, ge_iff_le, Int.not_lt, Int.not_le] at h42)
                                try (exfalso; first | contradiction | omega)
                                all_goals
                                  
                                  refine wc_skip ?_
                                  refine wq_block_normal ?_
                                  refine wq_seq ?_
                                  refine wc_seq ?_
                                  refine wc_region ?_
                                  refine wl_val (r_move rfl) (ltn rfl) ?_
                                  refine wl_eff (e_call (r_call rfl Tryd.func41 rfl rfl) (is_ret)) (ltn rfl) ?_
                                  rintro _ _ ⟨rfl, rfl⟩
                                  refine wl_split rfl (ltn rfl) (fun h43 => ?_) (fun h43 => ?_)
                                  · (try simp only [beq_iff_eq, bne_iff_ne, ne_eq, decide_eq_true_eq, decide_eq_false_iff_not, beq_eq_false_iff_ne, bne_eq_false_iff_eq, Bool.not_eq_true', Bool.not_eq_false', Bool.not_eq_eq_eq_not, Bool.not_true, Bool.not_false, gt_iff_lt, ge_iff_le, Int.not_lt, Int.not_le] at h43)
                                    try (exfalso; first | contradiction | omega)
                                    all_goals
                                      refine wl_yes rfl rfl ?_
                                      refine wl_val (r_move rfl) (ltn rfl) ?_
                                      refine wl_yes rfl rfl ?_
                                      refine wl_eff (e_call (r_call rfl Tryd.func19 rfl rfl) (width_ret H hT)) (ltn rfl) ?_
                                      rintro _ w22 ⟨rfl, H22⟩
                                      refine wl_yes rfl rfl ?_
                                      refine wl_val (r_gtr rfl rfl) (ltn rfl) ?_
                                      refine wl_val (r_pick_t rfl rfl) (ltn rfl) ?_
                                      refine wl_val (r_assign rfl) (ltn rfl) ?_
                                      refine wl_nil ?_
                                      refine wq_seq ?_
                                      refine wc_ret ?_
                                      refine wq_end1 (.inl rfl) Tryd.results30 rfl ?_
                                      refine ⟨?_, H22⟩; congr 1; rw [letterM, if_neg (by omega), if_neg (by omega)]; simp [*]
                                  · (try simp only [beq_iff_eq, bne_iff_ne, ne_eq, decide_eq_true_eq, decide_eq_false_iff_not, beq_eq_false_iff_ne, bne_eq_false_iff_eq, Bool.not_eq_true', Bool.not_eq_false', Bool.not_eq_eq_eq_not, Bool.not_true, Bool.not_false, gt_iff_lt, ge_iff_le, Int.not_lt, Int.not_le] at h43)
                                    try (exfalso; first | contradiction | omega)
                                    all_goals
                                      refine wl_no rfl rfl rfl (ltn rfl) ?_
                                      refine wl_no rfl rfl rfl (ltn rfl) ?_
                                      refine wl_no rfl rfl rfl (ltn rfl) ?_
                                      refine wl_val (r_pick_f rfl rfl) (ltn rfl) ?_
                                      refine wl_val (r_assign rfl) (ltn rfl) ?_
                                      refine wl_nil ?_
                                      refine wq_seq ?_
                                      refine wc_ret ?_
                                      refine wq_end1 (.inl rfl) Tryd.results30 rfl ?_
                                      refine ⟨?_, H⟩; congr 1; rw [letterM, if_neg (by omega), if_neg (by omega)]; simp [*]
                          · (try simp only [beq_iff_eq, bne_iff_ne, ne_eq, decide_eq_true_eq, decide_eq_false_iff_not, beq_eq_false_iff_ne, bne_eq_false_iff_eq, Bool.not_eq_true', Bool.not_eq_false', Bool.not_eq_eq_eq_not, Bool.not_true, Bool.not_false, gt_iff_lt, ge_iff_le, Int.not_lt, Int.not_le] at h41)
                            try (exfalso; first | contradiction | omega)
                            all_goals
                              refine wl_no rfl rfl rfl (ltn rfl) ?_
                              refine wl_no rfl rfl rfl (ltn rfl) ?_
                              refine wl_val (r_pick_f rfl rfl) (ltn rfl) ?_
                              refine wl_val (r_assign rfl) (ltn rfl) ?_
                              refine wl_nil ?_
                              refine wq_seq ?_
                              refine wc_cond_f rfl ?_
                              refine wc_skip ?_
                              refine wq_block_normal ?_
                              refine wq_seq ?_
                              refine wc_seq ?_
                              refine wc_region ?_
                              refine wl_val (r_move rfl) (ltn rfl) ?_
                              refine wl_eff (e_call (r_call rfl Tryd.func41 rfl rfl) (is_ret)) (ltn rfl) ?_
                              rintro _ _ ⟨rfl, rfl⟩
                              refine wl_split rfl (ltn rfl) (fun h44 => ?_) (fun h44 => ?_)
                              · (try simp only [beq_iff_eq, bne_iff_ne, ne_eq, decide_eq_true_eq, decide_eq_false_iff_not, beq_eq_false_iff_ne, bne_eq_false_iff_eq, Bool.not_eq_true', Bool.not_eq_false', Bool.not_eq_eq_eq_not, Bool.not_true, Bool.not_false, gt_iff_lt, ge_iff_le, Int.not_lt, Int.not_le] at h44)
                                try (exfalso; first | contradiction | omega)
                                all_goals
                                  refine wl_yes rfl rfl ?_
                                  refine wl_val (r_move rfl) (ltn rfl) ?_
                                  refine wl_yes rfl rfl ?_
                                  refine wl_eff (e_call (r_call rfl Tryd.func19 rfl rfl) (width_ret H hT)) (ltn rfl) ?_
                                  rintro _ w24 ⟨rfl, H24⟩
                                  refine wl_yes rfl rfl ?_
                                  refine wl_val (r_gtr rfl rfl) (ltn rfl) ?_
                                  refine wl_val (r_pick_t rfl rfl) (ltn rfl) ?_
                                  refine wl_val (r_assign rfl) (ltn rfl) ?_
                                  refine wl_nil ?_
                                  refine wq_seq ?_
                                  refine wc_ret ?_
                                  refine wq_end1 (.inl rfl) Tryd.results30 rfl ?_
                                  refine ⟨?_, H24⟩; congr 1; rw [letterM, if_neg (by omega), if_neg (by omega)]; simp [*]
                              · (try simp only [beq_iff_eq, bne_iff_ne, ne_eq, decide_eq_true_eq, decide_eq_false_iff_not, beq_eq_false_iff_ne, bne_eq_false_iff_eq, Bool.not_eq_true', Bool.not_eq_false', Bool.not_eq_eq_eq_not, Bool.not_true, Bool.not_false, gt_iff_lt, ge_iff_le, Int.not_lt, Int.not_le] at h44)
                                try (exfalso; first | contradiction | omega)
                                all_goals
                                  refine wl_no rfl rfl rfl (ltn rfl) ?_
                                  refine wl_no rfl rfl rfl (ltn rfl) ?_
                                  refine wl_no rfl rfl rfl (ltn rfl) ?_
                                  refine wl_val (r_pick_f rfl rfl) (ltn rfl) ?_
                                  refine wl_val (r_assign rfl) (ltn rfl) ?_
                                  refine wl_nil ?_
                                  refine wq_seq ?_
                                  refine wc_ret ?_
                                  refine wq_end1 (.inl rfl) Tryd.results30 rfl ?_
                                  refine ⟨?_, H⟩; congr 1; rw [letterM, if_neg (by omega), if_neg (by omega)]; simp [*]
end
end Go.Proofs.YtmkmffoadapmnaaDoor
