import Derived.Test.YtgmpclifphbjkaaGreatDoorZ13
import Derived.Test.YtgmpclifphbjkaaGreatDoorZ14
import Derived.Test.YtgmpclifphbjkaaGreatDoorZ18
import Derived.Test.YtgmpclifphbjkaaGreatDoorZ7
/- Texts of mine, joined: EdSt EdNone Ref7 Ref7b ESame0. -/
section
/- Editors: Start. -/
set_option linter.unusedSimpArgs false
set_option linter.unusedVariables false
namespace Go.Proofs.YtgmpclifphbjkaaGreatDoor
open Go.RowKit
def EdS.startE (s : EdS) (l : List Int) : Int := if s.inn then 1 else if 1024 < l.length then 3 else 0
def EdS.startS (s : EdS) (hl : List HLn) (base most : Int) (l : List Int) : EdS := if s.startE l = 0 then s.start hl base most l else s
section
variable {w0 w : World} {F : HP} {e p h pr : Nat} {s : EdS} {hl : List HLn} {base most m : Int} {v : Value} {l : List Int}
end
end Go.Proofs.YtgmpclifphbjkaaGreatDoor
end
section
/- An editor that no call made: each method's answer. -/
set_option linter.unusedSimpArgs false
set_option linter.unusedVariables false
namespace Go.Proofs.YtgmpclifphbjkaaGreatDoor
open Go.RowKit
/-- No call made it. -/
def EUnmade (w0 : World) (F : HP) (bv : Value) : Prop := ∀ (G : HP) (W : World), Holds w0 W (G • F) → Ret Tryz.prog 43 #[bv] W fun v w' => v = .bool true ∧ W = w'
theorem ed_none_nil {w : World} : Ret Tryz.prog 43 #[.pointer none] w fun v w' => v = .bool true ∧ w = w' := by
  refine ret_enter Tryz.func43 rfl Tryz.ntmps43 (Nat.le_of_ble_eq_true rfl) ?_
  dsimp only [slots0, Nat.reduceAdd]
  refine wc_seq ?_
  refine wc_region ?_
  refine wl_val (r_assign rfl) (ltn rfl) ?_
  refine wl_nil ?_
  refine wq_seq ?_
  refine wc_seq ?_
  refine wc_region ?_
  refine wl_val (r_move rfl) (ltn rfl) ?_
  refine wl_val (r_ptr_nil Tryz.underlying28 rfl rfl) (ltn rfl) ?_
  refine wl_split rfl (ltn rfl) (fun h1 => ?_) (fun h => by exfalso; (try simp only [cmpS] at h); simp at h)
  (try simp only [cmpS] at h1)
  refine wl_no rfl rfl rfl (ltn rfl) ?_
  refine wl_no rfl rfl rfl (ltn rfl) ?_
  refine wl_no rfl rfl rfl (ltn rfl) ?_
  refine wl_no rfl rfl rfl (ltn rfl) ?_
  refine wl_no rfl rfl rfl (ltn rfl) ?_
  refine wl_val (r_pick_t rfl rfl) (ltn rfl) ?_
  refine wl_val (r_assign rfl) (ltn rfl) ?_
  refine wl_nil ?_
  refine wq_seq ?_
  refine wc_ret ?_
  refine wq_end1 (.inl rfl) Tryz.results43 rfl ?_
  exact ⟨rfl, rfl⟩
section
variable {w0 w : World} {F G : HP} {bv v : Value} {x y : Int} {b : Bool}
theorem enone_zero {b : Nat} {cs : Array Value} (H : Holds w0 w (blk b (.cells cs 66 (0, 0)) • F)) (h : cs[11]? = some (.pointer none)) : Ret Tryz.prog 43 #[.pointer (some ⟨b, 0, none⟩)] w fun v w' => v = .bool true ∧ w = w' := by
  refine ret_enter Tryz.func43 rfl Tryz.ntmps43 (Nat.le_of_ble_eq_true rfl) ?_
  dsimp only [slots0, Nat.reduceAdd]
  refine wc_seq ?_
  refine wc_region ?_
  refine wl_val (r_assign rfl) (ltn rfl) ?_
  refine wl_nil ?_
  refine wq_seq ?_
  refine wc_seq ?_
  refine wc_region ?_
  refine wl_val (r_move rfl) (ltn rfl) ?_
  refine wl_val (r_ptr_nil Tryz.underlying28 rfl rfl) (ltn rfl) ?_
  refine wl_split rfl (ltn rfl) (fun h1 => ?_) (fun h1 => ?_)
  · (try simp only [cmpS] at h1)
    try (exfalso; first | contradiction | omega)
    all_goals
      refine wl_no rfl rfl rfl (ltn rfl) ?_
      refine wl_no rfl rfl rfl (ltn rfl) ?_
      refine wl_no rfl rfl rfl (ltn rfl) ?_
      refine wl_no rfl rfl rfl (ltn rfl) ?_
      refine wl_no rfl rfl rfl (ltn rfl) ?_
      refine wl_val (r_pick_t rfl rfl) (ltn rfl) ?_
      refine wl_val (r_assign rfl) (ltn rfl) ?_
      refine wl_nil ?_
      refine wq_seq ?_
      refine wc_ret ?_
      refine wq_end1 (.inl rfl) Tryz.results43 rfl ?_
      exact ⟨rfl, rfl⟩
  · (try simp only [cmpS] at h1)
    try (exfalso; first | contradiction | omega)
    all_goals
      refine wl_yes rfl rfl ?_
      refine wl_val (r_move rfl) (ltn rfl) ?_
      refine wl_yes rfl rfl ?_
      refine wl_val (r_nil rfl) (ltn rfl) ?_
      refine wl_yes rfl rfl ?_
      refine wl_val (r_fieldA 11 Tryz.underlying66 rfl rfl Tryz.sizeOf24 (by decide) rfl (by first | exact Nat.zero_add _ | rfl)) (ltn rfl) ?_
      refine wl_yes rfl rfl ?_
      refine wl_val (r_load (plain_of Tryz.underlying24 rfl) rfl (cell_of_blk H.get.2 h)) (ltn rfl) ?_
      refine wl_yes rfl rfl ?_
      refine wl_val (r_ptr_nil Tryz.underlying24 rfl rfl) (ltn rfl) ?_
      refine wl_val (r_pick_f rfl rfl) (ltn rfl) ?_
      refine wl_val (r_assign rfl) (ltn rfl) ?_
      refine wl_nil ?_
      refine wq_seq ?_
      refine wc_ret ?_
      refine wq_end1 (.inl rfl) Tryz.results43 rfl ?_
      exact ⟨rfl, rfl⟩
theorem enone_part (H : Holds w0 w (G • F)) (hu : EUnmade w0 F bv) : Ret Tryz.prog 51 #[bv] w fun v w' => v = .int .i64 2 ∧ w = w' := by
  refine ret_enter Tryz.func51 rfl Tryz.ntmps51 (Nat.le_of_ble_eq_true rfl) ?_
  dsimp only [slots0, Nat.reduceAdd]
  refine wc_seq ?_
  refine wc_region ?_
  refine wl_val (r_assign rfl) (ltn rfl) ?_
  refine wl_nil ?_
  refine wq_seq ?_
  refine wc_seq ?_
  refine wc_block ?_
  refine wc_seq ?_
  refine wc_region ?_
  refine wl_val (r_move rfl) (ltn rfl) ?_
  refine wl_eff (e_call (r_call rfl Tryz.func43 rfl rfl) (hu _ _ H)) (ltn rfl) ?_
  rintro _ _ ⟨rfl, rfl⟩
  refine wl_val (r_assign rfl) (ltn rfl) ?_
  refine wl_nil ?_
  refine wq_seq ?_
  refine wc_cond_t rfl ?_
  refine wc_seq ?_
  refine wc_region ?_
  refine wl_val (r_assign rfl) (ltn rfl) ?_
  refine wl_nil ?_
  refine wq_seq ?_
  refine wc_ret ?_
  refine wq_block_ret ?_
  refine wq_then_ret ?_
  refine wq_end1 (.inl rfl) Tryz.results51 rfl ?_
  exact ⟨rfl, rfl⟩
theorem enone_begin (H : Holds w0 w (G • F)) (hu : EUnmade w0 F bv) : Ret Tryz.prog 11 #[bv] w fun v' w' => v' = .int .i64 2 ∧ w = w' := by
  refine ret_enter Tryz.func11 rfl Tryz.ntmps11 (Nat.le_of_ble_eq_true rfl) ?_
  dsimp only [slots0, Nat.reduceAdd]
  refine wc_seq ?_
  refine wc_region ?_
  refine wl_val (r_assign rfl) (ltn rfl) ?_
  refine wl_nil ?_
  refine wq_seq ?_
  refine wc_seq ?_
  refine wc_block ?_
  refine wc_seq ?_
  refine wc_region ?_
  refine wl_val (r_move rfl) (ltn rfl) ?_
  refine wl_eff (e_call (r_call rfl Tryz.func43 rfl rfl) (hu _ _ H)) (ltn rfl) ?_
  rintro _ _ ⟨rfl, rfl⟩
  refine wl_val (r_assign rfl) (ltn rfl) ?_
  refine wl_nil ?_
  refine wq_seq ?_
  refine wc_cond_t rfl ?_
  refine wc_seq ?_
  refine wc_region ?_
  refine wl_val (r_assign rfl) (ltn rfl) ?_
  refine wl_nil ?_
  refine wq_seq ?_
  refine wc_ret ?_
  refine wq_block_ret ?_
  refine wq_then_ret ?_
  refine wq_end1 (.inl rfl) Tryz.results11 rfl ?_
  exact ⟨rfl, rfl⟩
theorem enone_end (H : Holds w0 w (G • F)) (hu : EUnmade w0 F bv) : Ret Tryz.prog 13 #[bv, .int .i64 x] w fun v' w' => v' = .int .i64 2 ∧ w = w' := by
  refine ret_enter Tryz.func13 rfl Tryz.ntmps13 (Nat.le_of_ble_eq_true rfl) ?_
  dsimp only [slots0, Nat.reduceAdd]
  refine wc_seq ?_
  refine wc_region ?_
  refine wl_val (r_assign rfl) (ltn rfl) ?_
  refine wl_nil ?_
  refine wq_seq ?_
  refine wc_seq ?_
  refine wc_seq ?_
  refine wc_region ?_
  refine wl_val (r_move rfl) (ltn rfl) ?_
  refine wl_eff (e_call (r_call rfl Tryz.func51 rfl rfl) (enone_part H hu)) (ltn rfl) ?_
  rintro _ _ ⟨rfl, rfl⟩
  refine wl_val (r_assign rfl) (ltn rfl) ?_
  refine wl_nil ?_
  refine wq_seq ?_
  refine wc_seq ?_
  refine wc_region ?_
  refine wl_val (r_move rfl) (ltn rfl) ?_
  refine wl_val (r_neq rfl rfl) (ltn rfl) ?_
  refine wl_nil ?_
  refine wq_seq ?_
  refine wc_cond rfl (fun h1 => ?_) (fun h => by exfalso; (try simp only [cmpS] at h); simp at h)
  (try simp only [cmpS] at h1)
  refine wc_seq ?_
  refine wc_region ?_
  refine wl_val (r_move rfl) (ltn rfl) ?_
  refine wl_val (r_assign rfl) (ltn rfl) ?_
  refine wl_nil ?_
  refine wq_seq ?_
  refine wc_ret ?_
  refine wq_then_ret ?_
  refine wq_end1 (.inl rfl) Tryz.results13 rfl ?_
  exact ⟨rfl, rfl⟩
theorem enone_type (H : Holds w0 w (G • F)) (hu : EUnmade w0 F bv) : Ret Tryz.prog 21 #[bv, v] w fun v' w' => v' = .int .i64 2 ∧ w = w' := by
  refine ret_enter Tryz.func21 rfl Tryz.ntmps21 (Nat.le_of_ble_eq_true rfl) ?_
  dsimp only [slots0, Nat.reduceAdd]
  refine wc_seq ?_
  refine wc_region ?_
  refine wl_val (r_assign rfl) (ltn rfl) ?_
  refine wl_nil ?_
  refine wq_seq ?_
  refine wc_seq ?_
  refine wc_seq ?_
  refine wc_region ?_
  refine wl_val (r_move rfl) (ltn rfl) ?_
  refine wl_eff (e_call (r_call rfl Tryz.func51 rfl rfl) (enone_part H hu)) (ltn rfl) ?_
  rintro _ _ ⟨rfl, rfl⟩
  refine wl_val (r_assign rfl) (ltn rfl) ?_
  refine wl_nil ?_
  refine wq_seq ?_
  refine wc_seq ?_
  refine wc_region ?_
  refine wl_val (r_move rfl) (ltn rfl) ?_
  refine wl_val (r_neq rfl rfl) (ltn rfl) ?_
  refine wl_nil ?_
  refine wq_seq ?_
  refine wc_cond rfl (fun h1 => ?_) (fun h => by exfalso; (try simp only [cmpS] at h); simp at h)
  (try simp only [cmpS] at h1)
  refine wc_seq ?_
  refine wc_region ?_
  refine wl_val (r_move rfl) (ltn rfl) ?_
  refine wl_val (r_assign rfl) (ltn rfl) ?_
  refine wl_nil ?_
  refine wq_seq ?_
  refine wc_ret ?_
  refine wq_then_ret ?_
  refine wq_end1 (.inl rfl) Tryz.results21 rfl ?_
  exact ⟨rfl, rfl⟩
theorem enone_copy (H : Holds w0 w (G • F)) (hu : EUnmade w0 F bv) : Ret Tryz.prog 48 #[bv, .int .i64 x, .int .i64 y, .bool b] w fun v' w' => v' = .int .i64 2 ∧ w = w' := by
  refine ret_enter Tryz.func48 rfl Tryz.ntmps48 (Nat.le_of_ble_eq_true rfl) ?_
  dsimp only [slots0, Nat.reduceAdd]
  refine wc_seq ?_
  refine wc_region ?_
  refine wl_val (r_assign rfl) (ltn rfl) ?_
  refine wl_nil ?_
  refine wq_seq ?_
  refine wc_seq ?_
  refine wc_seq ?_
  refine wc_region ?_
  refine wl_val (r_move rfl) (ltn rfl) ?_
  refine wl_eff (e_call (r_call rfl Tryz.func51 rfl rfl) (enone_part H hu)) (ltn rfl) ?_
  rintro _ _ ⟨rfl, rfl⟩
  refine wl_val (r_assign rfl) (ltn rfl) ?_
  refine wl_nil ?_
  refine wq_seq ?_
  refine wc_seq ?_
  refine wc_region ?_
  refine wl_val (r_move rfl) (ltn rfl) ?_
  refine wl_val (r_neq rfl rfl) (ltn rfl) ?_
  refine wl_nil ?_
  refine wq_seq ?_
  refine wc_cond rfl (fun h1 => ?_) (fun h => by exfalso; (try simp only [cmpS] at h); simp at h)
  (try simp only [cmpS] at h1)
  refine wc_seq ?_
  refine wc_region ?_
  refine wl_val (r_move rfl) (ltn rfl) ?_
  refine wl_val (r_assign rfl) (ltn rfl) ?_
  refine wl_nil ?_
  refine wq_seq ?_
  refine wc_ret ?_
  refine wq_then_ret ?_
  refine wq_end1 (.inl rfl) Tryz.results48 rfl ?_
  exact ⟨rfl, rfl⟩
theorem enone_yank (H : Holds w0 w (G • F)) (hu : EUnmade w0 F bv) : Ret Tryz.prog 23 #[bv] w fun v' w' => v' = .int .i64 2 ∧ w = w' := by
  refine ret_enter Tryz.func23 rfl Tryz.ntmps23 (Nat.le_of_ble_eq_true rfl) ?_
  dsimp only [slots0, Nat.reduceAdd]
  refine wc_seq ?_
  refine wc_region ?_
  refine wl_val (r_assign rfl) (ltn rfl) ?_
  refine wl_nil ?_
  refine wq_seq ?_
  refine wc_seq ?_
  refine wc_seq ?_
  refine wc_region ?_
  refine wl_val (r_move rfl) (ltn rfl) ?_
  refine wl_eff (e_call (r_call rfl Tryz.func51 rfl rfl) (enone_part H hu)) (ltn rfl) ?_
  rintro _ _ ⟨rfl, rfl⟩
  refine wl_val (r_assign rfl) (ltn rfl) ?_
  refine wl_nil ?_
  refine wq_seq ?_
  refine wc_seq ?_
  refine wc_region ?_
  refine wl_val (r_move rfl) (ltn rfl) ?_
  refine wl_val (r_neq rfl rfl) (ltn rfl) ?_
  refine wl_nil ?_
  refine wq_seq ?_
  refine wc_cond rfl (fun h1 => ?_) (fun h => by exfalso; (try simp only [cmpS] at h); simp at h)
  (try simp only [cmpS] at h1)
  refine wc_seq ?_
  refine wc_region ?_
  refine wl_val (r_move rfl) (ltn rfl) ?_
  refine wl_val (r_assign rfl) (ltn rfl) ?_
  refine wl_nil ?_
  refine wq_seq ?_
  refine wc_ret ?_
  refine wq_then_ret ?_
  refine wq_end1 (.inl rfl) Tryz.results23 rfl ?_
  exact ⟨rfl, rfl⟩
theorem enone_pop (H : Holds w0 w (G • F)) (hu : EUnmade w0 F bv) : Ret Tryz.prog 24 #[bv, .int .i64 x] w fun v' w' => v' = .int .i64 2 ∧ w = w' := by
  refine ret_enter Tryz.func24 rfl Tryz.ntmps24 (Nat.le_of_ble_eq_true rfl) ?_
  dsimp only [slots0, Nat.reduceAdd]
  refine wc_seq ?_
  refine wc_region ?_
  refine wl_val (r_assign rfl) (ltn rfl) ?_
  refine wl_nil ?_
  refine wq_seq ?_
  refine wc_seq ?_
  refine wc_seq ?_
  refine wc_region ?_
  refine wl_val (r_move rfl) (ltn rfl) ?_
  refine wl_eff (e_call (r_call rfl Tryz.func51 rfl rfl) (enone_part H hu)) (ltn rfl) ?_
  rintro _ _ ⟨rfl, rfl⟩
  refine wl_val (r_assign rfl) (ltn rfl) ?_
  refine wl_nil ?_
  refine wq_seq ?_
  refine wc_seq ?_
  refine wc_region ?_
  refine wl_val (r_move rfl) (ltn rfl) ?_
  refine wl_val (r_neq rfl rfl) (ltn rfl) ?_
  refine wl_nil ?_
  refine wq_seq ?_
  refine wc_cond rfl (fun h1 => ?_) (fun h => by exfalso; (try simp only [cmpS] at h); simp at h)
  (try simp only [cmpS] at h1)
  refine wc_seq ?_
  refine wc_region ?_
  refine wl_val (r_move rfl) (ltn rfl) ?_
  refine wl_val (r_assign rfl) (ltn rfl) ?_
  refine wl_nil ?_
  refine wq_seq ?_
  refine wc_ret ?_
  refine wq_then_ret ?_
  refine wq_end1 (.inl rfl) Tryz.results24 rfl ?_
  exact ⟨rfl, rfl⟩
theorem enone_move (H : Holds w0 w (G • F)) (hu : EUnmade w0 F bv) : Ret Tryz.prog 25 #[bv, .int .i64 x] w fun v' w' => v' = .int .i64 2 ∧ w = w' := by
  refine ret_enter Tryz.func25 rfl Tryz.ntmps25 (Nat.le_of_ble_eq_true rfl) ?_
  dsimp only [slots0, Nat.reduceAdd]
  refine wc_seq ?_
  refine wc_region ?_
  refine wl_val (r_assign rfl) (ltn rfl) ?_
  refine wl_nil ?_
  refine wq_seq ?_
  refine wc_seq ?_
  refine wc_seq ?_
  refine wc_region ?_
  refine wl_val (r_move rfl) (ltn rfl) ?_
  refine wl_eff (e_call (r_call rfl Tryz.func51 rfl rfl) (enone_part H hu)) (ltn rfl) ?_
  rintro _ _ ⟨rfl, rfl⟩
  refine wl_val (r_assign rfl) (ltn rfl) ?_
  refine wl_nil ?_
  refine wq_seq ?_
  refine wc_seq ?_
  refine wc_region ?_
  refine wl_val (r_move rfl) (ltn rfl) ?_
  refine wl_val (r_neq rfl rfl) (ltn rfl) ?_
  refine wl_nil ?_
  refine wq_seq ?_
  refine wc_cond rfl (fun h1 => ?_) (fun h => by exfalso; (try simp only [cmpS] at h); simp at h)
  (try simp only [cmpS] at h1)
  refine wc_seq ?_
  refine wc_region ?_
  refine wl_val (r_move rfl) (ltn rfl) ?_
  refine wl_val (r_assign rfl) (ltn rfl) ?_
  refine wl_nil ?_
  refine wq_seq ?_
  refine wc_ret ?_
  refine wq_then_ret ?_
  refine wq_end1 (.inl rfl) Tryz.results25 rfl ?_
  exact ⟨rfl, rfl⟩
theorem enone_undo (H : Holds w0 w (G • F)) (hu : EUnmade w0 F bv) : Ret Tryz.prog 15 #[bv] w fun v' w' => v' = .int .i64 2 ∧ w = w' := by
  refine ret_enter Tryz.func15 rfl Tryz.ntmps15 (Nat.le_of_ble_eq_true rfl) ?_
  dsimp only [slots0, Nat.reduceAdd]
  refine wc_seq ?_
  refine wc_region ?_
  refine wl_val (r_assign rfl) (ltn rfl) ?_
  refine wl_nil ?_
  refine wq_seq ?_
  refine wc_seq ?_
  refine wc_seq ?_
  refine wc_region ?_
  refine wl_val (r_move rfl) (ltn rfl) ?_
  refine wl_eff (e_call (r_call rfl Tryz.func51 rfl rfl) (enone_part H hu)) (ltn rfl) ?_
  rintro _ _ ⟨rfl, rfl⟩
  refine wl_val (r_assign rfl) (ltn rfl) ?_
  refine wl_nil ?_
  refine wq_seq ?_
  refine wc_seq ?_
  refine wc_region ?_
  refine wl_val (r_move rfl) (ltn rfl) ?_
  refine wl_val (r_neq rfl rfl) (ltn rfl) ?_
  refine wl_nil ?_
  refine wq_seq ?_
  refine wc_cond rfl (fun h1 => ?_) (fun h => by exfalso; (try simp only [cmpS] at h); simp at h)
  (try simp only [cmpS] at h1)
  refine wc_seq ?_
  refine wc_region ?_
  refine wl_val (r_move rfl) (ltn rfl) ?_
  refine wl_val (r_assign rfl) (ltn rfl) ?_
  refine wl_nil ?_
  refine wq_seq ?_
  refine wc_ret ?_
  refine wq_then_ret ?_
  refine wq_end1 (.inl rfl) Tryz.results15 rfl ?_
  exact ⟨rfl, rfl⟩
theorem enone_goto (H : Holds w0 w (G • F)) (hu : EUnmade w0 F bv) : Ret Tryz.prog 26 #[bv, .int .i64 x] w fun v' w' => v' = .int .i64 2 ∧ w = w' := by
  refine ret_enter Tryz.func26 rfl Tryz.ntmps26 (Nat.le_of_ble_eq_true rfl) ?_
  dsimp only [slots0, Nat.reduceAdd]
  refine wc_seq ?_
  refine wc_region ?_
  refine wl_val (r_assign rfl) (ltn rfl) ?_
  refine wl_nil ?_
  refine wq_seq ?_
  refine wc_seq ?_
  refine wc_seq ?_
  refine wc_region ?_
  refine wl_val (r_move rfl) (ltn rfl) ?_
  refine wl_eff (e_call (r_call rfl Tryz.func51 rfl rfl) (enone_part H hu)) (ltn rfl) ?_
  rintro _ _ ⟨rfl, rfl⟩
  refine wl_val (r_assign rfl) (ltn rfl) ?_
  refine wl_nil ?_
  refine wq_seq ?_
  refine wc_seq ?_
  refine wc_region ?_
  refine wl_val (r_move rfl) (ltn rfl) ?_
  refine wl_val (r_neq rfl rfl) (ltn rfl) ?_
  refine wl_nil ?_
  refine wq_seq ?_
  refine wc_cond rfl (fun h1 => ?_) (fun h => by exfalso; (try simp only [cmpS] at h); simp at h)
  (try simp only [cmpS] at h1)
  refine wc_seq ?_
  refine wc_region ?_
  refine wl_val (r_move rfl) (ltn rfl) ?_
  refine wl_val (r_assign rfl) (ltn rfl) ?_
  refine wl_nil ?_
  refine wq_seq ?_
  refine wc_ret ?_
  refine wq_then_ret ?_
  refine wq_end1 (.inl rfl) Tryz.results26 rfl ?_
  exact ⟨rfl, rfl⟩
theorem enone_digit (H : Holds w0 w (G • F)) (hu : EUnmade w0 F bv) : Ret Tryz.prog 27 #[bv, .int .i64 x] w fun v' w' => v' = .int .i64 2 ∧ w = w' := by
  refine ret_enter Tryz.func27 rfl Tryz.ntmps27 (Nat.le_of_ble_eq_true rfl) ?_
  dsimp only [slots0, Nat.reduceAdd]
  refine wc_seq ?_
  refine wc_region ?_
  refine wl_val (r_assign rfl) (ltn rfl) ?_
  refine wl_nil ?_
  refine wq_seq ?_
  refine wc_seq ?_
  refine wc_seq ?_
  refine wc_region ?_
  refine wl_val (r_move rfl) (ltn rfl) ?_
  refine wl_eff (e_call (r_call rfl Tryz.func51 rfl rfl) (enone_part H hu)) (ltn rfl) ?_
  rintro _ _ ⟨rfl, rfl⟩
  refine wl_val (r_assign rfl) (ltn rfl) ?_
  refine wl_nil ?_
  refine wq_seq ?_
  refine wc_seq ?_
  refine wc_region ?_
  refine wl_val (r_move rfl) (ltn rfl) ?_
  refine wl_val (r_neq rfl rfl) (ltn rfl) ?_
  refine wl_nil ?_
  refine wq_seq ?_
  refine wc_cond rfl (fun h1 => ?_) (fun h => by exfalso; (try simp only [cmpS] at h); simp at h)
  (try simp only [cmpS] at h1)
  refine wc_seq ?_
  refine wc_region ?_
  refine wl_val (r_move rfl) (ltn rfl) ?_
  refine wl_val (r_assign rfl) (ltn rfl) ?_
  refine wl_nil ?_
  refine wq_seq ?_
  refine wc_ret ?_
  refine wq_then_ret ?_
  refine wq_end1 (.inl rfl) Tryz.results27 rfl ?_
  exact ⟨rfl, rfl⟩
theorem enone_setmode (H : Holds w0 w (G • F)) (hu : EUnmade w0 F bv) : Ret Tryz.prog 28 #[bv, .int .i64 x] w fun v' w' => v' = .int .i64 2 ∧ w = w' := by
  refine ret_enter Tryz.func28 rfl Tryz.ntmps28 (Nat.le_of_ble_eq_true rfl) ?_
  dsimp only [slots0, Nat.reduceAdd]
  refine wc_seq ?_
  refine wc_region ?_
  refine wl_val (r_assign rfl) (ltn rfl) ?_
  refine wl_nil ?_
  refine wq_seq ?_
  refine wc_seq ?_
  refine wc_seq ?_
  refine wc_region ?_
  refine wl_val (r_move rfl) (ltn rfl) ?_
  refine wl_eff (e_call (r_call rfl Tryz.func51 rfl rfl) (enone_part H hu)) (ltn rfl) ?_
  rintro _ _ ⟨rfl, rfl⟩
  refine wl_val (r_assign rfl) (ltn rfl) ?_
  refine wl_nil ?_
  refine wq_seq ?_
  refine wc_seq ?_
  refine wc_region ?_
  refine wl_val (r_move rfl) (ltn rfl) ?_
  refine wl_val (r_neq rfl rfl) (ltn rfl) ?_
  refine wl_nil ?_
  refine wq_seq ?_
  refine wc_cond rfl (fun h1 => ?_) (fun h => by exfalso; (try simp only [cmpS] at h); simp at h)
  (try simp only [cmpS] at h1)
  refine wc_seq ?_
  refine wc_region ?_
  refine wl_val (r_move rfl) (ltn rfl) ?_
  refine wl_val (r_assign rfl) (ltn rfl) ?_
  refine wl_nil ?_
  refine wq_seq ?_
  refine wc_ret ?_
  refine wq_then_ret ?_
  refine wq_end1 (.inl rfl) Tryz.results28 rfl ?_
  exact ⟨rfl, rfl⟩
theorem enone_finish (H : Holds w0 w (G • F)) (hu : EUnmade w0 F bv) : Ret Tryz.prog 29 #[bv, .int .i64 x] w fun v' w' => v' = .int .i64 2 ∧ w = w' := by
  refine ret_enter Tryz.func29 rfl Tryz.ntmps29 (Nat.le_of_ble_eq_true rfl) ?_
  dsimp only [slots0, Nat.reduceAdd]
  refine wc_seq ?_
  refine wc_region ?_
  refine wl_val (r_assign rfl) (ltn rfl) ?_
  refine wl_nil ?_
  refine wq_seq ?_
  refine wc_seq ?_
  refine wc_seq ?_
  refine wc_region ?_
  refine wl_val (r_move rfl) (ltn rfl) ?_
  refine wl_eff (e_call (r_call rfl Tryz.func51 rfl rfl) (enone_part H hu)) (ltn rfl) ?_
  rintro _ _ ⟨rfl, rfl⟩
  refine wl_val (r_assign rfl) (ltn rfl) ?_
  refine wl_nil ?_
  refine wq_seq ?_
  refine wc_seq ?_
  refine wc_region ?_
  refine wl_val (r_move rfl) (ltn rfl) ?_
  refine wl_val (r_neq rfl rfl) (ltn rfl) ?_
  refine wl_nil ?_
  refine wq_seq ?_
  refine wc_cond rfl (fun h1 => ?_) (fun h => by exfalso; (try simp only [cmpS] at h); simp at h)
  (try simp only [cmpS] at h1)
  refine wc_seq ?_
  refine wc_region ?_
  refine wl_val (r_move rfl) (ltn rfl) ?_
  refine wl_val (r_assign rfl) (ltn rfl) ?_
  refine wl_nil ?_
  refine wq_seq ?_
  refine wc_ret ?_
  refine wq_then_ret ?_
  refine wq_end1 (.inl rfl) Tryz.results29 rfl ?_
  exact ⟨rfl, rfl⟩
theorem enone_kill (H : Holds w0 w (G • F)) (hu : EUnmade w0 F bv) : Ret Tryz.prog 22 #[bv, .int .i64 x, .int .i64 y, .bool b] w fun v' w' => v' = .int .i64 2 ∧ w = w' := by
  refine ret_enter Tryz.func22 rfl Tryz.ntmps22 (Nat.le_of_ble_eq_true rfl) ?_
  dsimp only [slots0, Nat.reduceAdd]
  refine wc_seq ?_
  refine wc_region ?_
  refine wl_val (r_assign rfl) (ltn rfl) ?_
  refine wl_nil ?_
  refine wq_seq ?_
  refine wc_seq ?_
  refine wc_seq ?_
  refine wc_region ?_
  refine wl_val (r_move rfl) (ltn rfl) ?_
  refine wl_val (r_move rfl) (ltn rfl) ?_
  refine wl_val (r_move rfl) (ltn rfl) ?_
  refine wl_val (r_move rfl) (ltn rfl) ?_
  refine wl_eff (e_call (r_call rfl Tryz.func48 rfl rfl) (enone_copy H hu)) (ltn rfl) ?_
  rintro _ _ ⟨rfl, rfl⟩
  refine wl_val (r_assign rfl) (ltn rfl) ?_
  refine wl_nil ?_
  refine wq_seq ?_
  refine wc_seq ?_
  refine wc_region ?_
  refine wl_val (r_move rfl) (ltn rfl) ?_
  refine wl_val (r_neq rfl rfl) (ltn rfl) ?_
  refine wl_nil ?_
  refine wq_seq ?_
  refine wc_cond rfl (fun h1 => ?_) (fun h => by exfalso; (try simp only [cmpS] at h); simp at h)
  (try simp only [cmpS] at h1)
  refine wc_seq ?_
  refine wc_region ?_
  refine wl_val (r_move rfl) (ltn rfl) ?_
  refine wl_val (r_assign rfl) (ltn rfl) ?_
  refine wl_nil ?_
  refine wq_seq ?_
  refine wc_ret ?_
  refine wq_then_ret ?_
  refine wq_end1 (.inl rfl) Tryz.results22 rfl ?_
  exact ⟨rfl, rfl⟩
theorem enone_count (H : Holds w0 w (G • F)) (hu : EUnmade w0 F bv) : Ret Tryz.prog 30 #[bv] w fun v' w' => v' = .int .i64 0 ∧ w = w' := by
  refine ret_enter Tryz.func30 rfl Tryz.ntmps30 (Nat.le_of_ble_eq_true rfl) ?_
  dsimp only [slots0, Nat.reduceAdd]
  refine wc_seq ?_
  refine wc_region ?_
  refine wl_val (r_assign rfl) (ltn rfl) ?_
  refine wl_nil ?_
  refine wq_seq ?_
  refine wc_seq ?_
  refine wc_block ?_
  refine wc_seq ?_
  refine wc_region ?_
  refine wl_val (r_move rfl) (ltn rfl) ?_
  refine wl_eff (e_call (r_call rfl Tryz.func43 rfl rfl) (hu _ _ H)) (ltn rfl) ?_
  rintro _ _ ⟨rfl, rfl⟩
  refine wl_val (r_assign rfl) (ltn rfl) ?_
  refine wl_nil ?_
  refine wq_seq ?_
  refine wc_cond_t rfl ?_
  refine wc_seq ?_
  refine wc_region ?_
  refine wl_val (r_assign rfl) (ltn rfl) ?_
  refine wl_nil ?_
  refine wq_seq ?_
  refine wc_ret ?_
  refine wq_block_ret ?_
  refine wq_then_ret ?_
  refine wq_end1 (.inl rfl) Tryz.results30 rfl ?_
  exact ⟨rfl, rfl⟩
theorem enone_given (H : Holds w0 w (G • F)) (hu : EUnmade w0 F bv) : Ret Tryz.prog 31 #[bv] w fun v' w' => v' = .bool false ∧ w = w' := by
  refine ret_enter Tryz.func31 rfl Tryz.ntmps31 (Nat.le_of_ble_eq_true rfl) ?_
  dsimp only [slots0, Nat.reduceAdd]
  refine wc_seq ?_
  refine wc_region ?_
  refine wl_val (r_assign rfl) (ltn rfl) ?_
  refine wl_nil ?_
  refine wq_seq ?_
  refine wc_seq ?_
  refine wc_region ?_
  refine wl_val (r_move rfl) (ltn rfl) ?_
  refine wl_eff (e_call (r_call rfl Tryz.func43 rfl rfl) (hu _ _ H)) (ltn rfl) ?_
  rintro _ _ ⟨rfl, rfl⟩
  refine wl_val (r_not rfl) (ltn rfl) ?_
  refine wl_split rfl (ltn rfl) (fun h1 => ?_) (fun h1 => ?_)
  · (try simp only [cmpS] at h1)
    try (exfalso; first | contradiction | omega)
    all_goals
      refine wl_yes rfl rfl ?_
      refine wl_val (r_move rfl) (ltn rfl) ?_
      refine wl_yes rfl rfl ?_
      refine wl_val (r_nil rfl) (ltn rfl) ?_
      refine wl_yes rfl rfl ?_
      refine wl_val (r_fieldA 13 Tryz.underlying66 rfl rfl Tryz.sizeOf4 (by decide) rfl (by first | exact Nat.zero_add _ | rfl)) (ltn rfl) ?_
      refine wl_yes rfl rfl ?_
      refine wl_val (r_load (plain_of Tryz.underlying4 rfl) rfl (by first | assumption | exact cell_of_blk (by assumption) rfl)) (ltn rfl) ?_
      refine wl_val (r_pick_t rfl rfl) (ltn rfl) ?_
      refine wl_val (r_assign rfl) (ltn rfl) ?_
      refine wl_nil ?_
      refine wq_seq ?_
      refine wc_ret ?_
      refine wq_end1 (.inl rfl) Tryz.results31 rfl ?_
      exact ⟨rfl, rfl⟩
  · (try simp only [cmpS] at h1)
    try (exfalso; first | contradiction | omega)
    all_goals
      refine wl_no rfl rfl rfl (ltn rfl) ?_
      refine wl_no rfl rfl rfl (ltn rfl) ?_
      refine wl_no rfl rfl rfl (ltn rfl) ?_
      refine wl_no rfl rfl rfl (ltn rfl) ?_
      refine wl_val (r_pick_f rfl rfl) (ltn rfl) ?_
      refine wl_val (r_assign rfl) (ltn rfl) ?_
      refine wl_nil ?_
      refine wq_seq ?_
      refine wc_ret ?_
      refine wq_end1 (.inl rfl) Tryz.results31 rfl ?_
      exact ⟨rfl, rfl⟩
theorem enone_kills (H : Holds w0 w (G • F)) (hu : EUnmade w0 F bv) : Ret Tryz.prog 32 #[bv] w fun v' w' => v' = .slice none 0 0 ∧ w = w' := by
  refine ret_enter Tryz.func32 rfl Tryz.ntmps32 (Nat.le_of_ble_eq_true rfl) ?_
  dsimp only [slots0, Nat.reduceAdd]
  refine wc_seq ?_
  refine wc_region ?_
  refine wl_val (r_assign rfl) (ltn rfl) ?_
  refine wl_nil ?_
  refine wq_seq ?_
  refine wc_seq ?_
  refine wc_seq ?_
  refine wc_region ?_
  refine wl_val (r_move rfl) (ltn rfl) ?_
  refine wl_eff (e_call (r_call rfl Tryz.func43 rfl rfl) (hu _ _ H)) (ltn rfl) ?_
  rintro _ _ ⟨rfl, rfl⟩
  refine wl_nil ?_
  refine wq_seq ?_
  refine wc_cond_t rfl ?_
  refine wc_seq ?_
  refine wc_region ?_
  refine wl_val (r_assign rfl) (ltn rfl) ?_
  refine wl_nil ?_
  refine wq_seq ?_
  refine wc_ret ?_
  refine wq_then_ret ?_
  refine wq_end1 (.inl rfl) Tryz.results32 rfl ?_
  exact ⟨rfl, rfl⟩
theorem enone_history (H : Holds w0 w (G • F)) (hu : EUnmade w0 F bv) : Ret Tryz.prog 33 #[bv] w fun v' w' => v' = .pointer none ∧ w = w' := by
  refine ret_enter Tryz.func33 rfl Tryz.ntmps33 (Nat.le_of_ble_eq_true rfl) ?_
  dsimp only [slots0, Nat.reduceAdd]
  refine wc_seq ?_
  refine wc_region ?_
  refine wl_val (r_assign rfl) (ltn rfl) ?_
  refine wl_nil ?_
  refine wq_seq ?_
  refine wc_seq ?_
  refine wc_seq ?_
  refine wc_region ?_
  refine wl_val (r_move rfl) (ltn rfl) ?_
  refine wl_eff (e_call (r_call rfl Tryz.func43 rfl rfl) (hu _ _ H)) (ltn rfl) ?_
  rintro _ _ ⟨rfl, rfl⟩
  refine wl_nil ?_
  refine wq_seq ?_
  refine wc_cond_t rfl ?_
  refine wc_seq ?_
  refine wc_region ?_
  refine wl_val (r_assign rfl) (ltn rfl) ?_
  refine wl_nil ?_
  refine wq_seq ?_
  refine wc_ret ?_
  refine wq_then_ret ?_
  refine wq_end1 (.inl rfl) Tryz.results33 rfl ?_
  exact ⟨rfl, rfl⟩
theorem enone_clone (H : Holds w0 w (G • F)) (hu : EUnmade w0 F bv) : Ret Tryz.prog 34 #[bv] w fun v' w' => v' = .pointer none ∧ w = w' := by
  refine ret_enter Tryz.func34 rfl Tryz.ntmps34 (Nat.le_of_ble_eq_true rfl) ?_
  dsimp only [slots0, Nat.reduceAdd]
  refine wc_seq ?_
  refine wc_region ?_
  refine wl_val (r_assign rfl) (ltn rfl) ?_
  refine wl_nil ?_
  refine wq_seq ?_
  refine wc_seq ?_
  refine wc_seq ?_
  refine wc_region ?_
  refine wl_val (r_move rfl) (ltn rfl) ?_
  refine wl_eff (e_call (r_call rfl Tryz.func43 rfl rfl) (hu _ _ H)) (ltn rfl) ?_
  rintro _ _ ⟨rfl, rfl⟩
  refine wl_nil ?_
  refine wq_seq ?_
  refine wc_cond_t rfl ?_
  refine wc_seq ?_
  refine wc_region ?_
  refine wl_val (r_assign rfl) (ltn rfl) ?_
  refine wl_nil ?_
  refine wq_seq ?_
  refine wc_ret ?_
  refine wq_then_ret ?_
  refine wq_end1 (.inl rfl) Tryz.results34 rfl ?_
  exact ⟨rfl, rfl⟩
theorem enone_start (H : Holds w0 w (G • F)) (hu : EUnmade w0 F bv) : Ret Tryz.prog 10 #[bv, .pointer none, .slice none 0 0] w fun v' w' => v' = .int .i64 2 ∧ w = w' := by
  refine ret_enter Tryz.func10 rfl Tryz.ntmps10 (Nat.le_of_ble_eq_true rfl) ?_
  dsimp only [slots0, Nat.reduceAdd]
  refine wc_seq ?_
  refine wc_region ?_
  refine wl_val (r_assign rfl) (ltn rfl) ?_
  refine wl_nil ?_
  refine wq_seq ?_
  refine wc_seq ?_
  refine wc_block ?_
  refine wc_seq ?_
  refine wc_region ?_
  refine wl_val (r_move rfl) (ltn rfl) ?_
  refine wl_eff (e_call (r_call rfl Tryz.func43 rfl rfl) (hu _ _ H)) (ltn rfl) ?_
  rintro _ _ ⟨rfl, rfl⟩
  refine wl_val (r_move rfl) (ltn rfl) ?_
  refine wl_no rfl rfl rfl (ltn rfl) ?_
  refine wl_no rfl rfl rfl (ltn rfl) ?_
  refine wl_no rfl rfl rfl (ltn rfl) ?_
  refine wl_val (r_pick_t rfl rfl) (ltn rfl) ?_
  refine wl_val (r_assign rfl) (ltn rfl) ?_
  refine wl_nil ?_
  refine wq_seq ?_
  refine wc_cond_t rfl ?_
  refine wc_seq ?_
  refine wc_region ?_
  refine wl_val (r_assign rfl) (ltn rfl) ?_
  refine wl_nil ?_
  refine wq_seq ?_
  refine wc_ret ?_
  refine wq_block_ret ?_
  refine wq_then_ret ?_
  refine wq_end1 (.inl rfl) Tryz.results10 rfl ?_
  exact ⟨rfl, rfl⟩
end
end Go.Proofs.YtgmpclifphbjkaaGreatDoor
end
section
/- The document's buffer: New, Move, Replace, Line; a buffer's Move and Line. -/
set_option linter.unusedSimpArgs false
set_option linter.unusedVariables false
namespace Go.Proofs.YtgmpclifphbjkaaGreatDoor
open Go.RowKit
def refCells (v : Value) (pt mk : Int) : Array Value := #[v, .int .i64 pt, .int .i64 mk]
/-- The document's buffer at p. -/
def RefRep (p : Nat) (L : List Int) (pt mk : Int) : HP := exHP fun (v : Value) => fact (L.length ≤ 1024 ∧ (0 ≤ pt ∧ pt ≤ L.length) ∧ (-1 ≤ mk ∧ mk ≤ L.length)) • blk p (.cells (refCells v pt mk) 195 (0, 0)) • RowI 21 .i32 v L
section
variable {w0 w : World} {F : HP} {p : Nat} {L : List Int} {pt mk : Int} {v : Value} {l : List Int} {i j : Int}
end
end Go.Proofs.YtgmpclifphbjkaaGreatDoor
end
section
/- The document's buffer, further: Move, Replace, Line; a buffer's Move and Line; whether the two are alike. -/
set_option linter.unusedSimpArgs false
set_option linter.unusedVariables false
namespace Go.Proofs.YtgmpclifphbjkaaGreatDoor
open Go.RowKit
section
variable {w0 w : World} {F : HP} {p : Nat} {L : List Int} {pt mk x : Int} {v : Value} {l : List Int}
theorem same_line_ret {u u' : Value} (H : Holds w0 w F) (g1 : FRdI w0 F .i32 u l) (g2 : FRdI w0 F .i32 u' l) : Ret Tryz.prog 66 #[.agg (lineCells u pt mk), .agg (lineCells u' pt mk)] w fun v w' => v = .bool true ∧ Holds w0 w' F := by
  refine ret_enter Tryz.func66 rfl Tryz.ntmps66 (Nat.le_of_ble_eq_true rfl) ?_
  dsimp only [slots0, Nat.reduceAdd]
  refine wc_seq ?_
  refine wc_region ?_
  refine wl_eff (e_box H rfl) (ltn rfl) ?_
  rintro _ w1 ⟨b1, rfl, H1⟩
  refine wl_eff (e_box H1 rfl) (ltn rfl) ?_
  rintro _ w2 ⟨b2, rfl, H2⟩
  refine wl_val (r_assign rfl) (ltn rfl) ?_
  refine wl_nil ?_
  refine wq_seq ?_
  refine wc_seq ?_
  have HB : Holds w0 w2 (blk b2 (.cells (lineCells u' pt mk) 42 (0, 0)) • blk b1 (.cells (lineCells u pt mk) 42 (0, 0)) • F) := H2
  refine wc_region ?_
  refine wl_val (r_fieldA 0 Tryz.underlying42 rfl rfl Tryz.sizeOf22 (by decide) rfl (by first | exact Nat.zero_add _ | rfl)) (ltn rfl) ?_
  refine wl_val (r_load (plain_of Tryz.underlying22 rfl) rfl (cell_of_blk HB.swap.get.2 rfl)) (ltn rfl) ?_
  refine wl_val (r_fieldA 0 Tryz.underlying42 rfl rfl Tryz.sizeOf22 (by decide) rfl (by first | exact Nat.zero_add _ | rfl)) (ltn rfl) ?_
  refine wl_val (r_load (plain_of Tryz.underlying22 rfl) rfl (cell_of_blk HB.get.2 rfl)) (ltn rfl) ?_
  refine wl_eff (e_call (r_call rfl Tryz.func67 rfl rfl) (same_eq_ret _ _ _ l (g1 _ HB.right.right) (g2 _ HB.right.right))) (ltn rfl) ?_
  rintro _ w3 ⟨rfl, hD1⟩
  have HE1 := HB.drewn hD1
  refine wl_val (r_move rfl) (ltn rfl) ?_
  refine wl_yes rfl rfl ?_
  refine wl_val (r_fieldA 1 Tryz.underlying42 rfl rfl Tryz.sizeOf3 (by decide) rfl (by first | exact Nat.zero_add _ | rfl)) (ltn rfl) ?_
  refine wl_yes rfl rfl ?_
  refine wl_val (r_load (plain_of Tryz.underlying3 rfl) rfl (cell_of_blk HE1.swap.get.2 rfl)) (ltn rfl) ?_
  refine wl_yes rfl rfl ?_
  refine wl_val (r_fieldA 1 Tryz.underlying42 rfl rfl Tryz.sizeOf3 (by decide) rfl (by first | exact Nat.zero_add _ | rfl)) (ltn rfl) ?_
  refine wl_yes rfl rfl ?_
  refine wl_val (r_load (plain_of Tryz.underlying3 rfl) rfl (cell_of_blk HE1.get.2 rfl)) (ltn rfl) ?_
  refine wl_yes rfl rfl ?_
  refine wl_val (r_known_t (r_eql rfl rfl) (by first | (rw [decide_eq_true_eq]; omega) | (rw [decide_eq_false_iff_not]; omega) | (rw [beq_iff_eq]; omega) | (rw [beq_eq_false_iff_ne]; omega) | (rw [bne_iff_ne]; omega) | (rw [bne_eq_false_iff_eq]; omega) | (simp; done) | (simp; omega))) (ltn rfl) ?_
  refine wl_val (r_pick_t rfl rfl) (ltn rfl) ?_
  refine wl_val (r_move rfl) (ltn rfl) ?_
  refine wl_yes rfl rfl ?_
  refine wl_val (r_fieldA 2 Tryz.underlying42 rfl rfl Tryz.sizeOf3 (by decide) rfl (by first | exact Nat.zero_add _ | rfl)) (ltn rfl) ?_
  refine wl_yes rfl rfl ?_
  refine wl_val (r_load (plain_of Tryz.underlying3 rfl) rfl (cell_of_blk HE1.swap.get.2 rfl)) (ltn rfl) ?_
  refine wl_yes rfl rfl ?_
  refine wl_val (r_fieldA 2 Tryz.underlying42 rfl rfl Tryz.sizeOf3 (by decide) rfl (by first | exact Nat.zero_add _ | rfl)) (ltn rfl) ?_
  refine wl_yes rfl rfl ?_
  refine wl_val (r_load (plain_of Tryz.underlying3 rfl) rfl (cell_of_blk HE1.get.2 rfl)) (ltn rfl) ?_
  refine wl_yes rfl rfl ?_
  refine wl_val (r_known_t (r_eql rfl rfl) (by first | (rw [decide_eq_true_eq]; omega) | (rw [decide_eq_false_iff_not]; omega) | (rw [beq_iff_eq]; omega) | (rw [beq_eq_false_iff_ne]; omega) | (rw [bne_iff_ne]; omega) | (rw [bne_eq_false_iff_eq]; omega) | (simp; done) | (simp; omega))) (ltn rfl) ?_
  refine wl_val (r_pick_t rfl rfl) (ltn rfl) ?_
  refine wl_val (r_assign rfl) (ltn rfl) ?_
  refine wl_nil ?_
  refine wq_seq ?_
  refine wc_ret ?_
  refine wq_end1 (.inl rfl) Tryz.results66 rfl ?_
  exact ⟨rfl, HE1.right.right⟩
end
end Go.Proofs.YtgmpclifphbjkaaGreatDoor
end
section
/- The states of an editor that no call made. -/
set_option linter.unusedSimpArgs false
set_option linter.unusedVariables false
namespace Go.Proofs.YtgmpclifphbjkaaGreatDoor
open Go.RowKit
def zeroState : List Value := [.slice none 0 0, .int .i64 0, .int .i64 0, .int .i64 0, .bool false, .bool false, .bool false, .int .i64 0, .int .i64 0, .int .i64 0, .int .i64 0, .slice none 0 0, .int .i64 0, .slice none 0 0, .int .i64 0, .int .i64 0, .int .i64 0]
section
variable {w0 w : World} {F0 G : HP} {bv : Value}
theorem enone_state (H0 : Holds w0 w (G • F0)) (hu : EUnmade w0 F0 bv) : Ret Tryz.prog 14 #[bv] w fun v' w' => v' = .agg zeroState.toArray ∧ Holds w0 w' (G • F0) := by
  obtain ⟨F, hF⟩ : ∃ F, F = G • F0 := ⟨_, rfl⟩
  have hn : ∀ A W, Holds w0 W (A • F) → Ret Tryz.prog 43 #[bv] W fun v w' => v = .bool true ∧ W = w' := fun A W HW => hu (A • G) W (HW.of_eq (by rw [hF, sep_assoc]))
  rw [← hF] at H0 ⊢
  have H := H0
  refine ret_enter Tryz.func14 rfl Tryz.ntmps14 (Nat.le_of_ble_eq_true rfl) ?_
  dsimp only [slots0, Nat.reduceAdd]
  refine wc_seq ?_
  refine wc_region ?_
  refine wl_eff (e_allocL (l := [_, _, _, _, _, _, _, _, _, _, _, _, _, _, _, _, _]) H Tryz.zeroValue46 rfl) (ltn rfl) ?_
  rintro _ w1 ⟨b1, rfl, H1⟩
  refine wl_nil ?_
  refine wq_seq ?_
  refine wc_seq ?_
  refine wc_seq ?_
  refine wc_region ?_
  refine wl_val (r_move rfl) (ltn rfl) ?_
  refine wl_eff (e_call (r_call rfl Tryz.func43 rfl rfl) (hn _ _ H1)) (ltn rfl) ?_
  rintro _ _ ⟨rfl, rfl⟩
  refine wl_nil ?_
  refine wq_seq ?_
  refine wc_cond_t rfl ?_
  refine wc_seq ?_
  refine wc_region ?_
  refine wl_val (r_buildL (zl := [.slice none 0 0, .int .i64 0, .int .i64 0, .int .i64 0, .bool false, .bool false, .bool false, .int .i64 0, .int .i64 0, .int .i64 0, .int .i64 0, .slice none 0 0, .int .i64 0, .slice none 0 0, .int .i64 0, .int .i64 0, .int .i64 0]) (pl := [(0, 3), (3, 1), (4, 1), (5, 1), (6, 1), (7, 1), (8, 1), (9, 1), (10, 1), (11, 1), (12, 1), (13, 1), (14, 1), (15, 1), (16, 1)]) [_, _, _, _, _, _, _, _, _, _, _, _, _, _, _, _, _] Tryz.underlying46 Tryz.zeroValue46 rfl (fun w => by kernel_rfl) rfl (.zero (zs := [.slice none 0 0, .int .i64 0, .int .i64 0]) rfl (.zero (zs := [.int .i64 0]) rfl (.zero (zs := [.bool false]) rfl (.zero (zs := [.bool false]) rfl (.zero (zs := [.bool false]) rfl (.zero (zs := [.int .i64 0]) rfl (.zero (zs := [.int .i64 0]) rfl (.zero (zs := [.int .i64 0]) rfl (.zero (zs := [.int .i64 0]) rfl (.zero (zs := [.slice none 0 0]) rfl (.zero (zs := [.int .i64 0]) rfl (.zero (zs := [.slice none 0 0]) rfl (.zero (zs := [.int .i64 0]) rfl (.zero (zs := [.int .i64 0]) rfl (.zero (zs := [.int .i64 0]) rfl .nil))))))))))))))) rfl) (ltn rfl) ?_
  refine wl_eff0 (e_storePL 0 (l' := [_, _, _, _, _, _, _, _, _, _, _, _, _, _, _, _, _]) (us := [_, _, _, _, _, _, _, _, _, _, _, _, _, _, _, _, _]) H1 Tryz.sizeOf46 rfl rfl rfl (ones_cons (by first | rfl | assumption) (ones_cons (by first | rfl | assumption) (ones_cons (by first | rfl | assumption) (ones_cons (by first | rfl | assumption) (ones_cons (by first | rfl | assumption) (ones_cons (by first | rfl | assumption) (ones_cons (by first | rfl | assumption) (ones_cons (by first | rfl | assumption) (ones_cons (by first | rfl | assumption) (ones_cons (by first | rfl | assumption) (ones_cons (by first | rfl | assumption) (ones_cons (by first | rfl | assumption) (ones_cons (by first | rfl | assumption) (ones_cons (by first | rfl | assumption) (ones_cons (by first | rfl | assumption) (ones_cons (by first | rfl | assumption) (ones_cons (by first | rfl | assumption) ones_nil))))))))))))))))) rfl rfl) ?_
  rintro _ w3 H3
  refine wl_nil ?_
  refine wq_seq ?_
  refine wc_ret ?_
  refine wq_then_ret ?_
  refine wq_end (.inl rfl) (resC Tryz.results14 rfl Tryz.underlying46 rfl (by rw [show (Tryz.prog.info? 46).map (·.size) = some 17 from by kernel_rfl]; rfl) (H3).get.2) ?_
  exact ⟨rfl, H3.right⟩
theorem same_zero_ret {F : HP} (H : Holds w0 w F) : Ret Tryz.prog 20 #[.agg zeroState.toArray, .agg zeroState.toArray] w fun v' w' => v' = .bool true ∧ Holds w0 w' F := by
  unfold zeroState
  refine ret_enter Tryz.func20 rfl Tryz.ntmps20 (Nat.le_of_ble_eq_true rfl) ?_
  dsimp only [slots0, Nat.reduceAdd]
  refine wc_seq ?_
  refine wc_region ?_
  refine wl_eff (e_boxL (l := [_, _, _, _, _, _, _, _, _, _, _, _, _, _, _, _, _]) H rfl rfl) (ltn rfl) ?_
  rintro _ w1 ⟨b1, rfl, H1⟩
  refine wl_eff (e_boxL (l := [_, _, _, _, _, _, _, _, _, _, _, _, _, _, _, _, _]) H1 rfl rfl) (ltn rfl) ?_
  rintro _ w2 ⟨b2, rfl, H2⟩
  refine wl_val (r_assign rfl) (ltn rfl) ?_
  refine wl_nil ?_
  refine wq_seq ?_
  refine wc_seq ?_
  refine wc_seq ?_
  refine wc_region ?_
  refine wl_val (r_fieldA 0 Tryz.underlying46 rfl rfl Tryz.sizeOf42 (by decide) rfl (by first | exact Nat.zero_add _ | rfl)) (ltn rfl) ?_
  refine wl_val (r_load_part 0 (xs := [_, _, _]) Tryz.underlying42 rfl Tryz.sizeOf42 rfl rfl (H2.f2).get.2 rfl) (ltn rfl) ?_
  refine wl_val (r_fieldA 0 Tryz.underlying46 rfl rfl Tryz.sizeOf42 (by decide) rfl (by first | exact Nat.zero_add _ | rfl)) (ltn rfl) ?_
  refine wl_val (r_load_part 0 (xs := [_, _, _]) Tryz.underlying42 rfl Tryz.sizeOf42 rfl rfl (H2).get.2 rfl) (ltn rfl) ?_
  refine wl_eff (e_call (r_call rfl Tryz.func66 rfl rfl) (same_line_ret (l := []) (pt := 0) (mk := 0) H2 (fun W _ => RdI.nil W _ none 0 (by decide)) (fun W _ => RdI.nil W _ none 0 (by decide)))) (ltn rfl) ?_
  rintro _ w3 ⟨rfl, H3⟩
  refine wl_val (r_not rfl) (ltn rfl) ?_
  refine wl_split rfl (ltn rfl) (fun h => by exfalso; (try simp only [cmpS] at h); simp at h) (fun h1 => ?_)
  (try simp only [cmpS] at h1)
  refine wl_yes rfl rfl ?_
  refine wl_val (r_fieldA 3 Tryz.underlying46 rfl rfl Tryz.sizeOf3 (by decide) rfl (by first | exact Nat.zero_add _ | rfl)) (ltn rfl) ?_
  refine wl_yes rfl rfl ?_
  refine wl_val (r_load (plain_of Tryz.underlying3 rfl) rfl (cell_of_blk (H3.f2).get.2 rfl)) (ltn rfl) ?_
  refine wl_yes rfl rfl ?_
  refine wl_val (r_fieldA 3 Tryz.underlying46 rfl rfl Tryz.sizeOf3 (by decide) rfl (by first | exact Nat.zero_add _ | rfl)) (ltn rfl) ?_
  refine wl_yes rfl rfl ?_
  refine wl_val (r_load (plain_of Tryz.underlying3 rfl) rfl (cell_of_blk (H3).get.2 rfl)) (ltn rfl) ?_
  refine wl_yes rfl rfl ?_
  refine wl_val (r_neq rfl rfl) (ltn rfl) ?_
  refine wl_val (r_pick_f rfl rfl) (ltn rfl) ?_
  refine wl_split rfl (ltn rfl) (fun h => by exfalso; (try simp only [cmpS] at h); simp at h) (fun h2 => ?_)
  (try simp only [cmpS] at h2)
  refine wl_yes rfl rfl ?_
  refine wl_val (r_fieldA 4 Tryz.underlying46 rfl rfl Tryz.sizeOf4 (by decide) rfl (by first | exact Nat.zero_add _ | rfl)) (ltn rfl) ?_
  refine wl_yes rfl rfl ?_
  refine wl_val (r_load (plain_of Tryz.underlying4 rfl) rfl (cell_of_blk (H3.f2).get.2 rfl)) (ltn rfl) ?_
  refine wl_yes rfl rfl ?_
  refine wl_val (r_fieldA 4 Tryz.underlying46 rfl rfl Tryz.sizeOf4 (by decide) rfl (by first | exact Nat.zero_add _ | rfl)) (ltn rfl) ?_
  refine wl_yes rfl rfl ?_
  refine wl_val (r_load (plain_of Tryz.underlying4 rfl) rfl (cell_of_blk (H3).get.2 rfl)) (ltn rfl) ?_
  refine wl_yes rfl rfl ?_
  refine wl_val (r_neq_bool Tryz.underlying4 rfl rfl) (ltn rfl) ?_
  refine wl_val (r_pick_f rfl rfl) (ltn rfl) ?_
  refine wl_split rfl (ltn rfl) (fun h => by exfalso; (try simp only [cmpS] at h); simp at h) (fun h3 => ?_)
  (try simp only [cmpS] at h3)
  refine wl_yes rfl rfl ?_
  refine wl_val (r_fieldA 5 Tryz.underlying46 rfl rfl Tryz.sizeOf4 (by decide) rfl (by first | exact Nat.zero_add _ | rfl)) (ltn rfl) ?_
  refine wl_yes rfl rfl ?_
  refine wl_val (r_load (plain_of Tryz.underlying4 rfl) rfl (cell_of_blk (H3.f2).get.2 rfl)) (ltn rfl) ?_
  refine wl_yes rfl rfl ?_
  refine wl_val (r_fieldA 5 Tryz.underlying46 rfl rfl Tryz.sizeOf4 (by decide) rfl (by first | exact Nat.zero_add _ | rfl)) (ltn rfl) ?_
  refine wl_yes rfl rfl ?_
  refine wl_val (r_load (plain_of Tryz.underlying4 rfl) rfl (cell_of_blk (H3).get.2 rfl)) (ltn rfl) ?_
  refine wl_yes rfl rfl ?_
  refine wl_val (r_neq_bool Tryz.underlying4 rfl rfl) (ltn rfl) ?_
  refine wl_val (r_pick_f rfl rfl) (ltn rfl) ?_
  refine wl_split rfl (ltn rfl) (fun h => by exfalso; (try simp only [cmpS] at h); simp at h) (fun h4 => ?_)
  (try simp only [cmpS] at h4)
  refine wl_yes rfl rfl ?_
  refine wl_val (r_fieldA 6 Tryz.underlying46 rfl rfl Tryz.sizeOf4 (by decide) rfl (by first | exact Nat.zero_add _ | rfl)) (ltn rfl) ?_
  refine wl_yes rfl rfl ?_
  refine wl_val (r_load (plain_of Tryz.underlying4 rfl) rfl (cell_of_blk (H3.f2).get.2 rfl)) (ltn rfl) ?_
  refine wl_yes rfl rfl ?_
  refine wl_val (r_fieldA 6 Tryz.underlying46 rfl rfl Tryz.sizeOf4 (by decide) rfl (by first | exact Nat.zero_add _ | rfl)) (ltn rfl) ?_
  refine wl_yes rfl rfl ?_
  refine wl_val (r_load (plain_of Tryz.underlying4 rfl) rfl (cell_of_blk (H3).get.2 rfl)) (ltn rfl) ?_
  refine wl_yes rfl rfl ?_
  refine wl_val (r_neq_bool Tryz.underlying4 rfl rfl) (ltn rfl) ?_
  refine wl_val (r_pick_f rfl rfl) (ltn rfl) ?_
  refine wl_split rfl (ltn rfl) (fun h => by exfalso; (try simp only [cmpS] at h); simp at h) (fun h5 => ?_)
  (try simp only [cmpS] at h5)
  refine wl_yes rfl rfl ?_
  refine wl_val (r_fieldA 7 Tryz.underlying46 rfl rfl Tryz.sizeOf3 (by decide) rfl (by first | exact Nat.zero_add _ | rfl)) (ltn rfl) ?_
  refine wl_yes rfl rfl ?_
  refine wl_val (r_load (plain_of Tryz.underlying3 rfl) rfl (cell_of_blk (H3.f2).get.2 rfl)) (ltn rfl) ?_
  refine wl_yes rfl rfl ?_
  refine wl_val (r_fieldA 7 Tryz.underlying46 rfl rfl Tryz.sizeOf3 (by decide) rfl (by first | exact Nat.zero_add _ | rfl)) (ltn rfl) ?_
  refine wl_yes rfl rfl ?_
  refine wl_val (r_load (plain_of Tryz.underlying3 rfl) rfl (cell_of_blk (H3).get.2 rfl)) (ltn rfl) ?_
  refine wl_yes rfl rfl ?_
  refine wl_val (r_neq rfl rfl) (ltn rfl) ?_
  refine wl_val (r_pick_f rfl rfl) (ltn rfl) ?_
  refine wl_split rfl (ltn rfl) (fun h => by exfalso; (try simp only [cmpS] at h); simp at h) (fun h6 => ?_)
  (try simp only [cmpS] at h6)
  refine wl_yes rfl rfl ?_
  refine wl_val (r_fieldA 8 Tryz.underlying46 rfl rfl Tryz.sizeOf3 (by decide) rfl (by first | exact Nat.zero_add _ | rfl)) (ltn rfl) ?_
  refine wl_yes rfl rfl ?_
  refine wl_val (r_load (plain_of Tryz.underlying3 rfl) rfl (cell_of_blk (H3.f2).get.2 rfl)) (ltn rfl) ?_
  refine wl_yes rfl rfl ?_
  refine wl_val (r_fieldA 8 Tryz.underlying46 rfl rfl Tryz.sizeOf3 (by decide) rfl (by first | exact Nat.zero_add _ | rfl)) (ltn rfl) ?_
  refine wl_yes rfl rfl ?_
  refine wl_val (r_load (plain_of Tryz.underlying3 rfl) rfl (cell_of_blk (H3).get.2 rfl)) (ltn rfl) ?_
  refine wl_yes rfl rfl ?_
  refine wl_val (r_neq rfl rfl) (ltn rfl) ?_
  refine wl_val (r_pick_f rfl rfl) (ltn rfl) ?_
  refine wl_split rfl (ltn rfl) (fun h => by exfalso; (try simp only [cmpS] at h); simp at h) (fun h7 => ?_)
  (try simp only [cmpS] at h7)
  refine wl_yes rfl rfl ?_
  refine wl_val (r_fieldA 9 Tryz.underlying46 rfl rfl Tryz.sizeOf3 (by decide) rfl (by first | exact Nat.zero_add _ | rfl)) (ltn rfl) ?_
  refine wl_yes rfl rfl ?_
  refine wl_val (r_load (plain_of Tryz.underlying3 rfl) rfl (cell_of_blk (H3.f2).get.2 rfl)) (ltn rfl) ?_
  refine wl_yes rfl rfl ?_
  refine wl_val (r_fieldA 9 Tryz.underlying46 rfl rfl Tryz.sizeOf3 (by decide) rfl (by first | exact Nat.zero_add _ | rfl)) (ltn rfl) ?_
  refine wl_yes rfl rfl ?_
  refine wl_val (r_load (plain_of Tryz.underlying3 rfl) rfl (cell_of_blk (H3).get.2 rfl)) (ltn rfl) ?_
  refine wl_yes rfl rfl ?_
  refine wl_val (r_neq rfl rfl) (ltn rfl) ?_
  refine wl_val (r_pick_f rfl rfl) (ltn rfl) ?_
  refine wl_split rfl (ltn rfl) (fun h => by exfalso; (try simp only [cmpS] at h); simp at h) (fun h8 => ?_)
  (try simp only [cmpS] at h8)
  refine wl_yes rfl rfl ?_
  refine wl_val (r_fieldA 10 Tryz.underlying46 rfl rfl Tryz.sizeOf3 (by decide) rfl (by first | exact Nat.zero_add _ | rfl)) (ltn rfl) ?_
  refine wl_yes rfl rfl ?_
  refine wl_val (r_load (plain_of Tryz.underlying3 rfl) rfl (cell_of_blk (H3.f2).get.2 rfl)) (ltn rfl) ?_
  refine wl_yes rfl rfl ?_
  refine wl_val (r_fieldA 10 Tryz.underlying46 rfl rfl Tryz.sizeOf3 (by decide) rfl (by first | exact Nat.zero_add _ | rfl)) (ltn rfl) ?_
  refine wl_yes rfl rfl ?_
  refine wl_val (r_load (plain_of Tryz.underlying3 rfl) rfl (cell_of_blk (H3).get.2 rfl)) (ltn rfl) ?_
  refine wl_yes rfl rfl ?_
  refine wl_val (r_neq rfl rfl) (ltn rfl) ?_
  refine wl_val (r_pick_f rfl rfl) (ltn rfl) ?_
  refine wl_split rfl (ltn rfl) (fun h => by exfalso; (try simp only [cmpS] at h); simp at h) (fun h9 => ?_)
  (try simp only [cmpS] at h9)
  refine wl_yes rfl rfl ?_
  refine wl_val (r_fieldA 11 Tryz.underlying46 rfl rfl Tryz.sizeOf43 (by decide) rfl (by first | exact Nat.zero_add _ | rfl)) (ltn rfl) ?_
  refine wl_yes rfl rfl ?_
  refine wl_val (r_load (plain_of Tryz.underlying43 rfl) rfl (cell_of_blk (H3.f2).get.2 rfl)) (ltn rfl) ?_
  refine wl_yes rfl rfl ?_
  refine wl_val (r_len Tryz.underlying43 rfl) (ltn rfl) ?_
  refine wl_yes rfl rfl ?_
  refine wl_val (r_fieldA 11 Tryz.underlying46 rfl rfl Tryz.sizeOf43 (by decide) rfl (by first | exact Nat.zero_add _ | rfl)) (ltn rfl) ?_
  refine wl_yes rfl rfl ?_
  refine wl_val (r_load (plain_of Tryz.underlying43 rfl) rfl (cell_of_blk (H3).get.2 rfl)) (ltn rfl) ?_
  refine wl_yes rfl rfl ?_
  refine wl_val (r_len Tryz.underlying43 rfl) (ltn rfl) ?_
  refine wl_yes rfl rfl ?_
  refine wl_val (r_neq rfl rfl) (ltn rfl) ?_
  refine wl_val (r_pick_f rfl rfl) (ltn rfl) ?_
  refine wl_nil ?_
  refine wq_seq ?_
  refine wc_cond rfl (fun h => by exfalso; (try simp only [cmpS] at h); simp at h) (fun h10 => ?_)
  (try simp only [cmpS] at h10)
  refine wc_skip ?_
  refine wq_seq ?_
  refine wc_seq ?_
  refine wc_seq ?_
  refine wc_region ?_
  refine wl_val (r_assign rfl) (ltn rfl) ?_
  refine wl_nil ?_
  refine wq_seq ?_
  refine wc_block ?_
  refine wc_loop [(2, _), (3, _)] (fun (k : Nat) => [(5, .int .i64 (k : Int))]) (fun (k : Nat) W => k = 0 ∧ Holds w0 W (blk b1 (.cells zeroState.toArray 46 (0, 0)) • blk b2 (.cells zeroState.toArray 46 (0, 0)) • F)) (fun (k : Nat) => 0 - k) (0) (Sub.cons rfl (Sub.cons rfl (Sub.nil _))) (Sub.cons rfl (Sub.nil _)) ⟨rfl, H3.f2⟩ ?_
  rintro k w4 ⟨hk, HL⟩
  dsimp only [List.cons_append, List.nil_append]
  refine wc_seq ?_
  refine wc_seq ?_
  refine wc_region ?_
  refine wl_val (r_move rfl) (ltn rfl) ?_
  refine wl_val (r_fieldA 11 Tryz.underlying46 rfl rfl Tryz.sizeOf43 (by decide) rfl (by first | exact Nat.zero_add _ | rfl)) (ltn rfl) ?_
  refine wl_val (r_load (plain_of Tryz.underlying43 rfl) rfl (cell_of_blk (HL).get.2 rfl)) (ltn rfl) ?_
  refine wl_val (r_len Tryz.underlying43 rfl) (ltn rfl) ?_
  refine wl_val (r_lss rfl rfl) (ltn rfl) ?_
  refine wl_nil ?_
  refine wq_seq ?_
  refine wc_cond rfl (fun h => by exfalso; (try simp only [cmpS] at h); simp at h; omega) (fun h11 => ?_)
  (try simp only [cmpS] at h11)
  refine wc_exit ?_
  refine wq_then_exit ?_
  refine wq_then_exit ?_
  refine wq_block_hit ?_
  refine wq_seq ?_
  refine wc_seq ?_
  refine wc_seq ?_
  refine wc_region ?_
  refine wl_val (r_fieldA 12 Tryz.underlying46 rfl rfl Tryz.sizeOf3 (by decide) rfl (by first | exact Nat.zero_add _ | rfl)) (ltn rfl) ?_
  refine wl_val (r_load (plain_of Tryz.underlying3 rfl) rfl (cell_of_blk (HL).get.2 rfl)) (ltn rfl) ?_
  refine wl_val (r_fieldA 12 Tryz.underlying46 rfl rfl Tryz.sizeOf3 (by decide) rfl (by first | exact Nat.zero_add _ | rfl)) (ltn rfl) ?_
  refine wl_val (r_load (plain_of Tryz.underlying3 rfl) rfl (cell_of_blk (HL.f2).get.2 rfl)) (ltn rfl) ?_
  refine wl_val (r_neq rfl rfl) (ltn rfl) ?_
  refine wl_split rfl (ltn rfl) (fun h => by exfalso; (try simp only [cmpS] at h); simp at h) (fun h12 => ?_)
  (try simp only [cmpS] at h12)
  refine wl_yes rfl rfl ?_
  refine wl_val (r_fieldA 13 Tryz.underlying46 rfl rfl Tryz.sizeOf44 (by decide) rfl (by first | exact Nat.zero_add _ | rfl)) (ltn rfl) ?_
  refine wl_yes rfl rfl ?_
  refine wl_val (r_load (plain_of Tryz.underlying44 rfl) rfl (cell_of_blk (HL).get.2 rfl)) (ltn rfl) ?_
  refine wl_yes rfl rfl ?_
  refine wl_val (r_len Tryz.underlying44 rfl) (ltn rfl) ?_
  refine wl_yes rfl rfl ?_
  refine wl_val (r_fieldA 13 Tryz.underlying46 rfl rfl Tryz.sizeOf44 (by decide) rfl (by first | exact Nat.zero_add _ | rfl)) (ltn rfl) ?_
  refine wl_yes rfl rfl ?_
  refine wl_val (r_load (plain_of Tryz.underlying44 rfl) rfl (cell_of_blk (HL.f2).get.2 rfl)) (ltn rfl) ?_
  refine wl_yes rfl rfl ?_
  refine wl_val (r_len Tryz.underlying44 rfl) (ltn rfl) ?_
  refine wl_yes rfl rfl ?_
  refine wl_val (r_neq rfl rfl) (ltn rfl) ?_
  refine wl_val (r_pick_f rfl rfl) (ltn rfl) ?_
  refine wl_split rfl (ltn rfl) (fun h => by exfalso; (try simp only [cmpS] at h); simp at h) (fun h13 => ?_)
  (try simp only [cmpS] at h13)
  refine wl_yes rfl rfl ?_
  refine wl_val (r_fieldA 14 Tryz.underlying46 rfl rfl Tryz.sizeOf3 (by decide) rfl (by first | exact Nat.zero_add _ | rfl)) (ltn rfl) ?_
  refine wl_yes rfl rfl ?_
  refine wl_val (r_load (plain_of Tryz.underlying3 rfl) rfl (cell_of_blk (HL).get.2 rfl)) (ltn rfl) ?_
  refine wl_yes rfl rfl ?_
  refine wl_val (r_fieldA 14 Tryz.underlying46 rfl rfl Tryz.sizeOf3 (by decide) rfl (by first | exact Nat.zero_add _ | rfl)) (ltn rfl) ?_
  refine wl_yes rfl rfl ?_
  refine wl_val (r_load (plain_of Tryz.underlying3 rfl) rfl (cell_of_blk (HL.f2).get.2 rfl)) (ltn rfl) ?_
  refine wl_yes rfl rfl ?_
  refine wl_val (r_neq rfl rfl) (ltn rfl) ?_
  refine wl_val (r_pick_f rfl rfl) (ltn rfl) ?_
  refine wl_split rfl (ltn rfl) (fun h => by exfalso; (try simp only [cmpS] at h); simp at h) (fun h14 => ?_)
  (try simp only [cmpS] at h14)
  refine wl_yes rfl rfl ?_
  refine wl_val (r_fieldA 15 Tryz.underlying46 rfl rfl Tryz.sizeOf3 (by decide) rfl (by first | exact Nat.zero_add _ | rfl)) (ltn rfl) ?_
  refine wl_yes rfl rfl ?_
  refine wl_val (r_load (plain_of Tryz.underlying3 rfl) rfl (cell_of_blk (HL).get.2 rfl)) (ltn rfl) ?_
  refine wl_yes rfl rfl ?_
  refine wl_val (r_fieldA 15 Tryz.underlying46 rfl rfl Tryz.sizeOf3 (by decide) rfl (by first | exact Nat.zero_add _ | rfl)) (ltn rfl) ?_
  refine wl_yes rfl rfl ?_
  refine wl_val (r_load (plain_of Tryz.underlying3 rfl) rfl (cell_of_blk (HL.f2).get.2 rfl)) (ltn rfl) ?_
  refine wl_yes rfl rfl ?_
  refine wl_val (r_neq rfl rfl) (ltn rfl) ?_
  refine wl_val (r_pick_f rfl rfl) (ltn rfl) ?_
  refine wl_split rfl (ltn rfl) (fun h => by exfalso; (try simp only [cmpS] at h); simp at h) (fun h15 => ?_)
  (try simp only [cmpS] at h15)
  refine wl_yes rfl rfl ?_
  refine wl_val (r_fieldA 16 Tryz.underlying46 rfl rfl Tryz.sizeOf2 (by decide) rfl (by first | exact Nat.zero_add _ | rfl)) (ltn rfl) ?_
  refine wl_yes rfl rfl ?_
  refine wl_val (r_load (plain_of Tryz.underlying2 rfl) rfl (cell_of_blk (HL).get.2 rfl)) (ltn rfl) ?_
  refine wl_yes rfl rfl ?_
  refine wl_val (r_fieldA 16 Tryz.underlying46 rfl rfl Tryz.sizeOf2 (by decide) rfl (by first | exact Nat.zero_add _ | rfl)) (ltn rfl) ?_
  refine wl_yes rfl rfl ?_
  refine wl_val (r_load (plain_of Tryz.underlying2 rfl) rfl (cell_of_blk (HL.f2).get.2 rfl)) (ltn rfl) ?_
  refine wl_yes rfl rfl ?_
  refine wl_val (r_neq rfl rfl) (ltn rfl) ?_
  refine wl_val (r_pick_f rfl rfl) (ltn rfl) ?_
  refine wl_nil ?_
  refine wq_seq ?_
  refine wc_cond rfl (fun h => by exfalso; (try simp only [cmpS] at h); simp at h) (fun h16 => ?_)
  (try simp only [cmpS] at h16)
  refine wc_skip ?_
  refine wq_seq ?_
  refine wc_seq ?_
  refine wc_seq ?_
  refine wc_region ?_
  refine wl_val (r_assign rfl) (ltn rfl) ?_
  refine wl_nil ?_
  refine wq_seq ?_
  refine wc_block ?_
  refine wc_loop [(2, _), (3, _)] (fun (k2 : Nat) => [(6, .int .i64 (k2 : Int))]) (fun (k2 : Nat) W => k2 = 0 ∧ Holds w0 W (blk b1 (.cells zeroState.toArray 46 (0, 0)) • blk b2 (.cells zeroState.toArray 46 (0, 0)) • F)) (fun (k2 : Nat) => 0 - k2) (0) (Sub.cons rfl (Sub.cons rfl (Sub.nil _))) (Sub.cons rfl (Sub.nil _)) ⟨rfl, HL.f2.f2⟩ ?_
  rintro k2 w5 ⟨hk2, HL2⟩
  dsimp only [List.cons_append, List.nil_append]
  refine wc_seq ?_
  refine wc_seq ?_
  refine wc_region ?_
  refine wl_val (r_move rfl) (ltn rfl) ?_
  refine wl_val (r_fieldA 13 Tryz.underlying46 rfl rfl Tryz.sizeOf44 (by decide) rfl (by first | exact Nat.zero_add _ | rfl)) (ltn rfl) ?_
  refine wl_val (r_load (plain_of Tryz.underlying44 rfl) rfl (cell_of_blk (HL2).get.2 rfl)) (ltn rfl) ?_
  refine wl_val (r_len Tryz.underlying44 rfl) (ltn rfl) ?_
  refine wl_val (r_lss rfl rfl) (ltn rfl) ?_
  refine wl_nil ?_
  refine wq_seq ?_
  refine wc_cond rfl (fun h => by exfalso; (try simp only [cmpS] at h); simp at h; omega) (fun h17 => ?_)
  (try simp only [cmpS] at h17)
  refine wc_exit ?_
  refine wq_then_exit ?_
  refine wq_then_exit ?_
  refine wq_block_hit ?_
  refine wq_seq ?_
  refine wc_seq ?_
  refine wc_region ?_
  refine wl_val (r_assign rfl) (ltn rfl) ?_
  refine wl_nil ?_
  refine wq_seq ?_
  refine wc_ret ?_
  refine wq_end1 (.inl rfl) Tryz.results20 rfl ?_
  exact ⟨rfl, HL2.right.right⟩
end
end Go.Proofs.YtgmpclifphbjkaaGreatDoor
end
