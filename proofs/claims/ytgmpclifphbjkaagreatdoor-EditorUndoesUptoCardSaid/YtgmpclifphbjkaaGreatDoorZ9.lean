import Derived.Test.YtgmpclifphbjkaaGreatDoorZ8
/- Texts of mine, joined: Ring2. -/
section
/- The kill ring's methods, further: Kill, Rotate, Yank, Clone. -/
set_option linter.unusedSimpArgs false
set_option linter.unusedVariables false
namespace Go.Proofs.YtgmpclifphbjkaaGreatDoor
open Go.RowKit

/-- Kill, by the document: the answer, the entries, the place. -/
def killM (E : List (List Int)) (place : Nat) (way : Int) (l : List Int) : Int × List (List Int) × Nat :=
  if way < 0 ∨ 2 < way then (1, E, place)
  else if 1024 < l.length then (3, E, place)
  else if way ≠ 0 ∧ 0 < E.length then
    if 1024 < l.length + (E.getD 0 []).length then (3, E, place)
    else (0, (if way = 1 then E.getD 0 [] ++ l else l ++ E.getD 0 []) :: E.tail, 0)
  else if way = 0 ∧ l.length = 0 then (0, E, place)
  else (0, (l :: E).take 60, 0)

theorem slots_first {I : Hp} {s : List Value} {h : Nat} {l : List Int} {v : Value} {E : List (List Int)} (hs : s.length = 60) (hh : h < 60) (hE : E.length ≤ 60) (h0 : 0 < E.length) (hS : Slots I s h E) (hv : ImmI I .i32 v l) :
    Slots I (s.set h v) h (l :: E.tail) := by
  intro i hi
  have hi' : i < E.length := by simp at hi; omega
  cases i with
  | zero =>
    have e : (h + 0) % 60 = h := by omega
    rw [e, List.getD_eq_getElem?_getD, List.getElem?_set_self (by omega)]
    exact hv
  | succ i =>
    have hne : ¬ h = (h + (i + 1)) % 60 := by omega
    rw [List.getD_eq_getElem?_getD, List.getElem?_set_ne hne, ← List.getD_eq_getElem?_getD]
    have := hS (i + 1) hi'
    simpa [List.getD_eq_getElem?_getD] using this

section
variable {w0 w : World} {F : HP} {p place : Nat} {E : List (List Int)} {v : Value} {l : List Int} {way : Int}
theorem tail_cons_len (h0 : 0 < E.length) (x : List Int) : (x :: E.tail).length = E.length := by simp; omega

theorem ring_kill_bad (H : Holds w0 w (RingRep p E place • F)) (hr : FRdI w0 F .i32 v l) (hw : way < 0 ∨ 2 < way) :
    Ret Tryz.prog 116 #[.pointer (some ⟨p, 0, none⟩), .int .i64 way, v] w fun v' w' => v' = .int .i64 1 ∧ Holds w0 w' (RingRep p E place • F) := by
  obtain ⟨s, h, hs, hh, hE, hp, hm, ho, H1⟩ := H.ring
  have hb := H1.get.2
  refine ret_enter Tryz.func116 rfl Tryz.ntmps116 (Nat.le_of_ble_eq_true rfl) ?_
  dsimp only [slots0, Nat.reduceAdd]
  refine wc_seq ?_
  refine wc_region ?_
  refine wl_val (r_assign rfl) (ltn rfl) ?_
  refine wl_nil ?_
  refine wq_seq ?_
  refine wc_seq ?_
  refine wc_seq ?_
  refine wc_region ?_
  refine wl_val (r_move rfl) (ltn rfl) ?_
  refine wl_eff (e_call (r_call rfl Tryz.func135 rfl rfl) (ring_none_ret _ hb ring_0)) (ltn rfl) ?_
  rintro _ _ ⟨rfl, rfl⟩
  refine wl_nil ?_
  refine wq_seq ?_
  refine wc_cond_f rfl ?_
  refine wc_skip ?_
  refine wq_seq ?_
  refine wc_seq ?_
  refine wc_seq ?_
  refine wc_region ?_
  refine wl_val (r_move rfl) (ltn rfl) ?_
  refine wl_val (r_lss rfl rfl) (ltn rfl) ?_
  refine wl_split rfl (ltn rfl) (fun h1 => ?_) (fun h1 => ?_)
  · (try simp only [cmpS] at h1)
    try (exfalso; first | contradiction | omega)
    all_goals
      refine wl_no rfl rfl rfl (ltn rfl) ?_
      refine wl_no rfl rfl rfl (ltn rfl) ?_
      refine wl_val (r_pick_t rfl rfl) (ltn rfl) ?_
      refine wl_nil ?_
      refine wq_seq ?_
      refine wc_cond_t rfl ?_
      refine wc_seq ?_
      refine wc_region ?_
      refine wl_val (r_assign rfl) (ltn rfl) ?_
      refine wl_nil ?_
      refine wq_seq ?_
      refine wc_ret ?_
      refine wq_then_ret ?_
      refine wq_end1 (.inl rfl) Tryz.results116 rfl ?_
      exact ⟨rfl, H⟩
  · (try simp only [cmpS] at h1)
    try (exfalso; first | contradiction | omega)
    all_goals
      refine wl_yes rfl rfl ?_
      refine wl_val (r_move rfl) (ltn rfl) ?_
      refine wl_yes rfl rfl ?_
      refine wl_val (r_gtr rfl rfl) (ltn rfl) ?_
      refine wl_val (r_pick_f rfl rfl) (ltn rfl) ?_
      refine wl_nil ?_
      refine wq_seq ?_
      refine wc_cond rfl (fun h2 => ?_) (fun h => by exfalso; (try simp only [cmpS] at h); first | contradiction | omega | (simp at h <;> omega))
      (try simp only [cmpS] at h2)
      refine wc_seq ?_
      refine wc_region ?_
      refine wl_val (r_assign rfl) (ltn rfl) ?_
      refine wl_nil ?_
      refine wq_seq ?_
      refine wc_ret ?_
      refine wq_then_ret ?_
      refine wq_end1 (.inl rfl) Tryz.results116 rfl ?_
      exact ⟨rfl, H⟩
theorem ring_kill_long (H : Holds w0 w (RingRep p E place • F)) (hr : FRdI w0 F .i32 v l) (hw : 0 ≤ way ∧ way ≤ 2) (hl : 1024 < l.length) :
    Ret Tryz.prog 116 #[.pointer (some ⟨p, 0, none⟩), .int .i64 way, v] w fun v' w' => v' = .int .i64 3 ∧ Holds w0 w' (RingRep p E place • F) := by
  obtain ⟨s, h, hs, hh, hE, hp, hm, ho, H1⟩ := H.ring
  have hb := H1.get.2
  obtain ⟨a, c, rfl, _, _, _⟩ := (hr w H.right).open
  refine ret_enter Tryz.func116 rfl Tryz.ntmps116 (Nat.le_of_ble_eq_true rfl) ?_
  dsimp only [slots0, Nat.reduceAdd]
  refine wc_seq ?_
  refine wc_region ?_
  refine wl_val (r_assign rfl) (ltn rfl) ?_
  refine wl_nil ?_
  refine wq_seq ?_
  refine wc_seq ?_
  refine wc_seq ?_
  refine wc_region ?_
  refine wl_val (r_move rfl) (ltn rfl) ?_
  refine wl_eff (e_call (r_call rfl Tryz.func135 rfl rfl) (ring_none_ret _ hb ring_0)) (ltn rfl) ?_
  rintro _ _ ⟨rfl, rfl⟩
  refine wl_nil ?_
  refine wq_seq ?_
  refine wc_cond_f rfl ?_
  refine wc_skip ?_
  refine wq_seq ?_
  refine wc_seq ?_
  refine wc_seq ?_
  refine wc_region ?_
  refine wl_val (r_move rfl) (ltn rfl) ?_
  refine wl_val (r_lss rfl rfl) (ltn rfl) ?_
  refine wl_split rfl (ltn rfl) (fun h => by exfalso; (try simp only [cmpS] at h); first | contradiction | omega | (simp at h <;> omega)) (fun h1 => ?_)
  (try simp only [cmpS] at h1)
  refine wl_yes rfl rfl ?_
  refine wl_val (r_move rfl) (ltn rfl) ?_
  refine wl_yes rfl rfl ?_
  refine wl_val (r_gtr rfl rfl) (ltn rfl) ?_
  refine wl_val (r_pick_f rfl rfl) (ltn rfl) ?_
  refine wl_nil ?_
  refine wq_seq ?_
  refine wc_cond rfl (fun h => by exfalso; (try simp only [cmpS] at h); first | contradiction | omega | (simp at h <;> omega)) (fun h2 => ?_)
  (try simp only [cmpS] at h2)
  refine wc_skip ?_
  refine wq_seq ?_
  refine wc_seq ?_
  refine wc_region ?_
  refine wl_val (r_move rfl) (ltn rfl) ?_
  refine wl_val (r_neq rfl rfl) (ltn rfl) ?_
  refine wl_split rfl (ltn rfl) (fun h3 => ?_) (fun h3 => ?_)
  · (try simp only [cmpS] at h3)
    try (exfalso; first | contradiction | omega)
    all_goals
      refine wl_yes rfl rfl ?_
      refine wl_val (r_move rfl) (ltn rfl) ?_
      refine wl_yes rfl rfl ?_
      refine wl_val (r_nil rfl) (ltn rfl) ?_
      refine wl_yes rfl rfl ?_
      refine wl_val (r_fieldA 62 Tryz.underlying155 rfl rfl Tryz.sizeOf3 (by decide) rfl (by first | exact Nat.zero_add _ | rfl)) (ltn rfl) ?_
      refine wl_yes rfl rfl ?_
      refine wl_val (r_load (plain_of Tryz.underlying3 rfl) rfl (cell_of_blk hb (ring_many hs))) (ltn rfl) ?_
      refine wl_yes rfl rfl ?_
      refine wl_val (r_gtr rfl rfl) (ltn rfl) ?_
      refine wl_val (r_pick_t rfl rfl) (ltn rfl) ?_
      refine wl_val (r_assign rfl) (ltn rfl) ?_
      refine wl_nil ?_
      refine wq_seq ?_
      refine wc_seq ?_
      refine wc_block ?_
      refine wc_seq ?_
      refine wc_region ?_
      refine wl_val (r_move rfl) (ltn rfl) ?_
      refine wl_val (r_len Tryz.underlying22 rfl) (ltn rfl) ?_
      refine wl_val (r_gtr rfl rfl) (ltn rfl) ?_
      refine wl_split rfl (ltn rfl) (fun h4 => ?_) (fun h => by exfalso; (try simp only [cmpS] at h); first | contradiction | omega | (simp at h <;> omega))
      (try simp only [cmpS] at h4)
      refine wl_no rfl rfl rfl (ltn rfl) ?_
      refine wl_no rfl rfl rfl (ltn rfl) ?_
      refine wl_nou rfl rfl (ltn rfl) ?_
      refine wl_nou rfl rfl (ltn rfl) ?_
      refine wl_nou rfl rfl (ltn rfl) ?_
      refine wl_nou rfl rfl (ltn rfl) ?_
      refine wl_nou rfl rfl (ltn rfl) ?_
      refine wl_nou rfl rfl (ltn rfl) ?_
      refine wl_nou rfl rfl (ltn rfl) ?_
      refine wl_no rfl rfl rfl (ltn rfl) ?_
      refine wl_val (r_pick_t rfl rfl) (ltn rfl) ?_
      refine wl_val (r_assign rfl) (ltn rfl) ?_
      refine wl_nil ?_
      refine wq_seq ?_
      refine wc_cond_t rfl ?_
      refine wc_seq ?_
      refine wc_region ?_
      refine wl_val (r_assign rfl) (ltn rfl) ?_
      refine wl_nil ?_
      refine wq_seq ?_
      refine wc_ret ?_
      refine wq_block_ret ?_
      refine wq_then_ret ?_
      refine wq_end1 (.inl rfl) Tryz.results116 rfl ?_
      exact ⟨rfl, H⟩
  · (try simp only [cmpS] at h3)
    try (exfalso; first | contradiction | omega)
    all_goals
      refine wl_no rfl rfl rfl (ltn rfl) ?_
      refine wl_no rfl rfl rfl (ltn rfl) ?_
      refine wl_no rfl rfl rfl (ltn rfl) ?_
      refine wl_no rfl rfl rfl (ltn rfl) ?_
      refine wl_no rfl rfl rfl (ltn rfl) ?_
      refine wl_val (r_pick_f rfl rfl) (ltn rfl) ?_
      refine wl_val (r_assign rfl) (ltn rfl) ?_
      refine wl_nil ?_
      refine wq_seq ?_
      refine wc_seq ?_
      refine wc_block ?_
      refine wc_seq ?_
      refine wc_region ?_
      refine wl_val (r_move rfl) (ltn rfl) ?_
      refine wl_val (r_len Tryz.underlying22 rfl) (ltn rfl) ?_
      refine wl_val (r_gtr rfl rfl) (ltn rfl) ?_
      refine wl_split rfl (ltn rfl) (fun h5 => ?_) (fun h => by exfalso; (try simp only [cmpS] at h); first | contradiction | omega | (simp at h <;> omega))
      (try simp only [cmpS] at h5)
      refine wl_no rfl rfl rfl (ltn rfl) ?_
      refine wl_no rfl rfl rfl (ltn rfl) ?_
      refine wl_nou rfl rfl (ltn rfl) ?_
      refine wl_nou rfl rfl (ltn rfl) ?_
      refine wl_nou rfl rfl (ltn rfl) ?_
      refine wl_nou rfl rfl (ltn rfl) ?_
      refine wl_nou rfl rfl (ltn rfl) ?_
      refine wl_nou rfl rfl (ltn rfl) ?_
      refine wl_nou rfl rfl (ltn rfl) ?_
      refine wl_no rfl rfl rfl (ltn rfl) ?_
      refine wl_val (r_pick_t rfl rfl) (ltn rfl) ?_
      refine wl_val (r_assign rfl) (ltn rfl) ?_
      refine wl_nil ?_
      refine wq_seq ?_
      refine wc_cond_t rfl ?_
      refine wc_seq ?_
      refine wc_region ?_
      refine wl_val (r_assign rfl) (ltn rfl) ?_
      refine wl_nil ?_
      refine wq_seq ?_
      refine wc_ret ?_
      refine wq_block_ret ?_
      refine wq_then_ret ?_
      refine wq_end1 (.inl rfl) Tryz.results116 rfl ?_
      exact ⟨rfl, H⟩
theorem ring_kill_nothing (H : Holds w0 w (RingRep p E place • F)) (hr : FRdI w0 F .i32 v l) (hl : l.length = 0) :
    Ret Tryz.prog 116 #[.pointer (some ⟨p, 0, none⟩), .int .i64 0, v] w fun v' w' => v' = .int .i64 0 ∧ Holds w0 w' (RingRep p E place • F) := by
  obtain ⟨s, h, hs, hh, hE, hp, hm, ho, H1⟩ := H.ring
  have hb := H1.get.2
  obtain ⟨a, c, rfl, _, _, _⟩ := (hr w H.right).open
  refine ret_enter Tryz.func116 rfl Tryz.ntmps116 (Nat.le_of_ble_eq_true rfl) ?_
  dsimp only [slots0, Nat.reduceAdd]
  refine wc_seq ?_
  refine wc_region ?_
  refine wl_val (r_assign rfl) (ltn rfl) ?_
  refine wl_nil ?_
  refine wq_seq ?_
  refine wc_seq ?_
  refine wc_seq ?_
  refine wc_region ?_
  refine wl_val (r_move rfl) (ltn rfl) ?_
  refine wl_eff (e_call (r_call rfl Tryz.func135 rfl rfl) (ring_none_ret _ hb ring_0)) (ltn rfl) ?_
  rintro _ _ ⟨rfl, rfl⟩
  refine wl_nil ?_
  refine wq_seq ?_
  refine wc_cond_f rfl ?_
  refine wc_skip ?_
  refine wq_seq ?_
  refine wc_seq ?_
  refine wc_seq ?_
  refine wc_region ?_
  refine wl_val (r_move rfl) (ltn rfl) ?_
  refine wl_val (r_lss rfl rfl) (ltn rfl) ?_
  refine wl_split rfl (ltn rfl) (fun h => by exfalso; (try simp only [cmpS] at h); first | contradiction | omega | (simp at h <;> omega)) (fun h1 => ?_)
  (try simp only [cmpS] at h1)
  refine wl_yes rfl rfl ?_
  refine wl_val (r_move rfl) (ltn rfl) ?_
  refine wl_yes rfl rfl ?_
  refine wl_val (r_gtr rfl rfl) (ltn rfl) ?_
  refine wl_val (r_pick_f rfl rfl) (ltn rfl) ?_
  refine wl_nil ?_
  refine wq_seq ?_
  refine wc_cond rfl (fun h => by exfalso; (try simp only [cmpS] at h); first | contradiction | omega | (simp at h <;> omega)) (fun h2 => ?_)
  (try simp only [cmpS] at h2)
  refine wc_skip ?_
  refine wq_seq ?_
  refine wc_seq ?_
  refine wc_region ?_
  refine wl_val (r_move rfl) (ltn rfl) ?_
  refine wl_val (r_neq rfl rfl) (ltn rfl) ?_
  refine wl_split rfl (ltn rfl) (fun h => by exfalso; (try simp only [cmpS] at h); first | contradiction | omega | (simp at h <;> omega)) (fun h3 => ?_)
  (try simp only [cmpS] at h3)
  refine wl_no rfl rfl rfl (ltn rfl) ?_
  refine wl_no rfl rfl rfl (ltn rfl) ?_
  refine wl_no rfl rfl rfl (ltn rfl) ?_
  refine wl_no rfl rfl rfl (ltn rfl) ?_
  refine wl_no rfl rfl rfl (ltn rfl) ?_
  refine wl_val (r_pick_f rfl rfl) (ltn rfl) ?_
  refine wl_val (r_assign rfl) (ltn rfl) ?_
  refine wl_nil ?_
  refine wq_seq ?_
  refine wc_seq ?_
  refine wc_block ?_
  refine wc_seq ?_
  refine wc_region ?_
  refine wl_val (r_move rfl) (ltn rfl) ?_
  refine wl_val (r_len Tryz.underlying22 rfl) (ltn rfl) ?_
  refine wl_val (r_gtr rfl rfl) (ltn rfl) ?_
  refine wl_split rfl (ltn rfl) (fun h => by exfalso; (try simp only [cmpS] at h); first | contradiction | omega | (simp at h <;> omega)) (fun h4 => ?_)
  (try simp only [cmpS] at h4)
  refine wl_yes rfl rfl ?_
  refine wl_val (r_move rfl) (ltn rfl) ?_
  refine wl_yes rfl rfl ?_
  refine wl_val (r_move rfl) (ltn rfl) ?_
  refine wl_no rfl rfl rfl (ltn rfl) ?_
  refine wl_no rfl rfl rfl (ltn rfl) ?_
  refine wl_no rfl rfl rfl (ltn rfl) ?_
  refine wl_no rfl rfl rfl (ltn rfl) ?_
  refine wl_no rfl rfl rfl (ltn rfl) ?_
  refine wl_no rfl rfl rfl (ltn rfl) ?_
  refine wl_no rfl rfl rfl (ltn rfl) ?_
  refine wl_yes rfl rfl ?_
  refine wl_val (r_pick_f rfl rfl) (ltn rfl) ?_
  refine wl_val (r_pick_f rfl rfl) (ltn rfl) ?_
  refine wl_val (r_assign rfl) (ltn rfl) ?_
  refine wl_nil ?_
  refine wq_seq ?_
  refine wc_cond_f rfl ?_
  refine wc_seq ?_
  refine wc_region ?_
  refine wl_val (r_move rfl) (ltn rfl) ?_
  refine wl_val (r_eql rfl rfl) (ltn rfl) ?_
  refine wl_split rfl (ltn rfl) (fun h5 => ?_) (fun h => by exfalso; (try simp only [cmpS] at h); first | contradiction | omega | (simp at h <;> omega))
  (try simp only [cmpS] at h5)
  refine wl_yes rfl rfl ?_
  refine wl_val (r_move rfl) (ltn rfl) ?_
  refine wl_yes rfl rfl ?_
  refine wl_val (r_len Tryz.underlying22 rfl) (ltn rfl) ?_
  refine wl_yes rfl rfl ?_
  refine wl_val (r_eql rfl rfl) (ltn rfl) ?_
  refine wl_val (r_pick_t rfl rfl) (ltn rfl) ?_
  refine wl_val (r_assign rfl) (ltn rfl) ?_
  refine wl_nil ?_
  refine wq_seq ?_
  refine wc_cond rfl (fun h6 => ?_) (fun h => by exfalso; (try simp only [cmpS] at h); first | contradiction | omega | (simp at h <;> omega))
  (try simp only [cmpS] at h6)
  refine wc_seq ?_
  refine wc_region ?_
  refine wl_val (r_assign rfl) (ltn rfl) ?_
  refine wl_nil ?_
  refine wq_seq ?_
  refine wc_ret ?_
  refine wq_block_ret ?_
  refine wq_then_ret ?_
  refine wq_end1 (.inl rfl) Tryz.results116 rfl ?_
  exact ⟨rfl, H⟩
/-- It does not go on. -/
theorem ring_kill_new (H : Holds w0 w (RingRep p E place • F)) (hr : FRdI w0 F .i32 v l) (hw : 0 ≤ way ∧ way ≤ 2) (hl : l.length ≤ 1024) (hj : way = 0 ∨ E.length = 0) (hn : ¬ (way = 0 ∧ l.length = 0)) :
    Ret Tryz.prog 116 #[.pointer (some ⟨p, 0, none⟩), .int .i64 way, v] w fun v' w' => v' = .int .i64 0 ∧ Holds w0 w' (RingRep p ((l :: E).take 60) 0 • F) := by
  obtain ⟨s, h, hs, hh, hE, hp, hm, ho, H1⟩ := H.ring
  have hb := H1.get.2
  obtain ⟨a, c, hv, _, _, _⟩ := (hr w H.right).open
  subst hv
  refine ret_enter Tryz.func116 rfl Tryz.ntmps116 (Nat.le_of_ble_eq_true rfl) ?_
  dsimp only [slots0, Nat.reduceAdd]
  refine wc_seq ?_
  refine wc_region ?_
  refine wl_val (r_assign rfl) (ltn rfl) ?_
  refine wl_nil ?_
  refine wq_seq ?_
  refine wc_seq ?_
  refine wc_seq ?_
  refine wc_region ?_
  refine wl_val (r_move rfl) (ltn rfl) ?_
  refine wl_eff (e_call (r_call rfl Tryz.func135 rfl rfl) (ring_none_ret _ hb ring_0)) (ltn rfl) ?_
  rintro _ _ ⟨rfl, rfl⟩
  refine wl_nil ?_
  refine wq_seq ?_
  refine wc_cond_f rfl ?_
  refine wc_skip ?_
  refine wq_seq ?_
  refine wc_seq ?_
  refine wc_seq ?_
  refine wc_region ?_
  refine wl_val (r_move rfl) (ltn rfl) ?_
  refine wl_val (r_lss rfl rfl) (ltn rfl) ?_
  refine wl_split rfl (ltn rfl) (fun h => by exfalso; (try simp only [cmpS] at h); first | contradiction | omega | (simp at h <;> omega)) (fun h1 => ?_)
  (try simp only [cmpS] at h1)
  refine wl_yes rfl rfl ?_
  refine wl_val (r_move rfl) (ltn rfl) ?_
  refine wl_yes rfl rfl ?_
  refine wl_val (r_gtr rfl rfl) (ltn rfl) ?_
  refine wl_val (r_pick_f rfl rfl) (ltn rfl) ?_
  refine wl_nil ?_
  refine wq_seq ?_
  refine wc_cond rfl (fun h => by exfalso; (try simp only [cmpS] at h); first | contradiction | omega | (simp at h <;> omega)) (fun h2 => ?_)
  (try simp only [cmpS] at h2)
  refine wc_skip ?_
  refine wq_seq ?_
  refine wc_seq ?_
  refine wc_region ?_
  refine wl_val (r_move rfl) (ltn rfl) ?_
  refine wl_val (r_neq rfl rfl) (ltn rfl) ?_
  refine wl_split rfl (ltn rfl) (fun h3 => ?_) (fun h3 => ?_)
  · (try simp only [cmpS] at h3)
    try (exfalso; first | contradiction | omega)
    all_goals
      refine wl_yes rfl rfl ?_
      refine wl_val (r_move rfl) (ltn rfl) ?_
      refine wl_yes rfl rfl ?_
      refine wl_val (r_nil rfl) (ltn rfl) ?_
      refine wl_yes rfl rfl ?_
      refine wl_val (r_fieldA 62 Tryz.underlying155 rfl rfl Tryz.sizeOf3 (by decide) rfl (by first | exact Nat.zero_add _ | rfl)) (ltn rfl) ?_
      refine wl_yes rfl rfl ?_
      refine wl_val (r_load (plain_of Tryz.underlying3 rfl) rfl (cell_of_blk hb (ring_many hs))) (ltn rfl) ?_
      refine wl_yes rfl rfl ?_
      refine wl_val (r_known_f (r_gtr rfl rfl) (by first | (rw [decide_eq_true_eq]; omega) | (rw [decide_eq_false_iff_not]; omega) | (rw [beq_iff_eq]; omega) | (rw [beq_eq_false_iff_ne]; omega) | (rw [bne_iff_ne]; omega) | (rw [bne_eq_false_iff_eq]; omega) | (simp; done) | (simp; omega))) (ltn rfl) ?_
      refine wl_val (r_pick_t rfl rfl) (ltn rfl) ?_
      refine wl_val (r_assign rfl) (ltn rfl) ?_
      refine wl_nil ?_
      refine wq_seq ?_
      refine wc_seq ?_
      refine wc_block ?_
      refine wc_seq ?_
      refine wc_region ?_
      refine wl_val (r_move rfl) (ltn rfl) ?_
      refine wl_val (r_len Tryz.underlying22 rfl) (ltn rfl) ?_
      refine wl_val (r_gtr rfl rfl) (ltn rfl) ?_
      refine wl_split rfl (ltn rfl) (fun h => by exfalso; (try simp only [cmpS] at h); first | contradiction | omega | (simp at h <;> omega)) (fun h4 => ?_)
      (try simp only [cmpS] at h4)
      refine wl_yes rfl rfl ?_
      refine wl_val (r_move rfl) (ltn rfl) ?_
      refine wl_yes rfl rfl ?_
      refine wl_val (r_move rfl) (ltn rfl) ?_
      refine wl_no rfl rfl rfl (ltn rfl) ?_
      refine wl_no rfl rfl rfl (ltn rfl) ?_
      refine wl_no rfl rfl rfl (ltn rfl) ?_
      refine wl_no rfl rfl rfl (ltn rfl) ?_
      refine wl_no rfl rfl rfl (ltn rfl) ?_
      refine wl_no rfl rfl rfl (ltn rfl) ?_
      refine wl_no rfl rfl rfl (ltn rfl) ?_
      refine wl_yes rfl rfl ?_
      refine wl_val (r_pick_f rfl rfl) (ltn rfl) ?_
      refine wl_val (r_pick_f rfl rfl) (ltn rfl) ?_
      refine wl_val (r_assign rfl) (ltn rfl) ?_
      refine wl_nil ?_
      refine wq_seq ?_
      refine wc_cond_f rfl ?_
      refine wc_seq ?_
      refine wc_region ?_
      refine wl_val (r_move rfl) (ltn rfl) ?_
      refine wl_val (r_eql rfl rfl) (ltn rfl) ?_
      refine wl_split rfl (ltn rfl) (fun h5 => ?_) (fun h5 => ?_)
      · (try simp only [cmpS] at h5)
        try (exfalso; first | contradiction | omega)
        all_goals
          refine wl_yes rfl rfl ?_
          refine wl_val (r_move rfl) (ltn rfl) ?_
          refine wl_yes rfl rfl ?_
          refine wl_val (r_len Tryz.underlying22 rfl) (ltn rfl) ?_
          refine wl_yes rfl rfl ?_
          refine wl_val (r_eql rfl rfl) (ltn rfl) ?_
          refine wl_val (r_pick_t rfl rfl) (ltn rfl) ?_
          refine wl_val (r_assign rfl) (ltn rfl) ?_
          refine wl_nil ?_
          refine wq_seq ?_
          refine wc_cond rfl (fun h => by exfalso; (try simp only [cmpS] at h); first | contradiction | omega | (simp at h <;> omega)) (fun h6 => ?_)
          (try simp only [cmpS] at h6)
          refine wc_seq ?_
          refine wc_region ?_
          refine wl_val (r_move rfl) (ltn rfl) ?_
          refine wl_val (r_not rfl) (ltn rfl) ?_
          refine wl_val (r_assign rfl) (ltn rfl) ?_
          refine wl_nil ?_
          refine wq_seq ?_
          refine wc_cond rfl (fun h7 => ?_) (fun h7 => ?_)
          · (try simp only [cmpS] at h7)
            try (exfalso; first | contradiction | omega)
            all_goals
              
              refine wc_region ?_
              refine wl_val (r_move rfl) (ltn rfl) ?_
              refine wl_val (r_move rfl) (ltn rfl) ?_
              refine wl_eff (e_call (r_call rfl Tryz.func166 rfl rfl) (ring_push_ret H hr hl)) (ltn rfl) ?_
              rintro _ w2 H7
              obtain ⟨s2, h2, hs2, hh2, hE2, hp2, hm2, ho2, H2⟩ := H7.ring
              refine wl_nil ?_
              refine wq_block_normal ?_
              refine wq_seq ?_
              refine wc_seq ?_
              refine wc_region ?_
              refine wl_val (r_move rfl) (ltn rfl) ?_
              refine wl_val (r_nil rfl) (ltn rfl) ?_
              refine wl_val (r_fieldA 63 Tryz.underlying155 rfl rfl Tryz.sizeOf3 (by decide) rfl (by first | exact Nat.zero_add _ | rfl)) (ltn rfl) ?_
              refine wl_eff0 (e_store H2 Tryz.sizeOf3 rfl rfl rfl (by rw [ring_size hs2]; decide)) ?_
              rintro _ w3 H8
              rw [show (Value.int .i64 0) = .int .i64 ((0 : Nat) : Int) from rfl, ring_set_place hs2] at H8
              refine wl_nil ?_
              refine wq_seq ?_
              refine wc_seq ?_
              refine wc_region ?_
              refine wl_val (r_assign rfl) (ltn rfl) ?_
              refine wl_nil ?_
              refine wq_seq ?_
              refine wc_ret ?_
              refine wq_end1 (.inl rfl) Tryz.results116 rfl ?_
              exact ⟨rfl, Holds.mk_ring hs2 hh2 hE2 hp2 hm2 ho2 H8⟩
          · (try simp only [cmpS] at h7)
            try (exfalso; first | contradiction | omega)
            all_goals
              
              refine wc_seq ?_
              refine wc_region ?_
              refine wl_val (r_move rfl) (ltn rfl) ?_
              refine wl_val (r_eql rfl rfl) (ltn rfl) ?_
              refine wl_val (r_assign rfl) (ltn rfl) ?_
              refine wl_nil ?_
              refine wq_seq ?_
              refine wc_cond rfl (fun h8 => ?_) (fun h8 => ?_)
              · (try simp only [cmpS] at h8)
                exfalso; first | contradiction | omega
              · (try simp only [cmpS] at h8)
                exfalso; first | contradiction | omega
      · (try simp only [cmpS] at h5)
        try (exfalso; first | contradiction | omega)
        all_goals
          refine wl_no rfl rfl rfl (ltn rfl) ?_
          refine wl_no rfl rfl rfl (ltn rfl) ?_
          refine wl_no rfl rfl rfl (ltn rfl) ?_
          refine wl_val (r_pick_f rfl rfl) (ltn rfl) ?_
          refine wl_val (r_assign rfl) (ltn rfl) ?_
          refine wl_nil ?_
          refine wq_seq ?_
          refine wc_cond_f rfl ?_
          refine wc_seq ?_
          refine wc_region ?_
          refine wl_val (r_move rfl) (ltn rfl) ?_
          refine wl_val (r_not rfl) (ltn rfl) ?_
          refine wl_val (r_assign rfl) (ltn rfl) ?_
          refine wl_nil ?_
          refine wq_seq ?_
          refine wc_cond rfl (fun h9 => ?_) (fun h9 => ?_)
          · (try simp only [cmpS] at h9)
            try (exfalso; first | contradiction | omega)
            all_goals
              
              refine wc_region ?_
              refine wl_val (r_move rfl) (ltn rfl) ?_
              refine wl_val (r_move rfl) (ltn rfl) ?_
              refine wl_eff (e_call (r_call rfl Tryz.func166 rfl rfl) (ring_push_ret H hr hl)) (ltn rfl) ?_
              rintro _ w14 H7
              obtain ⟨s2, h2, hs2, hh2, hE2, hp2, hm2, ho2, H2⟩ := H7.ring
              refine wl_nil ?_
              refine wq_block_normal ?_
              refine wq_seq ?_
              refine wc_seq ?_
              refine wc_region ?_
              refine wl_val (r_move rfl) (ltn rfl) ?_
              refine wl_val (r_nil rfl) (ltn rfl) ?_
              refine wl_val (r_fieldA 63 Tryz.underlying155 rfl rfl Tryz.sizeOf3 (by decide) rfl (by first | exact Nat.zero_add _ | rfl)) (ltn rfl) ?_
              refine wl_eff0 (e_store H2 Tryz.sizeOf3 rfl rfl rfl (by rw [ring_size hs2]; decide)) ?_
              rintro _ w15 H8
              rw [show (Value.int .i64 0) = .int .i64 ((0 : Nat) : Int) from rfl, ring_set_place hs2] at H8
              refine wl_nil ?_
              refine wq_seq ?_
              refine wc_seq ?_
              refine wc_region ?_
              refine wl_val (r_assign rfl) (ltn rfl) ?_
              refine wl_nil ?_
              refine wq_seq ?_
              refine wc_ret ?_
              refine wq_end1 (.inl rfl) Tryz.results116 rfl ?_
              exact ⟨rfl, Holds.mk_ring hs2 hh2 hE2 hp2 hm2 ho2 H8⟩
          · (try simp only [cmpS] at h9)
            try (exfalso; first | contradiction | omega)
            all_goals
              
              refine wc_seq ?_
              refine wc_region ?_
              refine wl_val (r_move rfl) (ltn rfl) ?_
              refine wl_val (r_eql rfl rfl) (ltn rfl) ?_
              refine wl_val (r_assign rfl) (ltn rfl) ?_
              refine wl_nil ?_
              refine wq_seq ?_
              refine wc_cond rfl (fun h10 => ?_) (fun h10 => ?_)
              · (try simp only [cmpS] at h10)
                exfalso; first | contradiction | omega
              · (try simp only [cmpS] at h10)
                exfalso; first | contradiction | omega
  · (try simp only [cmpS] at h3)
    try (exfalso; first | contradiction | omega)
    all_goals
      refine wl_no rfl rfl rfl (ltn rfl) ?_
      refine wl_no rfl rfl rfl (ltn rfl) ?_
      refine wl_no rfl rfl rfl (ltn rfl) ?_
      refine wl_no rfl rfl rfl (ltn rfl) ?_
      refine wl_no rfl rfl rfl (ltn rfl) ?_
      refine wl_val (r_pick_f rfl rfl) (ltn rfl) ?_
      refine wl_val (r_assign rfl) (ltn rfl) ?_
      refine wl_nil ?_
      refine wq_seq ?_
      refine wc_seq ?_
      refine wc_block ?_
      refine wc_seq ?_
      refine wc_region ?_
      refine wl_val (r_move rfl) (ltn rfl) ?_
      refine wl_val (r_len Tryz.underlying22 rfl) (ltn rfl) ?_
      refine wl_val (r_gtr rfl rfl) (ltn rfl) ?_
      refine wl_split rfl (ltn rfl) (fun h => by exfalso; (try simp only [cmpS] at h); first | contradiction | omega | (simp at h <;> omega)) (fun h11 => ?_)
      (try simp only [cmpS] at h11)
      refine wl_yes rfl rfl ?_
      refine wl_val (r_move rfl) (ltn rfl) ?_
      refine wl_yes rfl rfl ?_
      refine wl_val (r_move rfl) (ltn rfl) ?_
      refine wl_no rfl rfl rfl (ltn rfl) ?_
      refine wl_no rfl rfl rfl (ltn rfl) ?_
      refine wl_no rfl rfl rfl (ltn rfl) ?_
      refine wl_no rfl rfl rfl (ltn rfl) ?_
      refine wl_no rfl rfl rfl (ltn rfl) ?_
      refine wl_no rfl rfl rfl (ltn rfl) ?_
      refine wl_no rfl rfl rfl (ltn rfl) ?_
      refine wl_yes rfl rfl ?_
      refine wl_val (r_pick_f rfl rfl) (ltn rfl) ?_
      refine wl_val (r_pick_f rfl rfl) (ltn rfl) ?_
      refine wl_val (r_assign rfl) (ltn rfl) ?_
      refine wl_nil ?_
      refine wq_seq ?_
      refine wc_cond_f rfl ?_
      refine wc_seq ?_
      refine wc_region ?_
      refine wl_val (r_move rfl) (ltn rfl) ?_
      refine wl_val (r_eql rfl rfl) (ltn rfl) ?_
      refine wl_split rfl (ltn rfl) (fun h12 => ?_) (fun h12 => ?_)
      · (try simp only [cmpS] at h12)
        try (exfalso; first | contradiction | omega)
        all_goals
          refine wl_yes rfl rfl ?_
          refine wl_val (r_move rfl) (ltn rfl) ?_
          refine wl_yes rfl rfl ?_
          refine wl_val (r_len Tryz.underlying22 rfl) (ltn rfl) ?_
          refine wl_yes rfl rfl ?_
          refine wl_val (r_eql rfl rfl) (ltn rfl) ?_
          refine wl_val (r_pick_t rfl rfl) (ltn rfl) ?_
          refine wl_val (r_assign rfl) (ltn rfl) ?_
          refine wl_nil ?_
          refine wq_seq ?_
          refine wc_cond rfl (fun h => by exfalso; (try simp only [cmpS] at h); first | contradiction | omega | (simp at h <;> omega)) (fun h13 => ?_)
          (try simp only [cmpS] at h13)
          refine wc_seq ?_
          refine wc_region ?_
          refine wl_val (r_move rfl) (ltn rfl) ?_
          refine wl_val (r_not rfl) (ltn rfl) ?_
          refine wl_val (r_assign rfl) (ltn rfl) ?_
          refine wl_nil ?_
          refine wq_seq ?_
          refine wc_cond rfl (fun h14 => ?_) (fun h14 => ?_)
          · (try simp only [cmpS] at h14)
            try (exfalso; first | contradiction | omega)
            all_goals
              
              refine wc_region ?_
              refine wl_val (r_move rfl) (ltn rfl) ?_
              refine wl_val (r_move rfl) (ltn rfl) ?_
              refine wl_eff (e_call (r_call rfl Tryz.func166 rfl rfl) (ring_push_ret H hr hl)) (ltn rfl) ?_
              rintro _ w26 H7
              obtain ⟨s2, h2, hs2, hh2, hE2, hp2, hm2, ho2, H2⟩ := H7.ring
              refine wl_nil ?_
              refine wq_block_normal ?_
              refine wq_seq ?_
              refine wc_seq ?_
              refine wc_region ?_
              refine wl_val (r_move rfl) (ltn rfl) ?_
              refine wl_val (r_nil rfl) (ltn rfl) ?_
              refine wl_val (r_fieldA 63 Tryz.underlying155 rfl rfl Tryz.sizeOf3 (by decide) rfl (by first | exact Nat.zero_add _ | rfl)) (ltn rfl) ?_
              refine wl_eff0 (e_store H2 Tryz.sizeOf3 rfl rfl rfl (by rw [ring_size hs2]; decide)) ?_
              rintro _ w27 H8
              rw [show (Value.int .i64 0) = .int .i64 ((0 : Nat) : Int) from rfl, ring_set_place hs2] at H8
              refine wl_nil ?_
              refine wq_seq ?_
              refine wc_seq ?_
              refine wc_region ?_
              refine wl_val (r_assign rfl) (ltn rfl) ?_
              refine wl_nil ?_
              refine wq_seq ?_
              refine wc_ret ?_
              refine wq_end1 (.inl rfl) Tryz.results116 rfl ?_
              exact ⟨rfl, Holds.mk_ring hs2 hh2 hE2 hp2 hm2 ho2 H8⟩
          · (try simp only [cmpS] at h14)
            try (exfalso; first | contradiction | omega)
            all_goals
              
              refine wc_seq ?_
              refine wc_region ?_
              refine wl_val (r_move rfl) (ltn rfl) ?_
              refine wl_val (r_eql rfl rfl) (ltn rfl) ?_
              refine wl_val (r_assign rfl) (ltn rfl) ?_
              refine wl_nil ?_
              refine wq_seq ?_
              refine wc_cond rfl (fun h15 => ?_) (fun h15 => ?_)
              · (try simp only [cmpS] at h15)
                exfalso; first | contradiction | omega
              · (try simp only [cmpS] at h15)
                exfalso; first | contradiction | omega
      · (try simp only [cmpS] at h12)
        try (exfalso; first | contradiction | omega)
        all_goals
          refine wl_no rfl rfl rfl (ltn rfl) ?_
          refine wl_no rfl rfl rfl (ltn rfl) ?_
          refine wl_no rfl rfl rfl (ltn rfl) ?_
          refine wl_val (r_pick_f rfl rfl) (ltn rfl) ?_
          refine wl_val (r_assign rfl) (ltn rfl) ?_
          refine wl_nil ?_
          refine wq_seq ?_
          refine wc_cond_f rfl ?_
          refine wc_seq ?_
          refine wc_region ?_
          refine wl_val (r_move rfl) (ltn rfl) ?_
          refine wl_val (r_not rfl) (ltn rfl) ?_
          refine wl_val (r_assign rfl) (ltn rfl) ?_
          refine wl_nil ?_
          refine wq_seq ?_
          refine wc_cond rfl (fun h16 => ?_) (fun h16 => ?_)
          · (try simp only [cmpS] at h16)
            try (exfalso; first | contradiction | omega)
            all_goals
              
              refine wc_region ?_
              refine wl_val (r_move rfl) (ltn rfl) ?_
              refine wl_val (r_move rfl) (ltn rfl) ?_
              refine wl_eff (e_call (r_call rfl Tryz.func166 rfl rfl) (ring_push_ret H hr hl)) (ltn rfl) ?_
              rintro _ w38 H7
              obtain ⟨s2, h2, hs2, hh2, hE2, hp2, hm2, ho2, H2⟩ := H7.ring
              refine wl_nil ?_
              refine wq_block_normal ?_
              refine wq_seq ?_
              refine wc_seq ?_
              refine wc_region ?_
              refine wl_val (r_move rfl) (ltn rfl) ?_
              refine wl_val (r_nil rfl) (ltn rfl) ?_
              refine wl_val (r_fieldA 63 Tryz.underlying155 rfl rfl Tryz.sizeOf3 (by decide) rfl (by first | exact Nat.zero_add _ | rfl)) (ltn rfl) ?_
              refine wl_eff0 (e_store H2 Tryz.sizeOf3 rfl rfl rfl (by rw [ring_size hs2]; decide)) ?_
              rintro _ w39 H8
              rw [show (Value.int .i64 0) = .int .i64 ((0 : Nat) : Int) from rfl, ring_set_place hs2] at H8
              refine wl_nil ?_
              refine wq_seq ?_
              refine wc_seq ?_
              refine wc_region ?_
              refine wl_val (r_assign rfl) (ltn rfl) ?_
              refine wl_nil ?_
              refine wq_seq ?_
              refine wc_ret ?_
              refine wq_end1 (.inl rfl) Tryz.results116 rfl ?_
              exact ⟨rfl, Holds.mk_ring hs2 hh2 hE2 hp2 hm2 ho2 H8⟩
          · (try simp only [cmpS] at h16)
            try (exfalso; first | contradiction | omega)
            all_goals
              
              refine wc_seq ?_
              refine wc_region ?_
              refine wl_val (r_move rfl) (ltn rfl) ?_
              refine wl_val (r_eql rfl rfl) (ltn rfl) ?_
              refine wl_val (r_assign rfl) (ltn rfl) ?_
              refine wl_nil ?_
              refine wq_seq ?_
              refine wc_cond rfl (fun h17 => ?_) (fun h17 => ?_)
              · (try simp only [cmpS] at h17)
                exfalso; first | contradiction | omega
              · (try simp only [cmpS] at h17)
                exfalso; first | contradiction | omega
theorem ring_kill_too (H : Holds w0 w (RingRep p E place • F)) (hr : FRdI w0 F .i32 v l) (hw : 0 < way ∧ way ≤ 2) (hl : l.length ≤ 1024) (hE0 : 0 < E.length) (hj : 1024 < l.length + (E.getD 0 []).length) :
    Ret Tryz.prog 116 #[.pointer (some ⟨p, 0, none⟩), .int .i64 way, v] w fun v' w' => v' = .int .i64 3 ∧ Holds w0 w' (RingRep p E place • F) := by
  obtain ⟨s, h, hs, hh, hE, hp, hm, ho, H1⟩ := H.ring
  have hb := H1.get.2
  obtain ⟨a, c, hv, _, _, _⟩ := (hr w H.right).open
  subst hv
  have hm0 : (E.getD 0 []).length ≤ 1024 := hm _ (by rw [List.getD_eq_getElem?_getD, List.getElem?_eq_getElem hE0]; simp)
  refine ret_enter Tryz.func116 rfl Tryz.ntmps116 (Nat.le_of_ble_eq_true rfl) ?_
  dsimp only [slots0, Nat.reduceAdd]
  refine wc_seq ?_
  refine wc_region ?_
  refine wl_val (r_assign rfl) (ltn rfl) ?_
  refine wl_nil ?_
  refine wq_seq ?_
  refine wc_seq ?_
  refine wc_seq ?_
  refine wc_region ?_
  refine wl_val (r_move rfl) (ltn rfl) ?_
  refine wl_eff (e_call (r_call rfl Tryz.func135 rfl rfl) (ring_none_ret _ hb ring_0)) (ltn rfl) ?_
  rintro _ _ ⟨rfl, rfl⟩
  refine wl_nil ?_
  refine wq_seq ?_
  refine wc_cond_f rfl ?_
  refine wc_skip ?_
  refine wq_seq ?_
  refine wc_seq ?_
  refine wc_seq ?_
  refine wc_region ?_
  refine wl_val (r_move rfl) (ltn rfl) ?_
  refine wl_val (r_lss rfl rfl) (ltn rfl) ?_
  refine wl_split rfl (ltn rfl) (fun h => by exfalso; (try simp only [cmpS] at h); first | contradiction | omega | (simp at h <;> omega)) (fun h1 => ?_)
  (try simp only [cmpS] at h1)
  refine wl_yes rfl rfl ?_
  refine wl_val (r_move rfl) (ltn rfl) ?_
  refine wl_yes rfl rfl ?_
  refine wl_val (r_gtr rfl rfl) (ltn rfl) ?_
  refine wl_val (r_pick_f rfl rfl) (ltn rfl) ?_
  refine wl_nil ?_
  refine wq_seq ?_
  refine wc_cond rfl (fun h => by exfalso; (try simp only [cmpS] at h); first | contradiction | omega | (simp at h <;> omega)) (fun h2 => ?_)
  (try simp only [cmpS] at h2)
  refine wc_skip ?_
  refine wq_seq ?_
  refine wc_seq ?_
  refine wc_region ?_
  refine wl_val (r_move rfl) (ltn rfl) ?_
  refine wl_val (r_neq rfl rfl) (ltn rfl) ?_
  refine wl_split rfl (ltn rfl) (fun h3 => ?_) (fun h => by exfalso; (try simp only [cmpS] at h); first | contradiction | omega | (simp at h <;> omega))
  (try simp only [cmpS] at h3)
  refine wl_yes rfl rfl ?_
  refine wl_val (r_move rfl) (ltn rfl) ?_
  refine wl_yes rfl rfl ?_
  refine wl_val (r_nil rfl) (ltn rfl) ?_
  refine wl_yes rfl rfl ?_
  refine wl_val (r_fieldA 62 Tryz.underlying155 rfl rfl Tryz.sizeOf3 (by decide) rfl (by first | exact Nat.zero_add _ | rfl)) (ltn rfl) ?_
  refine wl_yes rfl rfl ?_
  refine wl_val (r_load (plain_of Tryz.underlying3 rfl) rfl (cell_of_blk hb (ring_many hs))) (ltn rfl) ?_
  refine wl_yes rfl rfl ?_
  refine wl_val (r_known_t (r_gtr rfl rfl) (by first | (rw [decide_eq_true_eq]; omega) | (rw [decide_eq_false_iff_not]; omega) | (rw [beq_iff_eq]; omega) | (rw [beq_eq_false_iff_ne]; omega) | (rw [bne_iff_ne]; omega) | (rw [bne_eq_false_iff_eq]; omega) | (simp; done) | (simp; omega))) (ltn rfl) ?_
  refine wl_val (r_pick_t rfl rfl) (ltn rfl) ?_
  refine wl_val (r_assign rfl) (ltn rfl) ?_
  refine wl_nil ?_
  refine wq_seq ?_
  refine wc_seq ?_
  refine wc_block ?_
  refine wc_seq ?_
  refine wc_region ?_
  refine wl_val (r_move rfl) (ltn rfl) ?_
  refine wl_val (r_len Tryz.underlying22 rfl) (ltn rfl) ?_
  refine wl_val (r_gtr rfl rfl) (ltn rfl) ?_
  refine wl_split rfl (ltn rfl) (fun h => by exfalso; (try simp only [cmpS] at h); first | contradiction | omega | (simp at h <;> omega)) (fun h4 => ?_)
  (try simp only [cmpS] at h4)
  refine wl_yes rfl rfl ?_
  refine wl_val (r_move rfl) (ltn rfl) ?_
  refine wl_yes rfl rfl ?_
  refine wl_val (r_move rfl) (ltn rfl) ?_
  refine wl_yes rfl rfl ?_
  refine wl_val (r_move rfl) (ltn rfl) ?_
  refine wl_yes rfl rfl ?_
  refine wl_val (r_len Tryz.underlying22 rfl) (ltn rfl) ?_
  refine wl_yes rfl rfl ?_
  refine wl_val (r_move rfl) (ltn rfl) ?_
  refine wl_yes rfl rfl ?_
  refine wl_eff (e_call (r_call rfl Tryz.func137 rfl rfl) (ring_at_ret (k := 0) hs hh (by omega) hb)) (ltn rfl) ?_
  rintro _ w2 ⟨rfl, hD⟩
  obtain ⟨a0, c0, e0, _, _, _⟩ := ((H1.drewn hD).right.slots_rd (i := 0) hE0).open
  rw [e0]
  refine wl_yes rfl rfl ?_
  refine wl_val (r_len Tryz.underlying22 rfl) (ltn rfl) ?_
  refine wl_yes rfl rfl ?_
  refine wl_val (r_sub rfl rfl (by omega)) (ltn rfl) ?_
  refine wl_yes rfl rfl ?_
  refine wl_val (r_known_t (r_gtr rfl rfl) (by first | (rw [decide_eq_true_eq]; omega) | (rw [decide_eq_false_iff_not]; omega) | (rw [beq_iff_eq]; omega) | (rw [beq_eq_false_iff_ne]; omega) | (rw [bne_iff_ne]; omega) | (rw [bne_eq_false_iff_eq]; omega) | (simp; done) | (simp; omega))) (ltn rfl) ?_
  refine wl_yes rfl rfl ?_
  refine wl_val (r_pick_t rfl rfl) (ltn rfl) ?_
  refine wl_val (r_pick_f rfl rfl) (ltn rfl) ?_
  refine wl_val (r_assign rfl) (ltn rfl) ?_
  refine wl_nil ?_
  refine wq_seq ?_
  refine wc_cond_t rfl ?_
  refine wc_seq ?_
  refine wc_region ?_
  refine wl_val (r_assign rfl) (ltn rfl) ?_
  refine wl_nil ?_
  refine wq_seq ?_
  refine wc_ret ?_
  refine wq_block_ret ?_
  refine wq_then_ret ?_
  refine wq_end1 (.inl rfl) Tryz.results116 rfl ?_
  exact ⟨rfl, H.drewn hD⟩

/-- It goes on, behind or ahead. -/
theorem ring_kill_join (H : Holds w0 w (RingRep p E place • F)) (hr : FRdI w0 F .i32 v l) (hw : 0 < way ∧ way ≤ 2) (hE0 : 0 < E.length) (hj : l.length + (E.getD 0 []).length ≤ 1024) :
    Ret Tryz.prog 116 #[.pointer (some ⟨p, 0, none⟩), .int .i64 way, v] w fun v' w' => v' = .int .i64 0 ∧ Holds w0 w' (RingRep p ((if way = 1 then E.getD 0 [] ++ l else l ++ E.getD 0 []) :: E.tail) 0 • F) := by
  obtain ⟨s, h, hs, hh, hE, hp, hm, ho, H⟩ := H.ring
  have hb := H.get.2
  obtain ⟨a, c, hv, _, _, _⟩ := (hr w H.right.right).open
  subst hv
  have hm0 : (E.getD 0 []).length ≤ 1024 := hm _ (by rw [List.getD_eq_getElem?_getD, List.getElem?_eq_getElem hE0]; simp)
  have hslot := ring_slot (h := h) (n := E.length) (p := place) hs (i := (h + 0) % 60) (by omega)
  refine ret_enter Tryz.func116 rfl Tryz.ntmps116 (Nat.le_of_ble_eq_true rfl) ?_
  dsimp only [slots0, Nat.reduceAdd]
  refine wc_seq ?_
  refine wc_region ?_
  refine wl_val (r_assign rfl) (ltn rfl) ?_
  refine wl_nil ?_
  refine wq_seq ?_
  refine wc_seq ?_
  refine wc_seq ?_
  refine wc_region ?_
  refine wl_val (r_move rfl) (ltn rfl) ?_
  refine wl_eff (e_call (r_call rfl Tryz.func135 rfl rfl) (ring_none_ret _ hb ring_0)) (ltn rfl) ?_
  rintro _ _ ⟨rfl, rfl⟩
  refine wl_nil ?_
  refine wq_seq ?_
  refine wc_cond_f rfl ?_
  refine wc_skip ?_
  refine wq_seq ?_
  refine wc_seq ?_
  refine wc_seq ?_
  refine wc_region ?_
  refine wl_val (r_move rfl) (ltn rfl) ?_
  refine wl_val (r_lss rfl rfl) (ltn rfl) ?_
  refine wl_split rfl (ltn rfl) (fun h => by exfalso; (try simp only [cmpS] at h); first | contradiction | omega | (simp at h <;> omega)) (fun h1 => ?_)
  (try simp only [cmpS] at h1)
  refine wl_yes rfl rfl ?_
  refine wl_val (r_move rfl) (ltn rfl) ?_
  refine wl_yes rfl rfl ?_
  refine wl_val (r_gtr rfl rfl) (ltn rfl) ?_
  refine wl_val (r_pick_f rfl rfl) (ltn rfl) ?_
  refine wl_nil ?_
  refine wq_seq ?_
  refine wc_cond rfl (fun h => by exfalso; (try simp only [cmpS] at h); first | contradiction | omega | (simp at h <;> omega)) (fun h2 => ?_)
  (try simp only [cmpS] at h2)
  refine wc_skip ?_
  refine wq_seq ?_
  refine wc_seq ?_
  refine wc_region ?_
  refine wl_val (r_move rfl) (ltn rfl) ?_
  refine wl_val (r_neq rfl rfl) (ltn rfl) ?_
  refine wl_split rfl (ltn rfl) (fun h3 => ?_) (fun h => by exfalso; (try simp only [cmpS] at h); first | contradiction | omega | (simp at h <;> omega))
  (try simp only [cmpS] at h3)
  refine wl_yes rfl rfl ?_
  refine wl_val (r_move rfl) (ltn rfl) ?_
  refine wl_yes rfl rfl ?_
  refine wl_val (r_nil rfl) (ltn rfl) ?_
  refine wl_yes rfl rfl ?_
  refine wl_val (r_fieldA 62 Tryz.underlying155 rfl rfl Tryz.sizeOf3 (by decide) rfl (by first | exact Nat.zero_add _ | rfl)) (ltn rfl) ?_
  refine wl_yes rfl rfl ?_
  refine wl_val (r_load (plain_of Tryz.underlying3 rfl) rfl (cell_of_blk hb (ring_many hs))) (ltn rfl) ?_
  refine wl_yes rfl rfl ?_
  refine wl_val (r_known_t (r_gtr rfl rfl) (by first | (rw [decide_eq_true_eq]; omega) | (rw [decide_eq_false_iff_not]; omega) | (rw [beq_iff_eq]; omega) | (rw [beq_eq_false_iff_ne]; omega) | (rw [bne_iff_ne]; omega) | (rw [bne_eq_false_iff_eq]; omega) | (simp; done) | (simp; omega))) (ltn rfl) ?_
  refine wl_val (r_pick_t rfl rfl) (ltn rfl) ?_
  refine wl_val (r_assign rfl) (ltn rfl) ?_
  refine wl_nil ?_
  refine wq_seq ?_
  refine wc_seq ?_
  refine wc_block ?_
  refine wc_seq ?_
  refine wc_region ?_
  refine wl_val (r_move rfl) (ltn rfl) ?_
  refine wl_val (r_len Tryz.underlying22 rfl) (ltn rfl) ?_
  refine wl_val (r_gtr rfl rfl) (ltn rfl) ?_
  refine wl_split rfl (ltn rfl) (fun h => by exfalso; (try simp only [cmpS] at h); first | contradiction | omega | (simp at h <;> omega)) (fun h4 => ?_)
  (try simp only [cmpS] at h4)
  refine wl_yes rfl rfl ?_
  refine wl_val (r_move rfl) (ltn rfl) ?_
  refine wl_yes rfl rfl ?_
  refine wl_val (r_move rfl) (ltn rfl) ?_
  refine wl_yes rfl rfl ?_
  refine wl_val (r_move rfl) (ltn rfl) ?_
  refine wl_yes rfl rfl ?_
  refine wl_val (r_len Tryz.underlying22 rfl) (ltn rfl) ?_
  refine wl_yes rfl rfl ?_
  refine wl_val (r_move rfl) (ltn rfl) ?_
  refine wl_yes rfl rfl ?_
  refine wl_eff (e_call (r_call rfl Tryz.func137 rfl rfl) (ring_at_ret (k := 0) hs hh (by omega) hb)) (ltn rfl) ?_
  rintro _ w2 ⟨rfl, hD⟩
  obtain ⟨a0, c0, e0, _, _, _⟩ := ((H.drewn hD).right.slots_rd (i := 0) hE0).open
  rw [e0]
  have H10 := H.drewn hD
  refine wl_yes rfl rfl ?_
  refine wl_val (r_len Tryz.underlying22 rfl) (ltn rfl) ?_
  refine wl_yes rfl rfl ?_
  refine wl_val (r_sub rfl rfl (by omega)) (ltn rfl) ?_
  refine wl_yes rfl rfl ?_
  refine wl_val (r_known_f (r_gtr rfl rfl) (by first | (rw [decide_eq_true_eq]; omega) | (rw [decide_eq_false_iff_not]; omega) | (rw [beq_iff_eq]; omega) | (rw [beq_eq_false_iff_ne]; omega) | (rw [bne_iff_ne]; omega) | (rw [bne_eq_false_iff_eq]; omega) | (simp; done) | (simp; omega))) (ltn rfl) ?_
  refine wl_yes rfl rfl ?_
  refine wl_val (r_pick_t rfl rfl) (ltn rfl) ?_
  refine wl_val (r_pick_f rfl rfl) (ltn rfl) ?_
  refine wl_val (r_assign rfl) (ltn rfl) ?_
  refine wl_nil ?_
  refine wq_seq ?_
  refine wc_cond_f rfl ?_
  refine wc_seq ?_
  refine wc_region ?_
  refine wl_val (r_move rfl) (ltn rfl) ?_
  refine wl_val (r_eql rfl rfl) (ltn rfl) ?_
  refine wl_split rfl (ltn rfl) (fun h => by exfalso; (try simp only [cmpS] at h); first | contradiction | omega | (simp at h <;> omega)) (fun h5 => ?_)
  (try simp only [cmpS] at h5)
  refine wl_no rfl rfl rfl (ltn rfl) ?_
  refine wl_no rfl rfl rfl (ltn rfl) ?_
  refine wl_no rfl rfl rfl (ltn rfl) ?_
  refine wl_val (r_pick_f rfl rfl) (ltn rfl) ?_
  refine wl_val (r_assign rfl) (ltn rfl) ?_
  refine wl_nil ?_
  refine wq_seq ?_
  refine wc_cond_f rfl ?_
  refine wc_seq ?_
  refine wc_region ?_
  refine wl_val (r_move rfl) (ltn rfl) ?_
  refine wl_val (r_not rfl) (ltn rfl) ?_
  refine wl_val (r_assign rfl) (ltn rfl) ?_
  refine wl_nil ?_
  refine wq_seq ?_
  refine wc_cond rfl (fun h => by exfalso; (try simp only [cmpS] at h); first | contradiction | omega | (simp at h <;> omega)) (fun h6 => ?_)
  (try simp only [cmpS] at h6)
  refine wc_seq ?_
  refine wc_region ?_
  refine wl_val (r_move rfl) (ltn rfl) ?_
  refine wl_val (r_eql rfl rfl) (ltn rfl) ?_
  refine wl_val (r_assign rfl) (ltn rfl) ?_
  refine wl_nil ?_
  refine wq_seq ?_
  refine wc_cond rfl (fun h7 => ?_) (fun h7 => ?_)
  · (try simp only [cmpS] at h7)
    try (exfalso; first | contradiction | omega)
    all_goals
      
      have hw1 : way = 1 := by omega
      refine wd_begin (n := 14) [0, 1, 2, 3, 4, 5, 6, 7, 8, 9, 10, 11, 12, 13] (fun W => W.heap[p]? = some (.cells (ringCells s h E.length place) 155 (0, 0))) (by kernel_rfl) (by kernel_rfl) rfl ?_
      have hS0 : (fun W => W.heap[p]? = some (.cells (ringCells s h E.length place) 155 (0, 0))) (w2.drew) := H10.get.2
      have H14d := H10.drew
      refine wd_takeT 0 rfl (by kernel_rfl) (by kernel_rfl) hS0 (fun _ => r_move rfl) (ltn rfl) ?_
      refine wd_takeT 1 rfl (by kernel_rfl) (by kernel_rfl) hS0 (fun _ => r_move rfl) (ltn rfl) ?_
      refine wd_takeT 2 rfl (by kernel_rfl) (by kernel_rfl) hS0 (fun _ => r_nil rfl) (ltn rfl) ?_
      refine wd_takeT 3 rfl (by kernel_rfl) (by kernel_rfl) hS0 (fun _ => r_fieldA 61 Tryz.underlying155 rfl rfl Tryz.sizeOf3 (by decide) rfl (by first | exact Nat.zero_add _ | rfl)) (ltn rfl) ?_
      refine wd_take 4 rfl (by kernel_rfl) (by kernel_rfl) hS0 (by decide) (fun W hW => r_load (plain_of Tryz.underlying3 rfl) rfl (cell_of_blk hW (ring_head hs))) (ltn rfl) ?_
      refine wd_takeT 5 rfl (by kernel_rfl) (by kernel_rfl) hS0 (fun _ => r_move rfl) (ltn rfl) ?_
      refine wd_takeT 7 rfl (by kernel_rfl) (by kernel_rfl) hS0 (fun _ => r_move rfl) (ltn rfl) ?_
      refine wd_takeT 10 rfl (by kernel_rfl) (by kernel_rfl) hS0 (fun _ => r_nil rfl) (ltn rfl) ?_
      refine wd_takeT 11 rfl (by kernel_rfl) (by kernel_rfl) hS0 (fun _ => r_fieldA 1 Tryz.underlying155 rfl rfl Tryz.sizeOf153 (by decide) rfl (by first | exact Nat.zero_add _ | rfl)) (ltn rfl) ?_
      refine wd_eff 6 rfl (by kernel_rfl) (e_call (r_call rfl Tryz.func137 rfl rfl) (ring_at_ret (k := 0) hs hh (by omega) H14d.get.2)) (ltn rfl) ?_
      rintro _ w3 ⟨rfl, hD2⟩
      have H20 := H14d.drewn hD2
      have hS3 : (fun W => W.heap[p]? = some (.cells (ringCells s h E.length place) 155 (0, 0))) w3 := H20.get.2
      refine keepS hS3 ?_
      refine wd_eff 8 rfl (by kernel_rfl) (e_lit (vs := [s.getD ((h + 0) % 60) undef, .slice a l.length c]) H20 Tryz.underlying43 Tryz.sizeOf22 Tryz.zeroValue22 rfl rfl rfl (by decide) (by rw [e0]; simp [Value.oneCell'])) (ltn rfl) ?_
      rintro _ w4 ⟨b2, rfl, H4⟩
      have hS4 : (fun W => W.heap[p]? = some (.cells (ringCells s h E.length place) 155 (0, 0))) w4 := H4.swap.get.2
      refine keepS hS4 ?_
      refine wd_eff 9 rfl (by kernel_rfl) (e_call (r_call rfl Tryz.func167 rfl rfl) (concat2_ret H4 (fun W HW => HW.right.right.slots_rd (i := 0) hE0) hr.under.under.under (by omega))) (ltn rfl) ?_
      rintro u w5 H5
      have H21 := H5.rot
      have hS5 : (fun W => W.heap[p]? = some (.cells (ringCells s h E.length place) 155 (0, 0))) w5 := H21.get.2
      refine keepS hS5 ?_
      refine wd_takeT 12 rfl (by kernel_rfl) (by kernel_rfl) hS5 (fun _ => r_index_arr Tryz.underlying153 Tryz.sizeOf22 rfl rfl (by omega)) (ltn rfl) ?_
      refine wd_eff0 13 rfl (by kernel_rfl) (e_store H21 Tryz.sizeOf22 rfl rfl H5.row_rd.one (by rw [ring_size hs]; omega)) ?_
      rintro _ w6 H22
      rw [show (1 + ((h : Int)).toNat * 1) = 1 + h from by omega, ring_set_slot hs hh] at H22
      have hs' : (s.set h u).length = 60 := by simp [hs]
      have ho' := set_one ho (u := u) (i := h) H5.row_rd.one
      refine keepE (by kernel_rfl) ?_
      refine wd_done (by kernel_rfl) ?_
      refine wq_block_normal ?_
      refine wq_seq ?_
      refine wc_seq ?_
      refine wc_region ?_
      refine wl_val (r_move rfl) (ltn rfl) ?_
      refine wl_val (r_nil rfl) (ltn rfl) ?_
      refine wl_val (r_fieldA 63 Tryz.underlying155 rfl rfl Tryz.sizeOf3 (by decide) rfl (by first | exact Nat.zero_add _ | rfl)) (ltn rfl) ?_
      refine wl_eff0 (e_store H22 Tryz.sizeOf3 rfl rfl rfl (by rw [ring_size hs']; decide)) ?_
      rintro _ w7 H23
      rw [show (Value.int .i64 0) = .int .i64 ((0 : Nat) : Int) from rfl, ring_set_place hs'] at H23
      have H24 := H23.swap.freezeI
      refine wl_nil ?_
      refine wq_seq ?_
      refine wc_seq ?_
      refine wc_region ?_
      refine wl_val (r_assign rfl) (ltn rfl) ?_
      refine wl_nil ?_
      refine wq_seq ?_
      refine wc_ret ?_
      refine wq_end1 (.inl rfl) Tryz.results116 rfl ?_
      refine ⟨rfl, Holds.mk_ring hs' hh (by rw [tail_cons_len hE0]; omega) (.inr rfl) ?_ ho' ?_⟩
      · intro e he
        rcases List.mem_cons.1 he with rfl | he
        · first | (rw [if_pos hw1, List.length_append]; omega) | (rw [if_neg (by omega), List.length_append]; omega)
        · exact hm e (List.mem_of_mem_tail he)
      · rw [tail_cons_len hE0]
        first | rw [if_pos hw1] | rw [if_neg (by omega)]
        exact (H24.r4.swap.ent (know_two (fun I a b => slots_first hs hh hE hE0 b a) _)).rot.right.swap
  · (try simp only [cmpS] at h7)
    try (exfalso; first | contradiction | omega)
    all_goals
      
      have hw2 : way = 2 := by omega
      refine wd_begin (n := 14) [0, 1, 2, 3, 4, 5, 6, 7, 8, 9, 10, 11, 12, 13] (fun W => W.heap[p]? = some (.cells (ringCells s h E.length place) 155 (0, 0))) (by kernel_rfl) (by kernel_rfl) rfl ?_
      have hS0 : (fun W => W.heap[p]? = some (.cells (ringCells s h E.length place) 155 (0, 0))) (w2.drew) := H10.get.2
      have H6d := H10.drew
      refine wd_takeT 0 rfl (by kernel_rfl) (by kernel_rfl) hS0 (fun _ => r_move rfl) (ltn rfl) ?_
      refine wd_takeT 1 rfl (by kernel_rfl) (by kernel_rfl) hS0 (fun _ => r_move rfl) (ltn rfl) ?_
      refine wd_takeT 2 rfl (by kernel_rfl) (by kernel_rfl) hS0 (fun _ => r_nil rfl) (ltn rfl) ?_
      refine wd_takeT 3 rfl (by kernel_rfl) (by kernel_rfl) hS0 (fun _ => r_fieldA 61 Tryz.underlying155 rfl rfl Tryz.sizeOf3 (by decide) rfl (by first | exact Nat.zero_add _ | rfl)) (ltn rfl) ?_
      refine wd_take 4 rfl (by kernel_rfl) (by kernel_rfl) hS0 (by decide) (fun W hW => r_load (plain_of Tryz.underlying3 rfl) rfl (cell_of_blk hW (ring_head hs))) (ltn rfl) ?_
      refine wd_takeT 5 rfl (by kernel_rfl) (by kernel_rfl) hS0 (fun _ => r_move rfl) (ltn rfl) ?_
      refine wd_takeT 6 rfl (by kernel_rfl) (by kernel_rfl) hS0 (fun _ => r_move rfl) (ltn rfl) ?_
      refine wd_takeT 10 rfl (by kernel_rfl) (by kernel_rfl) hS0 (fun _ => r_nil rfl) (ltn rfl) ?_
      refine wd_takeT 11 rfl (by kernel_rfl) (by kernel_rfl) hS0 (fun _ => r_fieldA 1 Tryz.underlying155 rfl rfl Tryz.sizeOf153 (by decide) rfl (by first | exact Nat.zero_add _ | rfl)) (ltn rfl) ?_
      refine wd_eff 7 rfl (by kernel_rfl) (e_call (r_call rfl Tryz.func137 rfl rfl) (ring_at_ret (k := 0) hs hh (by omega) H6d.get.2)) (ltn rfl) ?_
      rintro _ w8 ⟨rfl, hD2⟩
      have H20 := H6d.drewn hD2
      have hS8 : (fun W => W.heap[p]? = some (.cells (ringCells s h E.length place) 155 (0, 0))) w8 := H20.get.2
      refine keepS hS8 ?_
      refine wd_eff 8 rfl (by kernel_rfl) (e_lit (vs := [.slice a l.length c, s.getD ((h + 0) % 60) undef]) H20 Tryz.underlying43 Tryz.sizeOf22 Tryz.zeroValue22 rfl rfl rfl (by decide) (by rw [e0]; simp [Value.oneCell'])) (ltn rfl) ?_
      rintro _ w9 ⟨b2, rfl, H9⟩
      have hS9 : (fun W => W.heap[p]? = some (.cells (ringCells s h E.length place) 155 (0, 0))) w9 := H9.swap.get.2
      refine keepS hS9 ?_
      refine wd_eff 9 rfl (by kernel_rfl) (e_call (r_call rfl Tryz.func167 rfl rfl) (concat2_ret H9 hr.under.under.under (fun W HW => HW.right.right.slots_rd (i := 0) hE0) (by omega))) (ltn rfl) ?_
      rintro u w10 H10
      have H21 := H10.rot
      have hS10 : (fun W => W.heap[p]? = some (.cells (ringCells s h E.length place) 155 (0, 0))) w10 := H21.get.2
      refine keepS hS10 ?_
      refine wd_takeT 12 rfl (by kernel_rfl) (by kernel_rfl) hS10 (fun _ => r_index_arr Tryz.underlying153 Tryz.sizeOf22 rfl rfl (by omega)) (ltn rfl) ?_
      refine wd_eff0 13 rfl (by kernel_rfl) (e_store H21 Tryz.sizeOf22 rfl rfl H10.row_rd.one (by rw [ring_size hs]; omega)) ?_
      rintro _ w11 H22
      rw [show (1 + ((h : Int)).toNat * 1) = 1 + h from by omega, ring_set_slot hs hh] at H22
      have hs' : (s.set h u).length = 60 := by simp [hs]
      have ho' := set_one ho (u := u) (i := h) H10.row_rd.one
      refine keepE (by kernel_rfl) ?_
      refine wd_done (by kernel_rfl) ?_
      refine wq_block_normal ?_
      refine wq_seq ?_
      refine wc_seq ?_
      refine wc_region ?_
      refine wl_val (r_move rfl) (ltn rfl) ?_
      refine wl_val (r_nil rfl) (ltn rfl) ?_
      refine wl_val (r_fieldA 63 Tryz.underlying155 rfl rfl Tryz.sizeOf3 (by decide) rfl (by first | exact Nat.zero_add _ | rfl)) (ltn rfl) ?_
      refine wl_eff0 (e_store H22 Tryz.sizeOf3 rfl rfl rfl (by rw [ring_size hs']; decide)) ?_
      rintro _ w12 H23
      rw [show (Value.int .i64 0) = .int .i64 ((0 : Nat) : Int) from rfl, ring_set_place hs'] at H23
      have H24 := H23.swap.freezeI
      refine wl_nil ?_
      refine wq_seq ?_
      refine wc_seq ?_
      refine wc_region ?_
      refine wl_val (r_assign rfl) (ltn rfl) ?_
      refine wl_nil ?_
      refine wq_seq ?_
      refine wc_ret ?_
      refine wq_end1 (.inl rfl) Tryz.results116 rfl ?_
      refine ⟨rfl, Holds.mk_ring hs' hh (by rw [tail_cons_len hE0]; omega) (.inr rfl) ?_ ho' ?_⟩
      · intro e he
        rcases List.mem_cons.1 he with rfl | he
        · first | (rw [if_pos hw1, List.length_append]; omega) | (rw [if_neg (by omega), List.length_append]; omega)
        · exact hm e (List.mem_of_mem_tail he)
      · rw [tail_cons_len hE0]
        first | rw [if_pos hw1] | rw [if_neg (by omega)]
        exact (H24.r4.swap.ent (know_two (fun I a b => slots_first hs hh hE hE0 b a) _)).rot.right.swap
end
end Go.Proofs.YtgmpclifphbjkaaGreatDoor
end
