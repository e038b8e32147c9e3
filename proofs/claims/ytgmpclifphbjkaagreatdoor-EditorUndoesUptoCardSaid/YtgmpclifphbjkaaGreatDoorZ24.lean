import Derived.Test.YtgmpclifphbjkaaGreatDoorZ23
/- Texts of mine, joined: EdS2. -/
section
/- Editors: Kills, the lines that stand elsewhere, how many groups can be taken back. -/
set_option linter.unusedSimpArgs false
set_option linter.unusedVariables false
namespace Go.Proofs.YtgmpclifphbjkaaGreatDoor
open Go.RowKit
theorem ptrO_isSome {D : List Int} {P : Int → Nat} {k : Int} (h : (ptrO D P k).isSome = true) : k ∈ D := by
  unfold ptrO at h
  split at h
  · assumption
  · cases h
theorem ptrO_notSome {D : List Int} {P : Int → Nat} {k : Int} (h : (ptrO D P k).isSome = false) : k ∉ D := by
  unfold ptrO at h
  split at h
  · cases h
  · assumption
def svEnc (x : Int × ByteArray) : List Value := [.int .i64 x.1, .string x.2]
theorem savedTo_yes {hl : List HLn} {tx : Int → Option ByteArray} {place : Int} {i : Nat} (h : savedAt hl tx place i = true) : savedTo hl tx place (i + 1) = savedTo hl tx place i ++ [((i : Int), standsOf hl tx i)] := by
  unfold savedTo; rw [List.range_succ, List.filter_append, List.map_append]; simp [List.filter, h]
theorem savedTo_no {hl : List HLn} {tx : Int → Option ByteArray} {place : Int} {i : Nat} (h : savedAt hl tx place i = false) : savedTo hl tx place (i + 1) = savedTo hl tx place i := by
  unfold savedTo; rw [List.range_succ, List.filter_append, List.map_append]; simp [List.filter, h]
theorem savedTo_len (hl : List HLn) (tx : Int → Option ByteArray) (place : Int) (i : Nat) : (savedTo hl tx place i).length ≤ i := by
  unfold savedTo; rw [List.length_map]
  exact Nat.le_trans (List.length_filter_le _ _) (by simp)
def killsOf (E : List (List Int)) (a : Nat) : List (List Int) := E.drop a ++ E.take a
def rotP (n a i : Nat) : Nat := if i = 0 then a else (a + (i - 1)) % n
theorem rotP_succ {n a i : Nat} : rotM n (rotP n a i) (min (i : Int) 1) = rotP n a (i + 1) := by
  cases i with
  | zero =>
    show (((a : Int) + min ((0 : Nat) : Int) 1) % (n : Int)).toNat = (a + (0 + 1 - 1)) % n
    rw [show min ((0 : Nat) : Int) 1 = 0 by omega, Int.add_zero, show ((a : Int) % (n : Int)) = ((a % n : Nat) : Int) from rfl, Int.toNat_natCast]
    rfl
  | succ j =>
    show (((((a + (j + 1 - 1)) % n : Nat) : Int) + min ((j + 1 : Nat) : Int) 1) % (n : Int)).toNat = (a + (j + 1 + 1 - 1)) % n
    rw [show min ((j + 1 : Nat) : Int) 1 = ((1 : Nat) : Int) by omega, show ((((a + (j + 1 - 1)) % n : Nat) : Int) + ((1 : Nat) : Int)) % (n : Int) = ((((a + (j + 1 - 1)) % n + 1) % n : Nat) : Int) from rfl, Int.toNat_natCast, Nat.mod_add_mod]
    congr 1
theorem kills_get {E : List (List Int)} {a i : Nat} (h : i < E.length) (ha : a < E.length) : (killsOf E a).getD i [] = E.getD (rotP E.length a (i + 1)) [] := by
  unfold killsOf rotP
  rw [if_neg (by omega), Nat.add_sub_cancel, List.getD_eq_getElem?_getD, List.getD_eq_getElem?_getD]
  by_cases hi : i < E.length - a
  · rw [List.getElem?_append_left (by simpa using hi), List.getElem?_drop, Nat.mod_eq_of_lt (by omega)]
  · rw [List.getElem?_append_right (by simpa using hi), List.length_drop, List.getElem?_take, if_pos (by omega)]
    have : (a + i) % E.length = i - (E.length - a) := by
      rw [show a + i = (i - (E.length - a)) + E.length by omega, Nat.add_mod_right, Nat.mod_eq_of_lt (by omega)]
    rw [this]
theorem take_snoc_getD {α : Type _} {l : List α} {k : Nat} {d : α} (h : k < l.length) : l.take (k + 1) = l.take k ++ [l.getD k d] := by rw [List.take_succ_eq_append_getElem h, List.getD_eq_getElem?_getD, List.getElem?_eq_getElem h]; rfl
theorem kills_len (E : List (List Int)) (a : Nat) : (killsOf E a).length = E.length := by unfold killsOf; simp; omega
section
variable {w0 w : World} {F : HP} {e p ph pw pt pr pm pb : Nat} {s : EdS} {k x place : Int} {hl : List HLn} {base most cls : Int} {tx : Int → Option ByteArray} {v pv : Value} {U : Int → List (List EdA)} {put : List EdA} {xs : List Value} {inn run whole : Bool} {E : List (List Int)} {a : Nat} {L : List Int} {pnt mk : Int}
theorem ed_none_raw {x0 x1 x2 x3 x4 x5 x6 x7 x8 x9 x10 x12 x13 x14 x15 x16 x17 x18 x19 x20 x21 x22 x23 x24 x25 x26 x27 x28 x29 x30 x31 x32 x33 : Value} (H : Holds w0 w (blk e (.cells (x0 :: x1 :: x2 :: x3 :: x4 :: x5 :: x6 :: x7 :: x8 :: x9 :: x10 :: .pointer (some ⟨ph, 0, none⟩) :: x12 :: x13 :: x14 :: x15 :: x16 :: x17 :: x18 :: x19 :: x20 :: x21 :: x22 :: x23 :: x24 :: x25 :: x26 :: x27 :: x28 :: x29 :: x30 :: x31 :: x32 :: x33 :: []).toArray 66 (0, 0)) • F)) : Ret Tryz.prog 43 #[.pointer (some ⟨e, 0, none⟩)] w fun v w' => v = .bool false ∧ w = w' := by
  refine ret_enter Tryz.func43 rfl Tryz.ntmps43 (Nat.le_of_ble_eq_true rfl) ?_
  dsimp only [slots0, Nat.reduceAdd]
  refine wc_seq ?_
  refine wc_region ?_
  refine wl_val (r_assign rfl) (ltn rfl) ?_
  refine wl_nil ?_
  refine wq_seq ?_
  refine wc_seq ?_
  refine wc_region ?_
  refine wl_val (r_move rfl) (ltn rfl) ?_
  refine wl_val (r_ptr_nil Tryz.underlying28 rfl rfl) (ltn rfl) ?_
  refine wl_split rfl (ltn rfl) (fun h1 => ?_) (fun h1 => ?_)
  · (try simp only [cmpS] at h1)
    try (exfalso; first | contradiction | omega)
    all_goals
      refine wl_no rfl rfl rfl (ltn rfl) ?_
      refine wl_no rfl rfl rfl (ltn rfl) ?_
      refine wl_no rfl rfl rfl (ltn rfl) ?_
      refine wl_no rfl rfl rfl (ltn rfl) ?_
      refine wl_no rfl rfl rfl (ltn rfl) ?_
      refine wl_val (r_pick_t rfl rfl) (ltn rfl) ?_
      refine wl_val (r_assign rfl) (ltn rfl) ?_
      refine wl_nil ?_
      refine wq_seq ?_
      refine wc_ret ?_
      refine wq_end1 (.inl rfl) Tryz.results43 rfl ?_
      exact ⟨rfl, rfl⟩
  · (try simp only [cmpS] at h1)
    try (exfalso; first | contradiction | omega)
    all_goals
      refine wl_yes rfl rfl ?_
      refine wl_val (r_move rfl) (ltn rfl) ?_
      refine wl_yes rfl rfl ?_
      refine wl_val (r_nil rfl) (ltn rfl) ?_
      refine wl_yes rfl rfl ?_
      refine wl_val (r_fieldA 11 Tryz.underlying66 rfl rfl Tryz.sizeOf24 (by decide) rfl (by first | exact Nat.zero_add _ | rfl)) (ltn rfl) ?_
      refine wl_yes rfl rfl ?_
      refine wl_val (r_load (plain_of Tryz.underlying24 rfl) rfl (cell_of_blk (H).get.2 rfl)) (ltn rfl) ?_
      refine wl_yes rfl rfl ?_
      refine wl_val (r_ptr_nil Tryz.underlying24 rfl rfl) (ltn rfl) ?_
      refine wl_val (r_pick_f rfl rfl) (ltn rfl) ?_
      refine wl_val (r_assign rfl) (ltn rfl) ?_
      refine wl_nil ?_
      refine wq_seq ?_
      refine wc_ret ?_
      refine wq_end1 (.inl rfl) Tryz.results43 rfl ?_
      exact ⟨rfl, rfl⟩
theorem ed_undoes_ret {x0 x1 x4 x5 x6 x7 x8 x9 x11 x12 x13 x14 x15 x17 x18 x19 x20 x21 x22 x23 x24 x25 x26 x27 x29 x30 x31 : Value} (H : Holds w0 w (blk e (.cells (x0 :: x1 :: .pointer (some ⟨pw, 0, none⟩) :: .map (some pm) :: x4 :: x5 :: x6 :: x7 :: x8 :: x9 :: .bool run :: x11 :: x12 :: x13 :: x14 :: x15 :: .bool inn :: x17 :: x18 :: x19 :: x20 :: x21 :: x22 :: x23 :: x24 :: x25 :: x26 :: x27 :: .int .i64 cls :: x29 :: x30 :: x31 :: .bool whole :: pv :: []).toArray 66 (0, 0)) • blk pw (.cells #[.int .i64 k, .map (some pt)] 112 (0, 0)) • UMap pm U • Row 120 3 pv put.length xs • F)) (hU : (U k).length ≤ 16384) :
    Ret Tryz.prog 55 #[.pointer (some ⟨e, 0, none⟩)] w fun v' w' => v' = .int .i64 (undoesOf (U k) inn put (cls == 3 && whole) run) ∧
      Holds w0 w' (blk e (.cells (x0 :: x1 :: .pointer (some ⟨pw, 0, none⟩) :: .map (some pm) :: x4 :: x5 :: x6 :: x7 :: x8 :: x9 :: .bool run :: x11 :: x12 :: x13 :: x14 :: x15 :: .bool inn :: x17 :: x18 :: x19 :: x20 :: x21 :: x22 :: x23 :: x24 :: x25 :: x26 :: x27 :: .int .i64 cls :: x29 :: x30 :: x31 :: .bool whole :: pv :: []).toArray 66 (0, 0)) • blk pw (.cells #[.int .i64 k, .map (some pt)] 112 (0, 0)) • UMap pm U • Row 120 3 pv put.length xs • F) := by
  refine ret_enter Tryz.func55 rfl Tryz.ntmps55 (Nat.le_of_ble_eq_true rfl) ?_
  dsimp only [slots0, Nat.reduceAdd]
  refine wc_seq ?_
  refine wc_region ?_
  refine wl_val (r_assign rfl) (ltn rfl) ?_
  refine wl_nil ?_
  refine wq_seq ?_
  refine wc_seq ?_
  refine wc_region ?_
  refine wl_val (r_assign rfl) (ltn rfl) ?_
  refine wl_nil ?_
  refine wq_seq ?_
  refine wc_join [(0, _)] (fun (_ : Unit) => [(3, .int .i64 ((U k).length : Int))]) (fun (_ : Unit) W => Holds w0 W (blk e (.cells (x0 :: x1 :: .pointer (some ⟨pw, 0, none⟩) :: .map (some pm) :: x4 :: x5 :: x6 :: x7 :: x8 :: x9 :: .bool run :: x11 :: x12 :: x13 :: x14 :: x15 :: .bool inn :: x17 :: x18 :: x19 :: x20 :: x21 :: x22 :: x23 :: x24 :: x25 :: x26 :: x27 :: .int .i64 cls :: x29 :: x30 :: x31 :: .bool whole :: pv :: []).toArray 66 (0, 0)) • blk pw (.cells #[.int .i64 k, .map (some pt)] 112 (0, 0)) • UMap pm U • Row 120 3 pv put.length xs • F)) (Sub.cons rfl (Sub.nil _)) ?_ ?_
  · rintro _ w1 HJ
    dsimp only [List.cons_append, List.nil_append]
    refine wc_seq ?_
    refine wc_seq ?_
    refine wc_region ?_
    refine wl_val (r_move rfl) (ltn rfl) ?_
    refine wl_val (r_nil rfl) (ltn rfl) ?_
    refine wl_val (r_fieldA 16 Tryz.underlying66 rfl rfl Tryz.sizeOf4 (by decide) rfl (by first | exact Nat.zero_add _ | rfl)) (ltn rfl) ?_
    refine wl_val (r_load (plain_of Tryz.underlying4 rfl) rfl (cell_of_blk (HJ).get.2 rfl)) (ltn rfl) ?_
    refine wl_split rfl (ltn rfl) (fun h1 => ?_) (fun h1 => ?_)
    · (try simp only [cmpS] at h1)
      have hin := h1
      refine wl_yes rfl rfl ?_
      refine wl_val (r_move rfl) (ltn rfl) ?_
      refine wl_yes rfl rfl ?_
      refine wl_val (r_nil rfl) (ltn rfl) ?_
      refine wl_yes rfl rfl ?_
      refine wl_val (r_fieldA 33 Tryz.underlying66 rfl rfl Tryz.sizeOf64 (by decide) rfl (by first | exact Nat.zero_add _ | rfl)) (ltn rfl) ?_
      refine wl_yes rfl rfl ?_
      refine wl_val (r_load (plain_of Tryz.underlying64 rfl) rfl (cell_of_blk (HJ).get.2 rfl)) (ltn rfl) ?_
      refine wl_yes rfl rfl ?_
      refine wl_val (r_lenS ((HJ.f4).row_rd) Tryz.underlying64 rfl) (ltn rfl) ?_
      refine wl_yes rfl rfl ?_
      refine wl_val (r_gtr rfl rfl) (ltn rfl) ?_
      refine wl_val (r_pick_t rfl rfl) (ltn rfl) ?_
      refine wl_split rfl (ltn rfl) (fun h2 => ?_) (fun h2 => ?_)
      · (try simp only [cmpS] at h2)
        have hno : put.isEmpty = false := by rw [put_empty]; exact decide_eq_false (by omega)
        refine wl_yes rfl rfl ?_
        refine wl_val (r_move rfl) (ltn rfl) ?_
        refine wl_yes rfl rfl ?_
        refine wl_val (r_nil rfl) (ltn rfl) ?_
        refine wl_yes rfl rfl ?_
        refine wl_val (r_fieldA 28 Tryz.underlying66 rfl rfl Tryz.sizeOf3 (by decide) rfl (by first | exact Nat.zero_add _ | rfl)) (ltn rfl) ?_
        refine wl_yes rfl rfl ?_
        refine wl_val (r_load (plain_of Tryz.underlying3 rfl) rfl (cell_of_blk (HJ).get.2 rfl)) (ltn rfl) ?_
        refine wl_yes rfl rfl ?_
        refine wl_val (r_eql rfl rfl) (ltn rfl) ?_
        refine wl_yes rfl rfl ?_
        refine wl_split rfl (ltn rfl) (fun h3 => ?_) (fun h3 => ?_)
        · (try simp only [cmpS] at h3)
          have hcl := h3
          refine wl_yes rfl rfl ?_
          refine wl_val (r_move rfl) (ltn rfl) ?_
          refine wl_yes rfl rfl ?_
          refine wl_val (r_nil rfl) (ltn rfl) ?_
          refine wl_yes rfl rfl ?_
          refine wl_val (r_fieldA 32 Tryz.underlying66 rfl rfl Tryz.sizeOf4 (by decide) rfl (by first | exact Nat.zero_add _ | rfl)) (ltn rfl) ?_
          refine wl_yes rfl rfl ?_
          refine wl_val (r_load (plain_of Tryz.underlying4 rfl) rfl (cell_of_blk (HJ).get.2 rfl)) (ltn rfl) ?_
          refine wl_yes rfl rfl ?_
          refine wl_val (r_pick_t rfl rfl) (ltn rfl) ?_
          refine wl_yes rfl rfl ?_
          refine wl_split rfl (ltn rfl) (fun h4 => ?_) (fun h4 => ?_)
          · (try simp only [cmpS] at h4)
            have hwh := h4
            refine wl_yes rfl rfl ?_
            refine wl_val (r_move rfl) (ltn rfl) ?_
            refine wl_yes rfl rfl ?_
            refine wl_val (r_nil rfl) (ltn rfl) ?_
            refine wl_yes rfl rfl ?_
            refine wl_val (r_fieldA 0 Tryz.underlying66 rfl rfl Tryz.sizeOf62 (by decide) rfl (by first | exact Nat.zero_add _ | rfl)) (ltn rfl) ?_
            refine wl_yes rfl rfl ?_
            refine wl_val (r_fieldA 10 Tryz.underlying62 rfl rfl Tryz.sizeOf4 (by decide) rfl (by first | exact Nat.zero_add _ | rfl)) (ltn rfl) ?_
            refine wl_yes rfl rfl ?_
            refine wl_val (r_load (plain_of Tryz.underlying4 rfl) rfl (cell_of_blk (HJ).get.2 rfl)) (ltn rfl) ?_
            refine wl_yes rfl rfl ?_
            refine wl_val (r_pick_t rfl rfl) (ltn rfl) ?_
            refine wl_yes rfl rfl ?_
            refine wl_val (r_not rfl) (ltn rfl) ?_
            refine wl_val (r_pick_t rfl rfl) (ltn rfl) ?_
            refine wl_nil ?_
            refine wq_seq ?_
            refine wc_cond rfl (fun h5 => ?_) (fun h5 => ?_)
            · (try simp only [cmpS] at h5)
              have hrn := h5
              refine wc_region ?_
              refine wl_val (r_move rfl) (ltn rfl) ?_
              refine wl_val (r_add rfl rfl (by omega)) (ltn rfl) ?_
              refine wl_val (r_assign rfl) (ltn rfl) ?_
              refine wl_nil ?_
              refine wq_seq ?_
              refine wc_seq ?_
              refine wc_region ?_
              refine wl_val (r_move rfl) (ltn rfl) ?_
              refine wl_val (r_assign rfl) (ltn rfl) ?_
              refine wl_nil ?_
              refine wq_seq ?_
              refine wc_ret ?_
              refine wq_end1 (.inl rfl) Tryz.results55 rfl ?_
              refine ⟨?_, HJ.f4.f4.f4.f4⟩
              congr 1
              unfold undoesOf
              first
                | exact absurd hrn (by decide)
                | (simp [hin]; done)
                | (simp [hin, hno]; done)
                | (simp [hin, hno, hcl]; done)
                | (simp [hin, hno, hcl, hwh]; done)
                | (simp [hin, hno, hcl, hwh, hrn]; done)
            · (try simp only [cmpS] at h5)
              have hrn := h5
              refine wc_skip ?_
              refine wq_seq ?_
              refine wc_seq ?_
              refine wc_region ?_
              refine wl_val (r_move rfl) (ltn rfl) ?_
              refine wl_val (r_assign rfl) (ltn rfl) ?_
              refine wl_nil ?_
              refine wq_seq ?_
              refine wc_ret ?_
              refine wq_end1 (.inl rfl) Tryz.results55 rfl ?_
              refine ⟨?_, HJ.f4.f4.f4.f4⟩
              congr 1
              unfold undoesOf
              first
                | exact absurd hrn (by decide)
                | (simp [hin]; done)
                | (simp [hin, hno]; done)
                | (simp [hin, hno, hcl]; done)
                | (simp [hin, hno, hcl, hwh]; done)
                | (simp [hin, hno, hcl, hwh, hrn]; done)
          · (try simp only [cmpS] at h4)
            have hwh := h4
            refine wl_no rfl rfl rfl (ltn rfl) ?_
            refine wl_no rfl rfl rfl (ltn rfl) ?_
            refine wl_no rfl rfl rfl (ltn rfl) ?_
            refine wl_no rfl rfl rfl (ltn rfl) ?_
            refine wl_no rfl rfl rfl (ltn rfl) ?_
            refine wl_yes rfl rfl ?_
            refine wl_val (r_pick_f rfl rfl) (ltn rfl) ?_
            refine wl_yes rfl rfl ?_
            refine wl_val (r_not rfl) (ltn rfl) ?_
            refine wl_val (r_pick_t rfl rfl) (ltn rfl) ?_
            refine wl_nil ?_
            refine wq_seq ?_
            refine wc_cond rfl (fun h6 => ?_) (fun h6 => ?_)
            · (try simp only [cmpS] at h6)
              have hrn := h6
              refine wc_region ?_
              refine wl_val (r_move rfl) (ltn rfl) ?_
              refine wl_val (r_add rfl rfl (by omega)) (ltn rfl) ?_
              refine wl_val (r_assign rfl) (ltn rfl) ?_
              refine wl_nil ?_
              refine wq_seq ?_
              refine wc_seq ?_
              refine wc_region ?_
              refine wl_val (r_move rfl) (ltn rfl) ?_
              refine wl_val (r_assign rfl) (ltn rfl) ?_
              refine wl_nil ?_
              refine wq_seq ?_
              refine wc_ret ?_
              refine wq_end1 (.inl rfl) Tryz.results55 rfl ?_
              refine ⟨?_, HJ.f4.f4.f4.f4⟩
              congr 1
              unfold undoesOf
              first
                | exact absurd hrn (by decide)
                | (simp [hin]; done)
                | (simp [hin, hno]; done)
                | (simp [hin, hno, hcl]; done)
                | (simp [hin, hno, hcl, hwh]; done)
                | (simp [hin, hno, hcl, hwh, hrn]; done)
            · (try simp only [cmpS] at h6)
              have hrn := h6
              refine wc_skip ?_
              refine wq_seq ?_
              refine wc_seq ?_
              refine wc_region ?_
              refine wl_val (r_move rfl) (ltn rfl) ?_
              refine wl_val (r_assign rfl) (ltn rfl) ?_
              refine wl_nil ?_
              refine wq_seq ?_
              refine wc_ret ?_
              refine wq_end1 (.inl rfl) Tryz.results55 rfl ?_
              refine ⟨?_, HJ.f4.f4.f4.f4⟩
              congr 1
              unfold undoesOf
              first
                | exact absurd hrn (by decide)
                | (simp [hin]; done)
                | (simp [hin, hno]; done)
                | (simp [hin, hno, hcl]; done)
                | (simp [hin, hno, hcl, hwh]; done)
                | (simp [hin, hno, hcl, hwh, hrn]; done)
        · (try simp only [cmpS] at h3)
          have hcl := h3
          refine wl_no rfl rfl rfl (ltn rfl) ?_
          refine wl_no rfl rfl rfl (ltn rfl) ?_
          refine wl_no rfl rfl rfl (ltn rfl) ?_
          refine wl_no rfl rfl rfl (ltn rfl) ?_
          refine wl_yes rfl rfl ?_
          refine wl_val (r_pick_f rfl rfl) (ltn rfl) ?_
          refine wl_yes rfl rfl ?_
          refine wl_val (r_move rfl) (ltn rfl) ?_
          refine wl_no rfl rfl rfl (ltn rfl) ?_
          refine wl_no rfl rfl rfl (ltn rfl) ?_
          refine wl_no rfl rfl rfl (ltn rfl) ?_
          refine wl_no rfl rfl rfl (ltn rfl) ?_
          refine wl_no rfl rfl rfl (ltn rfl) ?_
          refine wl_yes rfl rfl ?_
          refine wl_val (r_pick_f rfl rfl) (ltn rfl) ?_
          refine wl_yes rfl rfl ?_
          refine wl_val (r_not rfl) (ltn rfl) ?_
          refine wl_val (r_pick_t rfl rfl) (ltn rfl) ?_
          refine wl_nil ?_
          refine wq_seq ?_
          refine wc_cond rfl (fun h7 => ?_) (fun h7 => ?_)
          · (try simp only [cmpS] at h7)
            have hrn := h7
            refine wc_region ?_
            refine wl_val (r_move rfl) (ltn rfl) ?_
            refine wl_val (r_add rfl rfl (by omega)) (ltn rfl) ?_
            refine wl_val (r_assign rfl) (ltn rfl) ?_
            refine wl_nil ?_
            refine wq_seq ?_
            refine wc_seq ?_
            refine wc_region ?_
            refine wl_val (r_move rfl) (ltn rfl) ?_
            refine wl_val (r_assign rfl) (ltn rfl) ?_
            refine wl_nil ?_
            refine wq_seq ?_
            refine wc_ret ?_
            refine wq_end1 (.inl rfl) Tryz.results55 rfl ?_
            refine ⟨?_, HJ.f4.f4.f4.f4⟩
            congr 1
            unfold undoesOf
            first
              | exact absurd hrn (by decide)
              | (simp [hin]; done)
              | (simp [hin, hno]; done)
              | (simp [hin, hno, hcl]; done)
              | (simp [hin, hno, hcl, hwh]; done)
              | (simp [hin, hno, hcl, hwh, hrn]; done)
          · (try simp only [cmpS] at h7)
            have hrn := h7
            refine wc_skip ?_
            refine wq_seq ?_
            refine wc_seq ?_
            refine wc_region ?_
            refine wl_val (r_move rfl) (ltn rfl) ?_
            refine wl_val (r_assign rfl) (ltn rfl) ?_
            refine wl_nil ?_
            refine wq_seq ?_
            refine wc_ret ?_
            refine wq_end1 (.inl rfl) Tryz.results55 rfl ?_
            refine ⟨?_, HJ.f4.f4.f4.f4⟩
            congr 1
            unfold undoesOf
            first
              | exact absurd hrn (by decide)
              | (simp [hin]; done)
              | (simp [hin, hno]; done)
              | (simp [hin, hno, hcl]; done)
              | (simp [hin, hno, hcl, hwh]; done)
              | (simp [hin, hno, hcl, hwh, hrn]; done)
      · (try simp only [cmpS] at h2)
        have hno : put.isEmpty = true := by rw [put_empty]; exact decide_eq_true (by omega)
        refine wl_no rfl rfl rfl (ltn rfl) ?_
        refine wl_no rfl rfl rfl (ltn rfl) ?_
        refine wl_no rfl rfl rfl (ltn rfl) ?_
        refine wl_no rfl rfl rfl (ltn rfl) ?_
        refine wl_no rfl rfl rfl (ltn rfl) ?_
        refine wl_no rfl rfl rfl (ltn rfl) ?_
        refine wl_nou rfl rfl (ltn rfl) ?_
        refine wl_nou rfl rfl (ltn rfl) ?_
        refine wl_nou rfl rfl (ltn rfl) ?_
        refine wl_nou rfl rfl (ltn rfl) ?_
        refine wl_no rfl rfl rfl (ltn rfl) ?_
        refine wl_no rfl rfl rfl (ltn rfl) ?_
        refine wl_nou rfl rfl (ltn rfl) ?_
        refine wl_nou rfl rfl (ltn rfl) ?_
        refine wl_nou rfl rfl (ltn rfl) ?_
        refine wl_nou rfl rfl (ltn rfl) ?_
        refine wl_nou rfl rfl (ltn rfl) ?_
        refine wl_no rfl rfl rfl (ltn rfl) ?_
        refine wl_no rfl rfl rfl (ltn rfl) ?_
        refine wl_val (r_pick_f rfl rfl) (ltn rfl) ?_
        refine wl_nil ?_
        refine wq_seq ?_
        refine wc_cond_f rfl ?_
        refine wc_skip ?_
        refine wq_seq ?_
        refine wc_seq ?_
        refine wc_region ?_
        refine wl_val (r_move rfl) (ltn rfl) ?_
        refine wl_val (r_assign rfl) (ltn rfl) ?_
        refine wl_nil ?_
        refine wq_seq ?_
        refine wc_ret ?_
        refine wq_end1 (.inl rfl) Tryz.results55 rfl ?_
        refine ⟨?_, HJ.f4.f4.f4.f4⟩
        congr 1
        unfold undoesOf
        first
          | exact absurd hrn (by decide)
          | (simp [hin]; done)
          | (simp [hin, hno]; done)
          | (simp [hin, hno, hcl]; done)
          | (simp [hin, hno, hcl, hwh]; done)
          | (simp [hin, hno, hcl, hwh, hrn]; done)
    · (try simp only [cmpS] at h1)
      have hin := h1
      refine wl_no rfl rfl rfl (ltn rfl) ?_
      refine wl_no rfl rfl rfl (ltn rfl) ?_
      refine wl_no rfl rfl rfl (ltn rfl) ?_
      refine wl_no rfl rfl rfl (ltn rfl) ?_
      refine wl_no rfl rfl rfl (ltn rfl) ?_
      refine wl_no rfl rfl rfl (ltn rfl) ?_
      refine wl_val (r_pick_f rfl rfl) (ltn rfl) ?_
      refine wl_val (r_move rfl) (ltn rfl) ?_
      refine wl_no rfl rfl rfl (ltn rfl) ?_
      refine wl_no rfl rfl rfl (ltn rfl) ?_
      refine wl_no rfl rfl rfl (ltn rfl) ?_
      refine wl_no rfl rfl rfl (ltn rfl) ?_
      refine wl_no rfl rfl rfl (ltn rfl) ?_
      refine wl_no rfl rfl rfl (ltn rfl) ?_
      refine wl_nou rfl rfl (ltn rfl) ?_
      refine wl_nou rfl rfl (ltn rfl) ?_
      refine wl_nou rfl rfl (ltn rfl) ?_
      refine wl_nou rfl rfl (ltn rfl) ?_
      refine wl_no rfl rfl rfl (ltn rfl) ?_
      refine wl_no rfl rfl rfl (ltn rfl) ?_
      refine wl_nou rfl rfl (ltn rfl) ?_
      refine wl_nou rfl rfl (ltn rfl) ?_
      refine wl_nou rfl rfl (ltn rfl) ?_
      refine wl_nou rfl rfl (ltn rfl) ?_
      refine wl_nou rfl rfl (ltn rfl) ?_
      refine wl_no rfl rfl rfl (ltn rfl) ?_
      refine wl_no rfl rfl rfl (ltn rfl) ?_
      refine wl_val (r_pick_f rfl rfl) (ltn rfl) ?_
      refine wl_nil ?_
      refine wq_seq ?_
      refine wc_cond_f rfl ?_
      refine wc_skip ?_
      refine wq_seq ?_
      refine wc_seq ?_
      refine wc_region ?_
      refine wl_val (r_move rfl) (ltn rfl) ?_
      refine wl_val (r_assign rfl) (ltn rfl) ?_
      refine wl_nil ?_
      refine wq_seq ?_
      refine wc_ret ?_
      refine wq_end1 (.inl rfl) Tryz.results55 rfl ?_
      refine ⟨?_, HJ.f4.f4.f4.f4⟩
      congr 1
      unfold undoesOf
      first
        | exact absurd hrn (by decide)
        | (simp [hin]; done)
        | (simp [hin, hno]; done)
        | (simp [hin, hno, hcl]; done)
        | (simp [hin, hno, hcl, hwh]; done)
        | (simp [hin, hno, hcl, hwh, hrn]; done)
  · skip
    refine wc_seq ?_
    obtain ⟨D, P, hD1, hD2, HU⟩ := (H.f3).umap
    have H2d1 := HU.drew
    have hS2d1 := Holds.kp (H2d1.f5.f5.f5.f5.f5)
    refine wd_beginK [4, 9, 12, 13] hS2d1 (by kernel_rfl) (by kernel_rfl) rfl ?_
    refine wd_takeT 0 rfl (by kernel_rfl) (by kernel_rfl) hS2d1 (fun _ => r_move rfl) (ltn rfl) ?_
    refine wd_takeT 1 rfl (by kernel_rfl) (by kernel_rfl) hS2d1 (fun _ => r_nil rfl) (ltn rfl) ?_
    refine wd_takeT 2 rfl (by kernel_rfl) (by kernel_rfl) hS2d1 (fun _ => r_fieldA 0 Tryz.underlying66 rfl rfl Tryz.sizeOf62 (by decide) rfl (by first | exact Nat.zero_add _ | rfl)) (ltn rfl) ?_
    refine wd_takeT 3 rfl (by kernel_rfl) (by kernel_rfl) hS2d1 (fun _ => r_fieldA 3 Tryz.underlying62 rfl rfl Tryz.sizeOf60 (by decide) rfl (by first | exact Nat.zero_add _ | rfl)) (ltn rfl) ?_
    refine wd_take 4 rfl (by kernel_rfl) (by kernel_rfl) hS2d1 (by decide) (fun W hW => r_load (plain_of Tryz.underlying60 rfl) rfl (cell_of_blk ((Kp.h hW).f3).get.2 rfl)) (ltn rfl) ?_
    refine wd_takeT 5 rfl (by kernel_rfl) (by kernel_rfl) hS2d1 (fun _ => r_move rfl) (ltn rfl) ?_
    refine wd_takeT 6 rfl (by kernel_rfl) (by kernel_rfl) hS2d1 (fun _ => r_nil rfl) (ltn rfl) ?_
    refine wd_takeT 7 rfl (by kernel_rfl) (by kernel_rfl) hS2d1 (fun _ => r_fieldA 0 Tryz.underlying66 rfl rfl Tryz.sizeOf62 (by decide) rfl (by first | exact Nat.zero_add _ | rfl)) (ltn rfl) ?_
    refine wd_takeT 8 rfl (by kernel_rfl) (by kernel_rfl) hS2d1 (fun _ => r_fieldA 2 Tryz.underlying62 rfl rfl Tryz.sizeOf59 (by decide) rfl (by first | exact Nat.zero_add _ | rfl)) (ltn rfl) ?_
    refine wd_take 9 rfl (by kernel_rfl) (by kernel_rfl) hS2d1 (by decide) (fun W hW => r_load (plain_of Tryz.underlying59 rfl) rfl (cell_of_blk ((Kp.h hW).f3).get.2 rfl)) (ltn rfl) ?_
    refine wd_takeT 10 rfl (by kernel_rfl) (by kernel_rfl) hS2d1 (fun _ => r_nil rfl) (ltn rfl) ?_
    refine wd_takeT 11 rfl (by kernel_rfl) (by kernel_rfl) hS2d1 (fun _ => r_fieldA 0 Tryz.underlying112 rfl rfl Tryz.sizeOf3 (by decide) rfl (by first | exact Nat.zero_add _ | rfl)) (ltn rfl) ?_
    refine wd_take 12 rfl (by kernel_rfl) (by kernel_rfl) hS2d1 (by decide) (fun W hW => r_load (plain_of Tryz.underlying3 rfl) rfl (cell_of_blk ((Kp.h hW).f4).get.2 rfl)) (ltn rfl) ?_
    refine wd_take 13 rfl (by kernel_rfl) (by kernel_rfl) hS2d1 (by decide) (fun W hW => r_as (r_lookup ((Kp.h hW)) Tryz.underlying60 Tryz.underlying3 Tryz.zeroValue116 rfl rfl) (upP_get D P k)) (ltn rfl) ?_
    refine wd_takeT 14 rfl (by kernel_rfl) (by kernel_rfl) hS2d1 (fun _ => r_assign rfl) (ltn rfl) ?_
    refine wd_done (by kernel_rfl) ?_
    refine wq_seq ?_
    refine wc_seq ?_
    refine wc_region ?_
    refine wl_val (r_move rfl) (ltn rfl) ?_
    refine wl_val (r_ptr_nnil Tryz.underlying116 rfl rfl) (ltn rfl) ?_
    refine wl_nil ?_
    refine wq_seq ?_
    refine wc_cond rfl (fun h8 => ?_) (fun h8 => ?_)
    · (try simp only [cmpS] at h8)
      have hmem := ptrO_isSome h8
      rw [ptrO_pos hmem]
      have HF := H2d1.f2
      rw [ULs_focus hmem] at HF
      have HF2 := HF.flat
      refine wc_region ?_
      refine wl_val (r_move rfl) (ltn rfl) ?_
      refine wl_eff (e_call (r_call rfl Tryz.func60 rfl rfl) (undo_len_ret HF2)) (ltn rfl) ?_
      rintro _ w2 ⟨rfl, H2⟩
      have Ho3 := H2.f2.f2
      have Hc4 := Holds.of_eq Ho3 (by rw [← sep_assoc, ← ULs_focus hmem])
      have Ho5 := Hc4.f2
      have Hc6 := Holds.mk_umap hD1 hD2 Ho5
      refine wl_val (r_assign rfl) (ltn rfl) ?_
      refine wl_nil ?_
      refine wq_join (()) ?_ ?_ ?_
      · exact (Sub.cons' rfl (by first | (rw [hD2 _ hnm]; rfl) | (simp; done)) (Sub.nil _))
      · exact (Sub.cons rfl (Sub.nil _))
      · (try dsimp only)
        first | done | exact Hc6.f4.f2.f4.f4
    · (try simp only [cmpS] at h8)
      have hnm := ptrO_notSome h8
      have Ho7 := H2d1.f2.f2
      have Hc8 := Holds.mk_umap hD1 hD2 Ho7
      refine wc_skip ?_
      refine wq_join (()) ?_ ?_ ?_
      · exact (Sub.cons' rfl (by first | (rw [hD2 _ hnm]; rfl) | (simp; done)) (Sub.nil _))
      · exact (Sub.cons rfl (Sub.nil _))
      · (try dsimp only)
        first | done | exact Hc8.f4.f2.f4.f4
theorem ed_kills_raw {x0 x2 x3 x4 x5 x6 x7 x8 x9 x10 x12 x13 x14 x15 x16 x17 x18 x19 x20 x21 x22 x23 x24 x25 x26 x27 x28 x29 x30 x31 x32 x33 : Value} (H : Holds w0 w (blk e (.cells (x0 :: .pointer (some ⟨pr, 0, none⟩) :: x2 :: x3 :: x4 :: x5 :: x6 :: x7 :: x8 :: x9 :: x10 :: .pointer (some ⟨ph, 0, none⟩) :: x12 :: x13 :: x14 :: x15 :: x16 :: x17 :: x18 :: x19 :: x20 :: x21 :: x22 :: x23 :: x24 :: x25 :: x26 :: x27 :: x28 :: x29 :: x30 :: x31 :: x32 :: x33 :: []).toArray 66 (0, 0)) • RingRep pr E a • F)) : Ret Tryz.prog 32 #[.pointer (some ⟨e, 0, none⟩)] w fun v' w' =>
    ∃ us, Holds w0 w' (Row 22 1 v' E.length us • Owns 21 .i32 us (killsOf E a) • blk e (.cells (x0 :: .pointer (some ⟨pr, 0, none⟩) :: x2 :: x3 :: x4 :: x5 :: x6 :: x7 :: x8 :: x9 :: x10 :: .pointer (some ⟨ph, 0, none⟩) :: x12 :: x13 :: x14 :: x15 :: x16 :: x17 :: x18 :: x19 :: x20 :: x21 :: x22 :: x23 :: x24 :: x25 :: x26 :: x27 :: x28 :: x29 :: x30 :: x31 :: x32 :: x33 :: []).toArray 66 (0, 0)) • RingRep pr E a • F) := by
  obtain ⟨hE1, hE2, hE3⟩ := ring_facts H.swap
  refine ret_enter Tryz.func32 rfl Tryz.ntmps32 (Nat.le_of_ble_eq_true rfl) ?_
  dsimp only [slots0, Nat.reduceAdd]
  refine wc_seq ?_
  refine wc_region ?_
  refine wl_val (r_assign rfl) (ltn rfl) ?_
  refine wl_nil ?_
  refine wq_seq ?_
  refine wc_seq ?_
  refine wc_seq ?_
  refine wc_region ?_
  refine wl_val (r_move rfl) (ltn rfl) ?_
  refine wl_eff (e_call (r_call rfl Tryz.func43 rfl rfl) (ed_none_raw H)) (ltn rfl) ?_
  rintro _ _ ⟨rfl, rfl⟩
  refine wl_nil ?_
  refine wq_seq ?_
  refine wc_cond_f rfl ?_
  refine wc_skip ?_
  refine wq_seq ?_
  refine wc_seq ?_
  refine wc_region ?_
  refine wl_val (r_assign rfl) (ltn rfl) ?_
  refine wl_nil ?_
  refine wq_seq ?_
  refine wc_seq ?_
  refine wc_region ?_
  refine wl_val (r_move rfl) (ltn rfl) ?_
  refine wl_val (r_nil rfl) (ltn rfl) ?_
  refine wl_val (r_fieldA 0 Tryz.underlying66 rfl rfl Tryz.sizeOf62 (by decide) rfl (by first | exact Nat.zero_add _ | rfl)) (ltn rfl) ?_
  refine wl_val (r_fieldA 1 Tryz.underlying62 rfl rfl Tryz.sizeOf58 (by decide) rfl (by first | exact Nat.zero_add _ | rfl)) (ltn rfl) ?_
  refine wl_val (r_load (plain_of Tryz.underlying58 rfl) rfl (cell_of_blk (H).get.2 rfl)) (ltn rfl) ?_
  refine wl_eff (e_call (r_call rfl Tryz.func72 rfl rfl) (ring_clone_ret H.f2)) (ltn rfl) ?_
  rintro _ w2 ⟨pc2, rfl, H2⟩
  refine wl_val (r_assign rfl) (ltn rfl) ?_
  refine wl_nil ?_
  refine wq_seq ?_
  refine wc_seq ?_
  refine wc_seq ?_
  refine wc_region ?_
  refine wl_val (r_move rfl) (ltn rfl) ?_
  refine wl_eff (e_call (r_call rfl Tryz.func80 rfl rfl) (ring_len_ret H2)) (ltn rfl) ?_
  rintro _ _ ⟨rfl, rfl⟩
  refine wl_val (r_move rfl) (ltn rfl) ?_
  refine wl_nil ?_
  refine wq_seq ?_
  refine wc_block ?_
  obtain ⟨R4, hR4, HR4⟩ := Holds.hide1 (H2)
  refine wc_loop [(4, _), (17, _)] (fun (⟨i, u⟩ : Nat × Value) => [(3, u), (18, .int .i64 (i : Int))]) (fun (⟨i, u⟩ : Nat × Value) W => i ≤ E.length ∧ ∃ us, Holds w0 W (Row 22 1 u i us • Owns 21 .i32 us ((killsOf E a).take i) • RingRep pc2 E (rotP E.length a i) • R4)) (fun (⟨i, u⟩ : Nat × Value) => E.length - i) ((0, .slice none 0 0)) (Sub.cons rfl (Sub.cons rfl (Sub.nil _))) (Sub.cons rfl (Sub.cons rfl (Sub.nil _))) ⟨by omega, [], HR4.owns_nil.row_nil none⟩ ?_
  rintro ⟨i, u⟩ w5 ⟨hi, us, HL⟩
  dsimp only [List.cons_append, List.nil_append]
  refine wc_seq ?_
  refine wc_region ?_
  refine wl_val (r_lss rfl rfl) (ltn rfl) ?_
  refine wl_nil ?_
  refine wq_seq ?_
  refine wc_seq ?_
  refine wc_cond rfl (fun h1 => ?_) (fun h1 => ?_)
  · (try simp only [cmpS] at h1)
    
    refine wc_skip ?_
    refine wq_seq ?_
    refine wc_seq ?_
    refine wc_block ?_
    refine wc_seq ?_
    refine wc_region ?_
    refine wl_val (r_move rfl) (ltn rfl) ?_
    refine wl_val (r_assign rfl) (ltn rfl) ?_
    refine wl_nil ?_
    refine wq_seq ?_
    refine wc_seq ?_
    refine wc_region ?_
    refine wl_val (r_move rfl) (ltn rfl) ?_
    refine wl_val (r_move rfl) (ltn rfl) ?_
    refine wl_val (r_min rfl rfl) (ltn rfl) ?_
    refine wl_eff (e_call (r_call rfl Tryz.func73 rfl rfl) (ring_rotate_any HL.f3)) (ltn rfl) ?_
    rintro _ w6 ⟨u6, rfl, H6⟩
    have hne : ¬ E.length = 0 := by omega
    have HX := H6
    simp only [if_neg hne] at HX
    refine wl_val (r_move rfl) (ltn rfl) ?_
    refine wl_val (r_extract rfl rfl) (ltn rfl) ?_
    refine wl_val (r_extract rfl rfl) (ltn rfl) ?_
    refine wl_val (r_assign rfl) (ltn rfl) ?_
    refine wl_val (r_assign rfl) (ltn rfl) ?_
    refine wl_nil ?_
    refine wq_seq ?_
    refine wc_region ?_
    refine wl_val (r_move rfl) (ltn rfl) ?_
    refine wl_val (r_move rfl) (ltn rfl) ?_
    refine wl_eff (e_lit_row (vs := [_]) HX Tryz.underlying43 Tryz.sizeOf22 Tryz.zeroValue22 rfl rfl rfl (by decide) (ones_cons (by first | rfl | exact Rd.one ((HX).row_rd)) ones_nil)) (ltn rfl) ?_
    rintro l7 w7 H7
    refine wl_eff (e_append H7.f4 Tryz.underlying43 (show (Tryz.prog.info? 22).map (fun i => (i.zero, i.size, i.bytes)) = some (some (.slice none 0 0), 1, 24) by kernel_rfl) rfl rfl rfl ((H7).row_rd) (ones_cons (by first | rfl | exact Rd.one ((H7.f2).row_rd)) ones_nil) (by omega) (by omega)) (ltn rfl) ?_
    rintro l8 w8 H8
    have Hd9 := H8.f2.right
    refine wl_val (r_assign rfl) (ltn rfl) ?_
    refine wl_nil ?_
    refine wq_block_normal ?_
    refine wq_seq ?_
    refine wc_region ?_
    refine wl_val (r_add rfl rfl (by omega)) (ltn rfl) ?_
    refine wl_val (r_move rfl) (ltn rfl) ?_
    refine wl_nil ?_
    have HS := (Hd9.f3.f2.f3.f4).owns_snoc.f2
    refine wq_round ((i + 1, l8)) ?_ ?_ ?_ ?_
    · exact (Sub.cons rfl (Sub.cons rfl (Sub.nil _)))
    · exact (Sub.cons rfl (Sub.cons rfl (Sub.nil _)))
    · (try dsimp only)
      first | done | exact ⟨by omega, _, by rw [take_snoc_getD (d := []) (by rw [kills_len]; omega), kills_get (by omega) (by omega), ← rotP_succ]; exact HS⟩
    · (try dsimp only); omega
  · (try simp only [cmpS] at h1)
    
    refine wc_exit ?_
    refine wq_then_exit ?_
    obtain rfl : i = E.length := by omega
    have HK := HL
    rw [List.take_of_length_le (by rw [kills_len]; exact Nat.le_refl _)] at HK
    subst hR4
    refine wq_then_exit ?_
    refine wq_block_hit ?_
    refine wq_seq ?_
    refine wc_seq ?_
    refine wc_region ?_
    refine wl_val (r_move rfl) (ltn rfl) ?_
    refine wl_val (r_assign rfl) (ltn rfl) ?_
    refine wl_nil ?_
    refine wq_seq ?_
    refine wc_ret ?_
    refine wq_end1 (.inl rfl) Tryz.results32 rfl ?_
    exact ⟨_, HK.f3.right.f3.f4.f4.f4⟩
end
end Go.Proofs.YtgmpclifphbjkaaGreatDoor
end
