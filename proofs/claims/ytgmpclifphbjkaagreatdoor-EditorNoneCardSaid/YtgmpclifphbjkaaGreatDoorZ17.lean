import Derived.Test.YtgmpclifphbjkaaGreatDoorZ16
import Derived.Test.YtgmpclifphbjkaaGreatDoorZ7
/- Texts of mine, joined: EdU Owns EdS EdS2. -/
section
/- Editors: Undo, Revert. -/
set_option linter.unusedSimpArgs false
set_option linter.unusedVariables false
namespace Go.Proofs.YtgmpclifphbjkaaGreatDoor
open Go.RowKit
section
variable {w0 w : World} {F : HP} {e p : Nat} {s : EdS} {x : Int}
end
end Go.Proofs.YtgmpclifphbjkaaGreatDoor
end
section
/- Many slices of one's own. -/
set_option linter.unusedSimpArgs false
set_option linter.unusedVariables false
namespace Go.Proofs.YtgmpclifphbjkaaGreatDoor
open Go.RowKit
/-- Each of these slices is one's own. -/
def Owns (e : TypeId) (k : IntKind) : List Value → List (List Int) → HP
  | [], [] => emp
  | v :: vs, l :: ls => RowI e k v l • Owns e k vs ls
  | _, _ => fact False
section
variable {w0 w : World} {F : HP} {e : TypeId} {k : IntKind} {v : Value} {l : List Int}
theorem Holds.owns_nil (H : Holds w0 w F) : Holds w0 w (Owns e k [] [] • F) := H.add_emp
theorem owns_snoc : ∀ (vs : List Value) (ls : List (List Int)), (Owns e k vs ls • RowI e k v l) = Owns e k (vs ++ [v]) (ls ++ [l])
  | [], [] => by show (emp • RowI e k v l) = (RowI e k v l • emp); rw [sep_comm]
  | u :: vs, m :: ls => by
    show ((RowI e k u m • Owns e k vs ls) • RowI e k v l) = (RowI e k u m • Owns e k (vs ++ [v]) (ls ++ [l]))
    rw [sep_assoc, owns_snoc vs ls]
  | [], m :: ls => by
    apply HP.ext; funext I h; apply propext
    constructor
    · intro hp; exact absurd ((fact_sep _ _ _ _).1 hp).1 id
    · intro hp
      cases ls with
      | nil => exact absurd (show False by obtain ⟨_, _, _, _, _, hb⟩ := hp; exact hb.1) id
      | cons x y => exact absurd (show False by obtain ⟨_, _, _, _, _, hb⟩ := hp; exact hb.1) id
  | u :: vs, [] => by
    apply HP.ext; funext I h; apply propext
    constructor
    · intro hp; exact absurd ((fact_sep _ _ _ _).1 hp).1 id
    · intro hp
      cases vs with
      | nil => exact absurd (show False by obtain ⟨_, _, _, _, _, hb⟩ := hp; exact hb.1) id
      | cons x y => exact absurd (show False by obtain ⟨_, _, _, _, _, hb⟩ := hp; exact hb.1) id
theorem Holds.owns_snoc {vs : List Value} {ls : List (List Int)} (H : Holds w0 w (Owns e k vs ls • RowI e k v l • F)) : Holds w0 w (Owns e k (vs ++ [v]) (ls ++ [l]) • F) := H.deep.of_eq (by rw [Go.Proofs.YtgmpclifphbjkaaGreatDoor.owns_snoc])
end
end Go.Proofs.YtgmpclifphbjkaaGreatDoor
end
section
/- Editors: what is told of one: Kills, the lines that stand elsewhere, how many groups there are. -/
set_option linter.unusedSimpArgs false
set_option linter.unusedVariables false
namespace Go.Proofs.YtgmpclifphbjkaaGreatDoor
open Go.RowKit
section
variable {w0 w : World} {F : HP} {e p ph pw pt pr pm : Nat} {s : EdS} {k x place : Int} {hl : List HLn} {base most : Int} {tx : Int → Option ByteArray} {v : Value}
theorem hist_at_ret (H : Holds w0 w (HistRep p hl base most • F)) : Ret Tryz.prog 171 #[.pointer (some ⟨p, 0, none⟩), .int .i64 k] w fun v w' =>
    v = .tuple #[.agg #[.string (hlAt hl k).1, .int .i64 (hlAt hl k).2], .bool (decide (0 ≤ k ∧ k < hl.length))] ∧ Holds w0 w' (HistRep p hl base most • F) := by
  have hb : hl.length ≤ 4096 := by obtain ⟨v, h, _⟩ := H.hist; exact h.1
  refine ret_enter Tryz.func171 rfl Tryz.ntmps171 (Nat.le_of_ble_eq_true rfl) ?_
  dsimp only [slots0, Nat.reduceAdd]
  refine wc_seq ?_
  refine wc_region ?_
  refine wl_eff (e_allocL (l := [_, _]) H Tryz.zeroValue152 rfl) (ltn rfl) ?_
  rintro _ w1 ⟨b1, rfl, H1⟩
  refine wl_val (r_assign rfl) (ltn rfl) ?_
  refine wl_nil ?_
  refine wq_seq ?_
  refine wc_seq ?_
  refine wc_seq ?_
  refine wc_region ?_
  refine wl_val (r_move rfl) (ltn rfl) ?_
  refine wl_val (r_lss rfl rfl) (ltn rfl) ?_
  refine wl_split rfl (ltn rfl) (fun h1 => ?_) (fun h1 => ?_)
  · (try simp only [cmpS] at h1)
    refine wl_no rfl rfl rfl (ltn rfl) ?_
    refine wl_no rfl rfl rfl (ltn rfl) ?_
    refine wl_no rfl rfl rfl (ltn rfl) ?_
    refine wl_no rfl rfl rfl (ltn rfl) ?_
    refine wl_val (r_pick_t rfl rfl) (ltn rfl) ?_
    refine wl_nil ?_
    refine wq_seq ?_
    refine wc_cond_t rfl ?_
    refine wc_seq ?_
    refine wc_region ?_
    refine wl_val (r_buildL (zl := [.string .empty, .int .i64 0]) (pl := [(0, 1), (1, 1)]) [_, _] Tryz.underlying152 Tryz.zeroValue152 rfl (fun w => by kernel_rfl) rfl (.zero (zs := [.string .empty]) rfl (.zero (zs := [.int .i64 0]) rfl .nil)) rfl) (ltn rfl) ?_
    refine wl_eff0 (e_storePL 0 (l' := [_, _]) (us := [_, _]) H1 Tryz.sizeOf152 rfl rfl rfl (ones_cons (by first | rfl | assumption) (ones_cons (by first | rfl | assumption) ones_nil)) rfl rfl) ?_
    rintro _ w2 H2
    refine wl_val (r_assign rfl) (ltn rfl) ?_
    refine wl_nil ?_
    refine wq_seq ?_
    refine wc_ret ?_
    refine wq_then_ret ?_
    refine wq_end (.inl rfl) (resCT Tryz.results171 rfl rfl Tryz.underlying152 rfl (by rw [show (Tryz.prog.info? 152).map (·.size) = some 2 from by kernel_rfl]; rfl) (H2).get.2) ?_
    exact ⟨by unfold hlAt; rw [if_neg (by omega), decide_eq_false (by omega)], H2.right⟩
  · (try simp only [cmpS] at h1)
    refine wl_yes rfl rfl ?_
    refine wl_val (r_move rfl) (ltn rfl) ?_
    refine wl_yes rfl rfl ?_
    refine wl_val (r_move rfl) (ltn rfl) ?_
    refine wl_yes rfl rfl ?_
    refine wl_eff (e_call (r_call rfl Tryz.func75 rfl rfl) (hist_len_ret H1.f2)) (ltn rfl) ?_
    rintro _ w3 ⟨rfl, H3⟩
    refine wl_yes rfl rfl ?_
    refine wl_val (r_geq rfl rfl) (ltn rfl) ?_
    refine wl_val (r_pick_f rfl rfl) (ltn rfl) ?_
    refine wl_nil ?_
    refine wq_seq ?_
    refine wc_cond rfl (fun h2 => ?_) (fun h2 => ?_)
    · (try simp only [cmpS] at h2)
      
      refine wc_seq ?_
      refine wc_region ?_
      refine wl_val (r_buildL (zl := [.string .empty, .int .i64 0]) (pl := [(0, 1), (1, 1)]) [_, _] Tryz.underlying152 Tryz.zeroValue152 rfl (fun w => by kernel_rfl) rfl (.zero (zs := [.string .empty]) rfl (.zero (zs := [.int .i64 0]) rfl .nil)) rfl) (ltn rfl) ?_
      refine wl_eff0 (e_storePL 0 (l' := [_, _]) (us := [_, _]) H3.f2 Tryz.sizeOf152 rfl rfl rfl (ones_cons (by first | rfl | assumption) (ones_cons (by first | rfl | assumption) ones_nil)) rfl rfl) ?_
      rintro _ w4 H4
      refine wl_val (r_assign rfl) (ltn rfl) ?_
      refine wl_nil ?_
      refine wq_seq ?_
      refine wc_ret ?_
      refine wq_then_ret ?_
      refine wq_end (.inl rfl) (resCT Tryz.results171 rfl rfl Tryz.underlying152 rfl (by rw [show (Tryz.prog.info? 152).map (·.size) = some 2 from by kernel_rfl]; rfl) (H4).get.2) ?_
      exact ⟨by unfold hlAt; rw [if_neg (by omega), decide_eq_false (by omega)], H4.right⟩
    · (try simp only [cmpS] at h2)
      
      refine wc_skip ?_
      refine wq_seq ?_
      refine wc_seq ?_
      obtain ⟨m, rfl⟩ := Int.eq_ofNat_of_zero_le (show 0 ≤ k by omega)
      obtain ⟨hv_p, hk_p, HH_p⟩ := (H3).hist
      refine wc_region ?_
      refine wl_val (r_move rfl) (ltn rfl) ?_
      refine wl_val (r_nil rfl) (ltn rfl) ?_
      refine wl_val (r_fieldA 0 Tryz.underlying97 rfl rfl Tryz.sizeOf95 (by decide) rfl (by first | exact Nat.zero_add _ | rfl)) (ltn rfl) ?_
      refine wl_val (r_fieldA 0 Tryz.underlying95 rfl rfl Tryz.sizeOf51 (by decide) rfl (by first | exact Nat.zero_add _ | rfl)) (ltn rfl) ?_
      refine wl_val (r_load (plain_of Tryz.underlying51 rfl) rfl (cell_of_blk (HH_p).get.2 rfl)) (ltn rfl) ?_
      refine wl_val (r_move rfl) (ltn rfl) ?_
      obtain ⟨bhv_p, ohv_p, chv_p, ehv_p⟩ := Rd.posV ((HH_p.f2).row_rd) (by omega)
      cases ehv_p
      refine wl_val (r_index Tryz.underlying51 Tryz.sizeOf152 rfl rfl (by omega)) (ltn rfl) ?_
      refine wl_val (r_load_elem (ys := [_, _]) ((HH_p.f2).row_rd) (by omega) Tryz.underlying152 rfl Tryz.sizeOf152 rfl (flat_elem hlEnc_len (by omega) default) rfl) (ltn rfl) ?_
      refine wl_eff0 (e_storePL 0 (l' := [_, _]) (us := [_, _]) HH_p.f3 Tryz.sizeOf152 rfl rfl rfl (ones_cons (by first | rfl | assumption) (ones_cons (by first | rfl | assumption) ones_nil)) rfl rfl) ?_
      rintro _ w6 H6
      refine wl_val (r_assign rfl) (ltn rfl) ?_
      refine wl_nil ?_
      refine wq_seq ?_
      refine wc_ret ?_
      refine wq_end (.inl rfl) (resCT Tryz.results171 rfl rfl Tryz.underlying152 rfl (by rw [show (Tryz.prog.info? 152).map (·.size) = some 2 from by kernel_rfl]; rfl) (H6).get.2) ?_
      have Ho8 := H6.f3.f3
      have Hc9 := Holds.mk_hist hk_p Ho8
      exact ⟨by unfold hlAt; rw [if_pos (by omega), decide_eq_true (by omega)]; rfl, Hc9.f2.right⟩
theorem ed_first_ret {x0 x1 x2 x3 x4 x5 x6 x7 x8 x9 x10 x12 x13 x14 x15 x16 x17 x18 x19 x20 x21 x22 x23 x24 x25 x26 x27 x28 x29 x30 x31 x32 x33 : Value} (H : Holds w0 w (blk e (.cells (x0 :: x1 :: x2 :: x3 :: x4 :: x5 :: x6 :: x7 :: x8 :: x9 :: x10 :: .pointer (some ⟨ph, 0, none⟩) :: x12 :: x13 :: x14 :: x15 :: x16 :: x17 :: x18 :: x19 :: x20 :: x21 :: x22 :: x23 :: x24 :: x25 :: x26 :: x27 :: x28 :: x29 :: x30 :: x31 :: x32 :: x33 :: []).toArray 66 (0, 0)) • HistRep ph hl base most • F)) : Ret Tryz.prog 124 #[.pointer (some ⟨e, 0, none⟩), .int .i64 k] w fun v w' =>
    v = .string (firstOf hl k) ∧ Holds w0 w' (blk e (.cells (x0 :: x1 :: x2 :: x3 :: x4 :: x5 :: x6 :: x7 :: x8 :: x9 :: x10 :: .pointer (some ⟨ph, 0, none⟩) :: x12 :: x13 :: x14 :: x15 :: x16 :: x17 :: x18 :: x19 :: x20 :: x21 :: x22 :: x23 :: x24 :: x25 :: x26 :: x27 :: x28 :: x29 :: x30 :: x31 :: x32 :: x33 :: []).toArray 66 (0, 0)) • HistRep ph hl base most • F) := by
  refine ret_enter Tryz.func124 rfl Tryz.ntmps124 (Nat.le_of_ble_eq_true rfl) ?_
  dsimp only [slots0, Nat.reduceAdd]
  refine wc_seq ?_
  refine wc_region ?_
  refine wl_val (r_assign rfl) (ltn rfl) ?_
  refine wl_nil ?_
  refine wq_seq ?_
  refine wc_seq ?_
  refine wc_region ?_
  refine wl_val (r_move rfl) (ltn rfl) ?_
  refine wl_val (r_nil rfl) (ltn rfl) ?_
  refine wl_val (r_fieldA 11 Tryz.underlying66 rfl rfl Tryz.sizeOf24 (by decide) rfl (by first | exact Nat.zero_add _ | rfl)) (ltn rfl) ?_
  refine wl_val (r_load (plain_of Tryz.underlying24 rfl) rfl (cell_of_blk (H).get.2 rfl)) (ltn rfl) ?_
  refine wl_val (r_move rfl) (ltn rfl) ?_
  refine wl_eff (e_call (r_call rfl Tryz.func171 rfl rfl) (hist_at_ret H.f2)) (ltn rfl) ?_
  rintro _ w1 ⟨rfl, H1⟩
  refine wl_val (r_move rfl) (ltn rfl) ?_
  refine wl_val (r_extract rfl rfl) (ltn rfl) ?_
  refine wl_val (r_extract rfl rfl) (ltn rfl) ?_
  refine wl_eff (e_allocL (l := [_, _]) H1 Tryz.zeroValue152 rfl) (ltn rfl) ?_
  rintro _ w2 ⟨b2, rfl, H2⟩
  refine wl_eff0 (e_storePL 0 (l' := [_, _]) (us := [_, _]) H2 Tryz.sizeOf152 rfl rfl rfl (ones_cons (by first | rfl | assumption) (ones_cons (by first | rfl | assumption) ones_nil)) rfl rfl) ?_
  rintro _ w3 H3
  refine wl_val (r_assign rfl) (ltn rfl) ?_
  refine wl_nil ?_
  refine wq_seq ?_
  refine wc_seq ?_
  refine wc_region ?_
  refine wl_val (r_fieldA 0 Tryz.underlying152 rfl rfl Tryz.sizeOf9 (by decide) rfl (by first | exact Nat.zero_add _ | rfl)) (ltn rfl) ?_
  refine wl_val (r_load (plain_of Tryz.underlying9 rfl) rfl (cell_of_blk (H3).get.2 rfl)) (ltn rfl) ?_
  refine wl_val (r_assign rfl) (ltn rfl) ?_
  refine wl_nil ?_
  refine wq_seq ?_
  refine wc_ret ?_
  refine wq_end1 (.inl rfl) Tryz.results124 rfl ?_
  exact ⟨rfl, H3.right.f2⟩
theorem strF_some {t : ByteArray} (h : tx k = some t) : (strF tx k).getD (.string .empty) = .string t ∧ (strF tx k).isSome = true := by unfold strF; rw [h]; exact ⟨rfl, rfl⟩
theorem strF_isSome : (strF tx k).isSome = (tx k).isSome := by unfold strF; cases tx k <;> rfl
theorem ed_stands_ret {x0 x1 x3 x4 x5 x6 x7 x8 x9 x10 x12 x13 x14 x15 x16 x17 x18 x19 x20 x21 x22 x23 x24 x25 x26 x27 x28 x29 x30 x31 x32 x33 : Value} (H : Holds w0 w (blk e (.cells (x0 :: x1 :: .pointer (some ⟨pw, 0, none⟩) :: x3 :: x4 :: x5 :: x6 :: x7 :: x8 :: x9 :: x10 :: .pointer (some ⟨ph, 0, none⟩) :: x12 :: x13 :: x14 :: x15 :: x16 :: x17 :: x18 :: x19 :: x20 :: x21 :: x22 :: x23 :: x24 :: x25 :: x26 :: x27 :: x28 :: x29 :: x30 :: x31 :: x32 :: x33 :: []).toArray 66 (0, 0)) • blk pw (.cells #[v, .map (some pt)] 112 (0, 0)) • MapRep kI64 pt (strF tx) • HistRep ph hl base most • F)) :
    Ret Tryz.prog 78 #[.pointer (some ⟨e, 0, none⟩), .int .i64 k] w fun v' w' =>
    v' = .string (standsOf hl tx k) ∧ Holds w0 w' (blk e (.cells (x0 :: x1 :: .pointer (some ⟨pw, 0, none⟩) :: x3 :: x4 :: x5 :: x6 :: x7 :: x8 :: x9 :: x10 :: .pointer (some ⟨ph, 0, none⟩) :: x12 :: x13 :: x14 :: x15 :: x16 :: x17 :: x18 :: x19 :: x20 :: x21 :: x22 :: x23 :: x24 :: x25 :: x26 :: x27 :: x28 :: x29 :: x30 :: x31 :: x32 :: x33 :: []).toArray 66 (0, 0)) • blk pw (.cells #[v, .map (some pt)] 112 (0, 0)) • MapRep kI64 pt (strF tx) • HistRep ph hl base most • F) := by
  refine ret_enter Tryz.func78 rfl Tryz.ntmps78 (Nat.le_of_ble_eq_true rfl) ?_
  dsimp only [slots0, Nat.reduceAdd]
  refine wc_seq ?_
  refine wc_region ?_
  refine wl_val (r_assign rfl) (ltn rfl) ?_
  refine wl_nil ?_
  refine wq_seq ?_
  refine wc_seq ?_
  refine wc_seq ?_
  refine wc_region ?_
  refine wl_val (r_move rfl) (ltn rfl) ?_
  refine wl_val (r_nil rfl) (ltn rfl) ?_
  refine wl_val (r_fieldA 0 Tryz.underlying66 rfl rfl Tryz.sizeOf62 (by decide) rfl (by first | exact Nat.zero_add _ | rfl)) (ltn rfl) ?_
  refine wl_val (r_fieldA 2 Tryz.underlying62 rfl rfl Tryz.sizeOf59 (by decide) rfl (by first | exact Nat.zero_add _ | rfl)) (ltn rfl) ?_
  refine wl_val (r_load (plain_of Tryz.underlying59 rfl) rfl (cell_of_blk (H).get.2 rfl)) (ltn rfl) ?_
  refine wl_val (r_nil rfl) (ltn rfl) ?_
  refine wl_val (r_fieldA 1 Tryz.underlying112 rfl rfl Tryz.sizeOf110 (by decide) rfl (by first | exact Nat.zero_add _ | rfl)) (ltn rfl) ?_
  refine wl_val (r_load (plain_of Tryz.underlying110 rfl) rfl (cell_of_blk (H.f2).get.2 rfl)) (ltn rfl) ?_
  refine wl_val (r_move rfl) (ltn rfl) ?_
  refine wl_val (r_lookup_ok (H.f3) Tryz.underlying110 Tryz.underlying3 Tryz.zeroValue9 rfl rfl) (ltn rfl) ?_
  refine wl_val (r_move rfl) (ltn rfl) ?_
  refine wl_val (r_extract rfl rfl) (ltn rfl) ?_
  refine wl_val (r_extract rfl rfl) (ltn rfl) ?_
  refine wl_val (r_assign rfl) (ltn rfl) ?_
  refine wl_val (r_assign rfl) (ltn rfl) ?_
  refine wl_nil ?_
  refine wq_seq ?_
  refine wc_seq ?_
  refine wc_region ?_
  refine wl_val (r_move rfl) (ltn rfl) ?_
  refine wl_nil ?_
  refine wq_seq ?_
  refine wc_cond rfl (fun h1 => ?_) (fun h1 => ?_)
  · (try simp only [cmpS] at h1)
    obtain ⟨tt, htt⟩ := Option.isSome_iff_exists.1 (strF_isSome (tx := tx) ▸ h1)
    refine wc_seq ?_
    refine wc_region ?_
    refine wl_val (r_move rfl) (ltn rfl) ?_
    refine wl_val (r_assign rfl) (ltn rfl) ?_
    refine wl_nil ?_
    refine wq_seq ?_
    refine wc_ret ?_
    refine wq_then_ret ?_
    refine wq_end1 (.inl rfl) Tryz.results78 rfl ?_
    exact ⟨by unfold standsOf; rw [htt]; show (strF tx k).getD (.string .empty) = _; rw [(strF_some htt).1]; rfl, H.f4.f4.f4.f4⟩
  · (try simp only [cmpS] at h1)
    have htt : tx k = none := by have := strF_isSome (tx := tx) (k := k) ▸ h1; simpa using this
    refine wc_skip ?_
    refine wq_seq ?_
    refine wc_seq ?_
    refine wc_region ?_
    refine wl_val (r_move rfl) (ltn rfl) ?_
    refine wl_val (r_move rfl) (ltn rfl) ?_
    refine wl_eff (e_call (r_call rfl Tryz.func124 rfl rfl) (ed_first_ret H.f4.f2)) (ltn rfl) ?_
    rintro _ w1 ⟨rfl, H1⟩
    refine wl_val (r_assign rfl) (ltn rfl) ?_
    refine wl_nil ?_
    refine wq_seq ?_
    refine wc_ret ?_
    refine wq_end1 (.inl rfl) Tryz.results78 rfl ?_
    exact ⟨by unfold standsOf; rw [htt]; rfl, H1.f2.f4.f4.f4⟩
end
end Go.Proofs.YtgmpclifphbjkaaGreatDoor
end
section
/- Editors: Kills, the lines that stand elsewhere, how many groups can be taken back. -/
set_option linter.unusedSimpArgs false
set_option linter.unusedVariables false
namespace Go.Proofs.YtgmpclifphbjkaaGreatDoor
open Go.RowKit
theorem ptrO_isSome {D : List Int} {P : Int → Nat} {k : Int} (h : (ptrO D P k).isSome = true) : k ∈ D := by
  unfold ptrO at h
  split at h
  · assumption
  · cases h
theorem ptrO_notSome {D : List Int} {P : Int → Nat} {k : Int} (h : (ptrO D P k).isSome = false) : k ∉ D := by
  unfold ptrO at h
  split at h
  · cases h
  · assumption
def svEnc (x : Int × ByteArray) : List Value := [.int .i64 x.1, .string x.2]
theorem savedTo_yes {hl : List HLn} {tx : Int → Option ByteArray} {place : Int} {i : Nat} (h : savedAt hl tx place i = true) : savedTo hl tx place (i + 1) = savedTo hl tx place i ++ [((i : Int), standsOf hl tx i)] := by
  unfold savedTo; rw [List.range_succ, List.filter_append, List.map_append]; simp [List.filter, h]
theorem savedTo_no {hl : List HLn} {tx : Int → Option ByteArray} {place : Int} {i : Nat} (h : savedAt hl tx place i = false) : savedTo hl tx place (i + 1) = savedTo hl tx place i := by
  unfold savedTo; rw [List.range_succ, List.filter_append, List.map_append]; simp [List.filter, h]
theorem savedTo_len (hl : List HLn) (tx : Int → Option ByteArray) (place : Int) (i : Nat) : (savedTo hl tx place i).length ≤ i := by
  unfold savedTo; rw [List.length_map]
  exact Nat.le_trans (List.length_filter_le _ _) (by simp)
def killsOf (E : List (List Int)) (a : Nat) : List (List Int) := E.drop a ++ E.take a
def rotP (n a i : Nat) : Nat := if i = 0 then a else (a + (i - 1)) % n
theorem rotP_succ {n a i : Nat} : rotM n (rotP n a i) (min (i : Int) 1) = rotP n a (i + 1) := by
  cases i with
  | zero =>
    show (((a : Int) + min ((0 : Nat) : Int) 1) % (n : Int)).toNat = (a + (0 + 1 - 1)) % n
    rw [show min ((0 : Nat) : Int) 1 = 0 by omega, Int.add_zero, show ((a : Int) % (n : Int)) = ((a % n : Nat) : Int) from rfl, Int.toNat_natCast]
    rfl
  | succ j =>
    show (((((a + (j + 1 - 1)) % n : Nat) : Int) + min ((j + 1 : Nat) : Int) 1) % (n : Int)).toNat = (a + (j + 1 + 1 - 1)) % n
    rw [show min ((j + 1 : Nat) : Int) 1 = ((1 : Nat) : Int) by omega, show ((((a + (j + 1 - 1)) % n : Nat) : Int) + ((1 : Nat) : Int)) % (n : Int) = ((((a + (j + 1 - 1)) % n + 1) % n : Nat) : Int) from rfl, Int.toNat_natCast, Nat.mod_add_mod]
    congr 1
theorem kills_get {E : List (List Int)} {a i : Nat} (h : i < E.length) (ha : a < E.length) : (killsOf E a).getD i [] = E.getD (rotP E.length a (i + 1)) [] := by
  unfold killsOf rotP
  rw [if_neg (by omega), Nat.add_sub_cancel, List.getD_eq_getElem?_getD, List.getD_eq_getElem?_getD]
  by_cases hi : i < E.length - a
  · rw [List.getElem?_append_left (by simpa using hi), List.getElem?_drop, Nat.mod_eq_of_lt (by omega)]
  · rw [List.getElem?_append_right (by simpa using hi), List.length_drop, List.getElem?_take, if_pos (by omega)]
    have : (a + i) % E.length = i - (E.length - a) := by
      rw [show a + i = (i - (E.length - a)) + E.length by omega, Nat.add_mod_right, Nat.mod_eq_of_lt (by omega)]
    rw [this]
theorem take_snoc_getD {α : Type _} {l : List α} {k : Nat} {d : α} (h : k < l.length) : l.take (k + 1) = l.take k ++ [l.getD k d] := by rw [List.take_succ_eq_append_getElem h, List.getD_eq_getElem?_getD, List.getElem?_eq_getElem h]; rfl
theorem kills_len (E : List (List Int)) (a : Nat) : (killsOf E a).length = E.length := by unfold killsOf; simp; omega
section
variable {w0 w : World} {F : HP} {e p ph pw pt pr pm pb : Nat} {s : EdS} {k x place : Int} {hl : List HLn} {base most cls : Int} {tx : Int → Option ByteArray} {v pv : Value} {U : Int → List (List EdA)} {put : List EdA} {xs : List Value} {inn run whole : Bool} {E : List (List Int)} {a : Nat} {L : List Int} {pnt mk : Int}
theorem ed_none_raw {x0 x1 x2 x3 x4 x5 x6 x7 x8 x9 x10 x12 x13 x14 x15 x16 x17 x18 x19 x20 x21 x22 x23 x24 x25 x26 x27 x28 x29 x30 x31 x32 x33 : Value} (H : Holds w0 w (blk e (.cells (x0 :: x1 :: x2 :: x3 :: x4 :: x5 :: x6 :: x7 :: x8 :: x9 :: x10 :: .pointer (some ⟨ph, 0, none⟩) :: x12 :: x13 :: x14 :: x15 :: x16 :: x17 :: x18 :: x19 :: x20 :: x21 :: x22 :: x23 :: x24 :: x25 :: x26 :: x27 :: x28 :: x29 :: x30 :: x31 :: x32 :: x33 :: []).toArray 66 (0, 0)) • F)) : Ret Tryz.prog 43 #[.pointer (some ⟨e, 0, none⟩)] w fun v w' => v = .bool false ∧ w = w' := by
  refine ret_enter Tryz.func43 rfl Tryz.ntmps43 (Nat.le_of_ble_eq_true rfl) ?_
  dsimp only [slots0, Nat.reduceAdd]
  refine wc_seq ?_
  refine wc_region ?_
  refine wl_val (r_assign rfl) (ltn rfl) ?_
  refine wl_nil ?_
  refine wq_seq ?_
  refine wc_seq ?_
  refine wc_region ?_
  refine wl_val (r_move rfl) (ltn rfl) ?_
  refine wl_val (r_ptr_nil Tryz.underlying28 rfl rfl) (ltn rfl) ?_
  refine wl_split rfl (ltn rfl) (fun h1 => ?_) (fun h1 => ?_)
  · (try simp only [cmpS] at h1)
    try (exfalso; first | contradiction | omega)
    all_goals
      refine wl_no rfl rfl rfl (ltn rfl) ?_
      refine wl_no rfl rfl rfl (ltn rfl) ?_
      refine wl_no rfl rfl rfl (ltn rfl) ?_
      refine wl_no rfl rfl rfl (ltn rfl) ?_
      refine wl_no rfl rfl rfl (ltn rfl) ?_
      refine wl_val (r_pick_t rfl rfl) (ltn rfl) ?_
      refine wl_val (r_assign rfl) (ltn rfl) ?_
      refine wl_nil ?_
      refine wq_seq ?_
      refine wc_ret ?_
      refine wq_end1 (.inl rfl) Tryz.results43 rfl ?_
      exact ⟨rfl, rfl⟩
  · (try simp only [cmpS] at h1)
    try (exfalso; first | contradiction | omega)
    all_goals
      refine wl_yes rfl rfl ?_
      refine wl_val (r_move rfl) (ltn rfl) ?_
      refine wl_yes rfl rfl ?_
      refine wl_val (r_nil rfl) (ltn rfl) ?_
      refine wl_yes rfl rfl ?_
      refine wl_val (r_fieldA 11 Tryz.underlying66 rfl rfl Tryz.sizeOf24 (by decide) rfl (by first | exact Nat.zero_add _ | rfl)) (ltn rfl) ?_
      refine wl_yes rfl rfl ?_
      refine wl_val (r_load (plain_of Tryz.underlying24 rfl) rfl (cell_of_blk (H).get.2 rfl)) (ltn rfl) ?_
      refine wl_yes rfl rfl ?_
      refine wl_val (r_ptr_nil Tryz.underlying24 rfl rfl) (ltn rfl) ?_
      refine wl_val (r_pick_f rfl rfl) (ltn rfl) ?_
      refine wl_val (r_assign rfl) (ltn rfl) ?_
      refine wl_nil ?_
      refine wq_seq ?_
      refine wc_ret ?_
      refine wq_end1 (.inl rfl) Tryz.results43 rfl ?_
      exact ⟨rfl, rfl⟩
theorem ed_undoes_ret {x0 x1 x4 x5 x6 x7 x8 x9 x11 x12 x13 x14 x15 x17 x18 x19 x20 x21 x22 x23 x24 x25 x26 x27 x29 x30 x31 : Value} (H : Holds w0 w (blk e (.cells (x0 :: x1 :: .pointer (some ⟨pw, 0, none⟩) :: .map (some pm) :: x4 :: x5 :: x6 :: x7 :: x8 :: x9 :: .bool run :: x11 :: x12 :: x13 :: x14 :: x15 :: .bool inn :: x17 :: x18 :: x19 :: x20 :: x21 :: x22 :: x23 :: x24 :: x25 :: x26 :: x27 :: .int .i64 cls :: x29 :: x30 :: x31 :: .bool whole :: pv :: []).toArray 66 (0, 0)) • blk pw (.cells #[.int .i64 k, .map (some pt)] 112 (0, 0)) • UMap pm U • Row 120 3 pv put.length xs • F)) (hU : (U k).length ≤ 16384) :
    Ret Tryz.prog 55 #[.pointer (some ⟨e, 0, none⟩)] w fun v' w' => v' = .int .i64 (undoesOf (U k) inn put (cls == 3 && whole) run) ∧
      Holds w0 w' (blk e (.cells (x0 :: x1 :: .pointer (some ⟨pw, 0, none⟩) :: .map (some pm) :: x4 :: x5 :: x6 :: x7 :: x8 :: x9 :: .bool run :: x11 :: x12 :: x13 :: x14 :: x15 :: .bool inn :: x17 :: x18 :: x19 :: x20 :: x21 :: x22 :: x23 :: x24 :: x25 :: x26 :: x27 :: .int .i64 cls :: x29 :: x30 :: x31 :: .bool whole :: pv :: []).toArray 66 (0, 0)) • blk pw (.cells #[.int .i64 k, .map (some pt)] 112 (0, 0)) • UMap pm U • Row 120 3 pv put.length xs • F) := by
  refine ret_enter Tryz.func55 rfl Tryz.ntmps55 (Nat.le_of_ble_eq_true rfl) ?_
  dsimp only [slots0, Nat.reduceAdd]
  refine wc_seq ?_
  refine wc_region ?_
  refine wl_val (r_assign rfl) (ltn rfl) ?_
  refine wl_nil ?_
  refine wq_seq ?_
  refine wc_seq ?_
  refine wc_region ?_
  refine wl_val (r_assign rfl) (ltn rfl) ?_
  refine wl_nil ?_
  refine wq_seq ?_
  refine wc_join [(0, _)] (fun (_ : Unit) => [(3, .int .i64 ((U k).length : Int))]) (fun (_ : Unit) W => Holds w0 W (blk e (.cells (x0 :: x1 :: .pointer (some ⟨pw, 0, none⟩) :: .map (some pm) :: x4 :: x5 :: x6 :: x7 :: x8 :: x9 :: .bool run :: x11 :: x12 :: x13 :: x14 :: x15 :: .bool inn :: x17 :: x18 :: x19 :: x20 :: x21 :: x22 :: x23 :: x24 :: x25 :: x26 :: x27 :: .int .i64 cls :: x29 :: x30 :: x31 :: .bool whole :: pv :: []).toArray 66 (0, 0)) • blk pw (.cells #[.int .i64 k, .map (some pt)] 112 (0, 0)) • UMap pm U • Row 120 3 pv put.length xs • F)) (Sub.cons rfl (Sub.nil _)) ?_ ?_
  · rintro _ w1 HJ
    dsimp only [List.cons_append, List.nil_append]
    refine wc_seq ?_
    refine wc_seq ?_
    refine wc_region ?_
    refine wl_val (r_move rfl) (ltn rfl) ?_
    refine wl_val (r_nil rfl) (ltn rfl) ?_
    refine wl_val (r_fieldA 16 Tryz.underlying66 rfl rfl Tryz.sizeOf4 (by decide) rfl (by first | exact Nat.zero_add _ | rfl)) (ltn rfl) ?_
    refine wl_val (r_load (plain_of Tryz.underlying4 rfl) rfl (cell_of_blk (HJ).get.2 rfl)) (ltn rfl) ?_
    refine wl_split rfl (ltn rfl) (fun h1 => ?_) (fun h1 => ?_)
    · (try simp only [cmpS] at h1)
      have hin := h1
      refine wl_yes rfl rfl ?_
      refine wl_val (r_move rfl) (ltn rfl) ?_
      refine wl_yes rfl rfl ?_
      refine wl_val (r_nil rfl) (ltn rfl) ?_
      refine wl_yes rfl rfl ?_
      refine wl_val (r_fieldA 33 Tryz.underlying66 rfl rfl Tryz.sizeOf64 (by decide) rfl (by first | exact Nat.zero_add _ | rfl)) (ltn rfl) ?_
      refine wl_yes rfl rfl ?_
      refine wl_val (r_load (plain_of Tryz.underlying64 rfl) rfl (cell_of_blk (HJ).get.2 rfl)) (ltn rfl) ?_
      refine wl_yes rfl rfl ?_
      refine wl_val (r_lenS ((HJ.f4).row_rd) Tryz.underlying64 rfl) (ltn rfl) ?_
      refine wl_yes rfl rfl ?_
      refine wl_val (r_gtr rfl rfl) (ltn rfl) ?_
      refine wl_val (r_pick_t rfl rfl) (ltn rfl) ?_
      refine wl_split rfl (ltn rfl) (fun h2 => ?_) (fun h2 => ?_)
      · (try simp only [cmpS] at h2)
        have hno : put.isEmpty = false := by rw [put_empty]; exact decide_eq_false (by omega)
        refine wl_yes rfl rfl ?_
        refine wl_val (r_move rfl) (ltn rfl) ?_
        refine wl_yes rfl rfl ?_
        refine wl_val (r_nil rfl) (ltn rfl) ?_
        refine wl_yes rfl rfl ?_
        refine wl_val (r_fieldA 28 Tryz.underlying66 rfl rfl Tryz.sizeOf3 (by decide) rfl (by first | exact Nat.zero_add _ | rfl)) (ltn rfl) ?_
        refine wl_yes rfl rfl ?_
        refine wl_val (r_load (plain_of Tryz.underlying3 rfl) rfl (cell_of_blk (HJ).get.2 rfl)) (ltn rfl) ?_
        refine wl_yes rfl rfl ?_
        refine wl_val (r_eql rfl rfl) (ltn rfl) ?_
        refine wl_yes rfl rfl ?_
        refine wl_split rfl (ltn rfl) (fun h3 => ?_) (fun h3 => ?_)
        · (try simp only [cmpS] at h3)
          have hcl := h3
          refine wl_yes rfl rfl ?_
          refine wl_val (r_move rfl) (ltn rfl) ?_
          refine wl_yes rfl rfl ?_
          refine wl_val (r_nil rfl) (ltn rfl) ?_
          refine wl_yes rfl rfl ?_
          refine wl_val (r_fieldA 32 Tryz.underlying66 rfl rfl Tryz.sizeOf4 (by decide) rfl (by first | exact Nat.zero_add _ | rfl)) (ltn rfl) ?_
          refine wl_yes rfl rfl ?_
          refine wl_val (r_load (plain_of Tryz.underlying4 rfl) rfl (cell_of_blk (HJ).get.2 rfl)) (ltn rfl) ?_
          refine wl_yes rfl rfl ?_
          refine wl_val (r_pick_t rfl rfl) (ltn rfl) ?_
          refine wl_yes rfl rfl ?_
          refine wl_split rfl (ltn rfl) (fun h4 => ?_) (fun h4 => ?_)
          · (try simp only [cmpS] at h4)
            have hwh := h4
            refine wl_yes rfl rfl ?_
            refine wl_val (r_move rfl) (ltn rfl) ?_
            refine wl_yes rfl rfl ?_
            refine wl_val (r_nil rfl) (ltn rfl) ?_
            refine wl_yes rfl rfl ?_
            refine wl_val (r_fieldA 0 Tryz.underlying66 rfl rfl Tryz.sizeOf62 (by decide) rfl (by first | exact Nat.zero_add _ | rfl)) (ltn rfl) ?_
            refine wl_yes rfl rfl ?_
            refine wl_val (r_fieldA 10 Tryz.underlying62 rfl rfl Tryz.sizeOf4 (by decide) rfl (by first | exact Nat.zero_add _ | rfl)) (ltn rfl) ?_
            refine wl_yes rfl rfl ?_
            refine wl_val (r_load (plain_of Tryz.underlying4 rfl) rfl (cell_of_blk (HJ).get.2 rfl)) (ltn rfl) ?_
            refine wl_yes rfl rfl ?_
            refine wl_val (r_pick_t rfl rfl) (ltn rfl) ?_
            refine wl_yes rfl rfl ?_
            refine wl_val (r_not rfl) (ltn rfl) ?_
            refine wl_val (r_pick_t rfl rfl) (ltn rfl) ?_
            refine wl_nil ?_
            refine wq_seq ?_
            refine wc_cond rfl (fun h5 => ?_) (fun h5 => ?_)
            · (try simp only [cmpS] at h5)
              have hrn := h5
              refine wc_region ?_
              refine wl_val (r_move rfl) (ltn rfl) ?_
              refine wl_val (r_add rfl rfl (by omega)) (ltn rfl) ?_
              refine wl_val (r_assign rfl) (ltn rfl) ?_
              refine wl_nil ?_
              refine wq_seq ?_
              refine wc_seq ?_
              refine wc_region ?_
              refine wl_val (r_move rfl) (ltn rfl) ?_
              refine wl_val (r_assign rfl) (ltn rfl) ?_
              refine wl_nil ?_
              refine wq_seq ?_
              refine wc_ret ?_
              refine wq_end1 (.inl rfl) Tryz.results55 rfl ?_
              refine ⟨?_, HJ.f4.f4.f4.f4⟩
              congr 1
              unfold undoesOf
              first
                | exact absurd hrn (by decide)
                | (simp [hin]; done)
                | (simp [hin, hno]; done)
                | (simp [hin, hno, hcl]; done)
                | (simp [hin, hno, hcl, hwh]; done)
                | (simp [hin, hno, hcl, hwh, hrn]; done)
            · (try simp only [cmpS] at h5)
              have hrn := h5
              refine wc_skip ?_
              refine wq_seq ?_
              refine wc_seq ?_
              refine wc_region ?_
              refine wl_val (r_move rfl) (ltn rfl) ?_
              refine wl_val (r_assign rfl) (ltn rfl) ?_
              refine wl_nil ?_
              refine wq_seq ?_
              refine wc_ret ?_
              refine wq_end1 (.inl rfl) Tryz.results55 rfl ?_
              refine ⟨?_, HJ.f4.f4.f4.f4⟩
              congr 1
              unfold undoesOf
              first
                | exact absurd hrn (by decide)
                | (simp [hin]; done)
                | (simp [hin, hno]; done)
                | (simp [hin, hno, hcl]; done)
                | (simp [hin, hno, hcl, hwh]; done)
                | (simp [hin, hno, hcl, hwh, hrn]; done)
          · (try simp only [cmpS] at h4)
            have hwh := h4
            refine wl_no rfl rfl rfl (ltn rfl) ?_
            refine wl_no rfl rfl rfl (ltn rfl) ?_
            refine wl_no rfl rfl rfl (ltn rfl) ?_
            refine wl_no rfl rfl rfl (ltn rfl) ?_
            refine wl_no rfl rfl rfl (ltn rfl) ?_
            refine wl_yes rfl rfl ?_
            refine wl_val (r_pick_f rfl rfl) (ltn rfl) ?_
            refine wl_yes rfl rfl ?_
            refine wl_val (r_not rfl) (ltn rfl) ?_
            refine wl_val (r_pick_t rfl rfl) (ltn rfl) ?_
            refine wl_nil ?_
            refine wq_seq ?_
            refine wc_cond rfl (fun h6 => ?_) (fun h6 => ?_)
            · (try simp only [cmpS] at h6)
              have hrn := h6
              refine wc_region ?_
              refine wl_val (r_move rfl) (ltn rfl) ?_
              refine wl_val (r_add rfl rfl (by omega)) (ltn rfl) ?_
              refine wl_val (r_assign rfl) (ltn rfl) ?_
              refine wl_nil ?_
              refine wq_seq ?_
              refine wc_seq ?_
              refine wc_region ?_
              refine wl_val (r_move rfl) (ltn rfl) ?_
              refine wl_val (r_assign rfl) (ltn rfl) ?_
              refine wl_nil ?_
              refine wq_seq ?_
              refine wc_ret ?_
              refine wq_end1 (.inl rfl) Tryz.results55 rfl ?_
              refine ⟨?_, HJ.f4.f4.f4.f4⟩
              congr 1
              unfold undoesOf
              first
                | exact absurd hrn (by decide)
                | (simp [hin]; done)
                | (simp [hin, hno]; done)
                | (simp [hin, hno, hcl]; done)
                | (simp [hin, hno, hcl, hwh]; done)
                | (simp [hin, hno, hcl, hwh, hrn]; done)
            · (try simp only [cmpS] at h6)
              have hrn := h6
              refine wc_skip ?_
              refine wq_seq ?_
              refine wc_seq ?_
              refine wc_region ?_
              refine wl_val (r_move rfl) (ltn rfl) ?_
              refine wl_val (r_assign rfl) (ltn rfl) ?_
              refine wl_nil ?_
              refine wq_seq ?_
              refine wc_ret ?_
              refine wq_end1 (.inl rfl) Tryz.results55 rfl ?_
              refine ⟨?_, HJ.f4.f4.f4.f4⟩
              congr 1
              unfold undoesOf
              first
                | exact absurd hrn (by decide)
                | (simp [hin]; done)
                | (simp [hin, hno]; done)
                | (simp [hin, hno, hcl]; done)
                | (simp [hin, hno, hcl, hwh]; done)
                | (simp [hin, hno, hcl, hwh, hrn]; done)
        · (try simp only [cmpS] at h3)
          have hcl := h3
          refine wl_no rfl rfl rfl (ltn rfl) ?_
          refine wl_no rfl rfl rfl (ltn rfl) ?_
          refine wl_no rfl rfl rfl (ltn rfl) ?_
          refine wl_no rfl rfl rfl (ltn rfl) ?_
          refine wl_yes rfl rfl ?_
          refine wl_val (r_pick_f rfl rfl) (ltn rfl) ?_
          refine wl_yes rfl rfl ?_
          refine wl_val (r_move rfl) (ltn rfl) ?_
          refine wl_no rfl rfl rfl (ltn rfl) ?_
          refine wl_no rfl rfl rfl (ltn rfl) ?_
          refine wl_no rfl rfl rfl (ltn rfl) ?_
          refine wl_no rfl rfl rfl (ltn rfl) ?_
          refine wl_no rfl rfl rfl (ltn rfl) ?_
          refine wl_yes rfl rfl ?_
          refine wl_val (r_pick_f rfl rfl) (ltn rfl) ?_
          refine wl_yes rfl rfl ?_
          refine wl_val (r_not rfl) (ltn rfl) ?_
          refine wl_val (r_pick_t rfl rfl) (ltn rfl) ?_
          refine wl_nil ?_
          refine wq_seq ?_
          refine wc_cond rfl (fun h7 => ?_) (fun h7 => ?_)
          · (try simp only [cmpS] at h7)
            have hrn := h7
            refine wc_region ?_
            refine wl_val (r_move rfl) (ltn rfl) ?_
            refine wl_val (r_add rfl rfl (by omega)) (ltn rfl) ?_
            refine wl_val (r_assign rfl) (ltn rfl) ?_
            refine wl_nil ?_
            refine wq_seq ?_
            refine wc_seq ?_
            refine wc_region ?_
            refine wl_val (r_move rfl) (ltn rfl) ?_
            refine wl_val (r_assign rfl) (ltn rfl) ?_
            refine wl_nil ?_
            refine wq_seq ?_
            refine wc_ret ?_
            refine wq_end1 (.inl rfl) Tryz.results55 rfl ?_
            refine ⟨?_, HJ.f4.f4.f4.f4⟩
            congr 1
            unfold undoesOf
            first
              | exact absurd hrn (by decide)
              | (simp [hin]; done)
              | (simp [hin, hno]; done)
              | (simp [hin, hno, hcl]; done)
              | (simp [hin, hno, hcl, hwh]; done)
              | (simp [hin, hno, hcl, hwh, hrn]; done)
          · (try simp only [cmpS] at h7)
            have hrn := h7
            refine wc_skip ?_
            refine wq_seq ?_
            refine wc_seq ?_
            refine wc_region ?_
            refine wl_val (r_move rfl) (ltn rfl) ?_
            refine wl_val (r_assign rfl) (ltn rfl) ?_
            refine wl_nil ?_
            refine wq_seq ?_
            refine wc_ret ?_
            refine wq_end1 (.inl rfl) Tryz.results55 rfl ?_
            refine ⟨?_, HJ.f4.f4.f4.f4⟩
            congr 1
            unfold undoesOf
            first
              | exact absurd hrn (by decide)
              | (simp [hin]; done)
              | (simp [hin, hno]; done)
              | (simp [hin, hno, hcl]; done)
              | (simp [hin, hno, hcl, hwh]; done)
              | (simp [hin, hno, hcl, hwh, hrn]; done)
      · (try simp only [cmpS] at h2)
        have hno : put.isEmpty = true := by rw [put_empty]; exact decide_eq_true (by omega)
        refine wl_no rfl rfl rfl (ltn rfl) ?_
        refine wl_no rfl rfl rfl (ltn rfl) ?_
        refine wl_no rfl rfl rfl (ltn rfl) ?_
        refine wl_no rfl rfl rfl (ltn rfl) ?_
        refine wl_no rfl rfl rfl (ltn rfl) ?_
        refine wl_no rfl rfl rfl (ltn rfl) ?_
        refine wl_nou rfl rfl (ltn rfl) ?_
        refine wl_nou rfl rfl (ltn rfl) ?_
        refine wl_nou rfl rfl (ltn rfl) ?_
        refine wl_nou rfl rfl (ltn rfl) ?_
        refine wl_no rfl rfl rfl (ltn rfl) ?_
        refine wl_no rfl rfl rfl (ltn rfl) ?_
        refine wl_nou rfl rfl (ltn rfl) ?_
        refine wl_nou rfl rfl (ltn rfl) ?_
        refine wl_nou rfl rfl (ltn rfl) ?_
        refine wl_nou rfl rfl (ltn rfl) ?_
        refine wl_nou rfl rfl (ltn rfl) ?_
        refine wl_no rfl rfl rfl (ltn rfl) ?_
        refine wl_no rfl rfl rfl (ltn rfl) ?_
        refine wl_val (r_pick_f rfl rfl) (ltn rfl) ?_
        refine wl_nil ?_
        refine wq_seq ?_
        refine wc_cond_f rfl ?_
        refine wc_skip ?_
        refine wq_seq ?_
        refine wc_seq ?_
        refine wc_region ?_
        refine wl_val (r_move rfl) (ltn rfl) ?_
        refine wl_val (r_assign rfl) (ltn rfl) ?_
        refine wl_nil ?_
        refine wq_seq ?_
        refine wc_ret ?_
        refine wq_end1 (.inl rfl) Tryz.results55 rfl ?_
        refine ⟨?_, HJ.f4.f4.f4.f4⟩
        congr 1
        unfold undoesOf
        first
          | exact absurd hrn (by decide)
          | (simp [hin]; done)
          | (simp [hin, hno]; done)
          | (simp [hin, hno, hcl]; done)
          | (simp [hin, hno, hcl, hwh]; done)
          | (simp [hin, hno, hcl, hwh, hrn]; done)
    · (try simp only [cmpS] at h1)
      have hin := h1
      refine wl_no rfl rfl rfl (ltn rfl) ?_
      refine wl_no rfl rfl rfl (ltn rfl) ?_
      refine wl_no rfl rfl rfl (ltn rfl) ?_
      refine wl_no rfl rfl rfl (ltn rfl) ?_
      refine wl_no rfl rfl rfl (ltn rfl) ?_
      refine wl_no rfl rfl rfl (ltn rfl) ?_
      refine wl_val (r_pick_f rfl rfl) (ltn rfl) ?_
      refine wl_val (r_move rfl) (ltn rfl) ?_
      refine wl_no rfl rfl rfl (ltn rfl) ?_
      refine wl_no rfl rfl rfl (ltn rfl) ?_
      refine wl_no rfl rfl rfl (ltn rfl) ?_
      refine wl_no rfl rfl rfl (ltn rfl) ?_
      refine wl_no rfl rfl rfl (ltn rfl) ?_
      refine wl_no rfl rfl rfl (ltn rfl) ?_
      refine wl_nou rfl rfl (ltn rfl) ?_
      refine wl_nou rfl rfl (ltn rfl) ?_
      refine wl_nou rfl rfl (ltn rfl) ?_
      refine wl_nou rfl rfl (ltn rfl) ?_
      refine wl_no rfl rfl rfl (ltn rfl) ?_
      refine wl_no rfl rfl rfl (ltn rfl) ?_
      refine wl_nou rfl rfl (ltn rfl) ?_
      refine wl_nou rfl rfl (ltn rfl) ?_
      refine wl_nou rfl rfl (ltn rfl) ?_
      refine wl_nou rfl rfl (ltn rfl) ?_
      refine wl_nou rfl rfl (ltn rfl) ?_
      refine wl_no rfl rfl rfl (ltn rfl) ?_
      refine wl_no rfl rfl rfl (ltn rfl) ?_
      refine wl_val (r_pick_f rfl rfl) (ltn rfl) ?_
      refine wl_nil ?_
      refine wq_seq ?_
      refine wc_cond_f rfl ?_
      refine wc_skip ?_
      refine wq_seq ?_
      refine wc_seq ?_
      refine wc_region ?_
      refine wl_val (r_move rfl) (ltn rfl) ?_
      refine wl_val (r_assign rfl) (ltn rfl) ?_
      refine wl_nil ?_
      refine wq_seq ?_
      refine wc_ret ?_
      refine wq_end1 (.inl rfl) Tryz.results55 rfl ?_
      refine ⟨?_, HJ.f4.f4.f4.f4⟩
      congr 1
      unfold undoesOf
      first
        | exact absurd hrn (by decide)
        | (simp [hin]; done)
        | (simp [hin, hno]; done)
        | (simp [hin, hno, hcl]; done)
        | (simp [hin, hno, hcl, hwh]; done)
        | (simp [hin, hno, hcl, hwh, hrn]; done)
  · skip
    refine wc_seq ?_
    obtain ⟨D, P, hD1, hD2, HU⟩ := (H.f3).umap
    have H2d1 := HU.drew
    have hS2d1 := Holds.kp (H2d1.f5.f5.f5.f5.f5)
    refine wd_beginK [4, 9, 12, 13] hS2d1 (by kernel_rfl) (by kernel_rfl) rfl ?_
    refine wd_takeT 0 rfl (by kernel_rfl) (by kernel_rfl) hS2d1 (fun _ => r_move rfl) (ltn rfl) ?_
    refine wd_takeT 1 rfl (by kernel_rfl) (by kernel_rfl) hS2d1 (fun _ => r_nil rfl) (ltn rfl) ?_
    refine wd_takeT 2 rfl (by kernel_rfl) (by kernel_rfl) hS2d1 (fun _ => r_fieldA 0 Tryz.underlying66 rfl rfl Tryz.sizeOf62 (by decide) rfl (by first | exact Nat.zero_add _ | rfl)) (ltn rfl) ?_
    refine wd_takeT 3 rfl (by kernel_rfl) (by kernel_rfl) hS2d1 (fun _ => r_fieldA 3 Tryz.underlying62 rfl rfl Tryz.sizeOf60 (by decide) rfl (by first | exact Nat.zero_add _ | rfl)) (ltn rfl) ?_
    refine wd_take 4 rfl (by kernel_rfl) (by kernel_rfl) hS2d1 (by decide) (fun W hW => r_load (plain_of Tryz.underlying60 rfl) rfl (cell_of_blk ((Kp.h hW).f3).get.2 rfl)) (ltn rfl) ?_
    refine wd_takeT 5 rfl (by kernel_rfl) (by kernel_rfl) hS2d1 (fun _ => r_move rfl) (ltn rfl) ?_
    refine wd_takeT 6 rfl (by kernel_rfl) (by kernel_rfl) hS2d1 (fun _ => r_nil rfl) (ltn rfl) ?_
    refine wd_takeT 7 rfl (by kernel_rfl) (by kernel_rfl) hS2d1 (fun _ => r_fieldA 0 Tryz.underlying66 rfl rfl Tryz.sizeOf62 (by decide) rfl (by first | exact Nat.zero_add _ | rfl)) (ltn rfl) ?_
    refine wd_takeT 8 rfl (by kernel_rfl) (by kernel_rfl) hS2d1 (fun _ => r_fieldA 2 Tryz.underlying62 rfl rfl Tryz.sizeOf59 (by decide) rfl (by first | exact Nat.zero_add _ | rfl)) (ltn rfl) ?_
    refine wd_take 9 rfl (by kernel_rfl) (by kernel_rfl) hS2d1 (by decide) (fun W hW => r_load (plain_of Tryz.underlying59 rfl) rfl (cell_of_blk ((Kp.h hW).f3).get.2 rfl)) (ltn rfl) ?_
    refine wd_takeT 10 rfl (by kernel_rfl) (by kernel_rfl) hS2d1 (fun _ => r_nil rfl) (ltn rfl) ?_
    refine wd_takeT 11 rfl (by kernel_rfl) (by kernel_rfl) hS2d1 (fun _ => r_fieldA 0 Tryz.underlying112 rfl rfl Tryz.sizeOf3 (by decide) rfl (by first | exact Nat.zero_add _ | rfl)) (ltn rfl) ?_
    refine wd_take 12 rfl (by kernel_rfl) (by kernel_rfl) hS2d1 (by decide) (fun W hW => r_load (plain_of Tryz.underlying3 rfl) rfl (cell_of_blk ((Kp.h hW).f4).get.2 rfl)) (ltn rfl) ?_
    refine wd_take 13 rfl (by kernel_rfl) (by kernel_rfl) hS2d1 (by decide) (fun W hW => r_as (r_lookup ((Kp.h hW)) Tryz.underlying60 Tryz.underlying3 Tryz.zeroValue116 rfl rfl) (upP_get D P k)) (ltn rfl) ?_
    refine wd_takeT 14 rfl (by kernel_rfl) (by kernel_rfl) hS2d1 (fun _ => r_assign rfl) (ltn rfl) ?_
    refine wd_done (by kernel_rfl) ?_
    refine wq_seq ?_
    refine wc_seq ?_
    refine wc_region ?_
    refine wl_val (r_move rfl) (ltn rfl) ?_
    refine wl_val (r_ptr_nnil Tryz.underlying116 rfl rfl) (ltn rfl) ?_
    refine wl_nil ?_
    refine wq_seq ?_
    refine wc_cond rfl (fun h8 => ?_) (fun h8 => ?_)
    · (try simp only [cmpS] at h8)
      have hmem := ptrO_isSome h8
      rw [ptrO_pos hmem]
      have HF := H2d1.f2
      rw [ULs_focus hmem] at HF
      have HF2 := HF.flat
      refine wc_region ?_
      refine wl_val (r_move rfl) (ltn rfl) ?_
      refine wl_eff (e_call (r_call rfl Tryz.func60 rfl rfl) (undo_len_ret HF2)) (ltn rfl) ?_
      rintro _ w2 ⟨rfl, H2⟩
      have Ho3 := H2.f2.f2
      have Hc4 := Holds.of_eq Ho3 (by rw [← sep_assoc, ← ULs_focus hmem])
      have Ho5 := Hc4.f2
      have Hc6 := Holds.mk_umap hD1 hD2 Ho5
      refine wl_val (r_assign rfl) (ltn rfl) ?_
      refine wl_nil ?_
      refine wq_join (()) ?_ ?_ ?_
      · exact (Sub.cons' rfl (by first | (rw [hD2 _ hnm]; rfl) | (simp; done)) (Sub.nil _))
      · exact (Sub.cons rfl (Sub.nil _))
      · (try dsimp only)
        first | done | exact Hc6.f4.f2.f4.f4
    · (try simp only [cmpS] at h8)
      have hnm := ptrO_notSome h8
      have Ho7 := H2d1.f2.f2
      have Hc8 := Holds.mk_umap hD1 hD2 Ho7
      refine wc_skip ?_
      refine wq_join (()) ?_ ?_ ?_
      · exact (Sub.cons' rfl (by first | (rw [hD2 _ hnm]; rfl) | (simp; done)) (Sub.nil _))
      · exact (Sub.cons rfl (Sub.nil _))
      · (try dsimp only)
        first | done | exact Hc8.f4.f2.f4.f4
theorem ed_kills_raw {x0 x2 x3 x4 x5 x6 x7 x8 x9 x10 x12 x13 x14 x15 x16 x17 x18 x19 x20 x21 x22 x23 x24 x25 x26 x27 x28 x29 x30 x31 x32 x33 : Value} (H : Holds w0 w (blk e (.cells (x0 :: .pointer (some ⟨pr, 0, none⟩) :: x2 :: x3 :: x4 :: x5 :: x6 :: x7 :: x8 :: x9 :: x10 :: .pointer (some ⟨ph, 0, none⟩) :: x12 :: x13 :: x14 :: x15 :: x16 :: x17 :: x18 :: x19 :: x20 :: x21 :: x22 :: x23 :: x24 :: x25 :: x26 :: x27 :: x28 :: x29 :: x30 :: x31 :: x32 :: x33 :: []).toArray 66 (0, 0)) • RingRep pr E a • F)) : Ret Tryz.prog 32 #[.pointer (some ⟨e, 0, none⟩)] w fun v' w' =>
    ∃ us, Holds w0 w' (Row 22 1 v' E.length us • Owns 21 .i32 us (killsOf E a) • blk e (.cells (x0 :: .pointer (some ⟨pr, 0, none⟩) :: x2 :: x3 :: x4 :: x5 :: x6 :: x7 :: x8 :: x9 :: x10 :: .pointer (some ⟨ph, 0, none⟩) :: x12 :: x13 :: x14 :: x15 :: x16 :: x17 :: x18 :: x19 :: x20 :: x21 :: x22 :: x23 :: x24 :: x25 :: x26 :: x27 :: x28 :: x29 :: x30 :: x31 :: x32 :: x33 :: []).toArray 66 (0, 0)) • RingRep pr E a • F) := by
  obtain ⟨hE1, hE2, hE3⟩ := ring_facts H.swap
  refine ret_enter Tryz.func32 rfl Tryz.ntmps32 (Nat.le_of_ble_eq_true rfl) ?_
  dsimp only [slots0, Nat.reduceAdd]
  refine wc_seq ?_
  refine wc_region ?_
  refine wl_val (r_assign rfl) (ltn rfl) ?_
  refine wl_nil ?_
  refine wq_seq ?_
  refine wc_seq ?_
  refine wc_seq ?_
  refine wc_region ?_
  refine wl_val (r_move rfl) (ltn rfl) ?_
  refine wl_eff (e_call (r_call rfl Tryz.func43 rfl rfl) (ed_none_raw H)) (ltn rfl) ?_
  rintro _ _ ⟨rfl, rfl⟩
  refine wl_nil ?_
  refine wq_seq ?_
  refine wc_cond_f rfl ?_
  refine wc_skip ?_
  refine wq_seq ?_
  refine wc_seq ?_
  refine wc_region ?_
  refine wl_val (r_assign rfl) (ltn rfl) ?_
  refine wl_nil ?_
  refine wq_seq ?_
  refine wc_seq ?_
  refine wc_region ?_
  refine wl_val (r_move rfl) (ltn rfl) ?_
  refine wl_val (r_nil rfl) (ltn rfl) ?_
  refine wl_val (r_fieldA 0 Tryz.underlying66 rfl rfl Tryz.sizeOf62 (by decide) rfl (by first | exact Nat.zero_add _ | rfl)) (ltn rfl) ?_
  refine wl_val (r_fieldA 1 Tryz.underlying62 rfl rfl Tryz.sizeOf58 (by decide) rfl (by first | exact Nat.zero_add _ | rfl)) (ltn rfl) ?_
  refine wl_val (r_load (plain_of Tryz.underlying58 rfl) rfl (cell_of_blk (H).get.2 rfl)) (ltn rfl) ?_
  refine wl_eff (e_call (r_call rfl Tryz.func72 rfl rfl) (ring_clone_ret H.f2)) (ltn rfl) ?_
  rintro _ w2 ⟨pc2, rfl, H2⟩
  refine wl_val (r_assign rfl) (ltn rfl) ?_
  refine wl_nil ?_
  refine wq_seq ?_
  refine wc_seq ?_
  refine wc_seq ?_
  refine wc_region ?_
  refine wl_val (r_move rfl) (ltn rfl) ?_
  refine wl_eff (e_call (r_call rfl Tryz.func80 rfl rfl) (ring_len_ret H2)) (ltn rfl) ?_
  rintro _ _ ⟨rfl, rfl⟩
  refine wl_val (r_move rfl) (ltn rfl) ?_
  refine wl_nil ?_
  refine wq_seq ?_
  refine wc_block ?_
  obtain ⟨R4, hR4, HR4⟩ := Holds.hide1 (H2)
  refine wc_loop [(4, _), (17, _)] (fun (⟨i, u⟩ : Nat × Value) => [(3, u), (18, .int .i64 (i : Int))]) (fun (⟨i, u⟩ : Nat × Value) W => i ≤ E.length ∧ ∃ us, Holds w0 W (Row 22 1 u i us • Owns 21 .i32 us ((killsOf E a).take i) • RingRep pc2 E (rotP E.length a i) • R4)) (fun (⟨i, u⟩ : Nat × Value) => E.length - i) ((0, .slice none 0 0)) (Sub.cons rfl (Sub.cons rfl (Sub.nil _))) (Sub.cons rfl (Sub.cons rfl (Sub.nil _))) ⟨by omega, [], HR4.owns_nil.row_nil none⟩ ?_
  rintro ⟨i, u⟩ w5 ⟨hi, us, HL⟩
  dsimp only [List.cons_append, List.nil_append]
  refine wc_seq ?_
  refine wc_region ?_
  refine wl_val (r_lss rfl rfl) (ltn rfl) ?_
  refine wl_nil ?_
  refine wq_seq ?_
  refine wc_seq ?_
  refine wc_cond rfl (fun h1 => ?_) (fun h1 => ?_)
  · (try simp only [cmpS] at h1)
    
    refine wc_skip ?_
    refine wq_seq ?_
    refine wc_seq ?_
    refine wc_block ?_
    refine wc_seq ?_
    refine wc_region ?_
    refine wl_val (r_move rfl) (ltn rfl) ?_
    refine wl_val (r_assign rfl) (ltn rfl) ?_
    refine wl_nil ?_
    refine wq_seq ?_
    refine wc_seq ?_
    refine wc_region ?_
    refine wl_val (r_move rfl) (ltn rfl) ?_
    refine wl_val (r_move rfl) (ltn rfl) ?_
    refine wl_val (r_min rfl rfl) (ltn rfl) ?_
    refine wl_eff (e_call (r_call rfl Tryz.func73 rfl rfl) (ring_rotate_any HL.f3)) (ltn rfl) ?_
    rintro _ w6 ⟨u6, rfl, H6⟩
    have hne : ¬ E.length = 0 := by omega
    have HX := H6
    simp only [if_neg hne] at HX
    refine wl_val (r_move rfl) (ltn rfl) ?_
    refine wl_val (r_extract rfl rfl) (ltn rfl) ?_
    refine wl_val (r_extract rfl rfl) (ltn rfl) ?_
    refine wl_val (r_assign rfl) (ltn rfl) ?_
    refine wl_val (r_assign rfl) (ltn rfl) ?_
    refine wl_nil ?_
    refine wq_seq ?_
    refine wc_region ?_
    refine wl_val (r_move rfl) (ltn rfl) ?_
    refine wl_val (r_move rfl) (ltn rfl) ?_
    refine wl_eff (e_lit_row (vs := [_]) HX Tryz.underlying43 Tryz.sizeOf22 Tryz.zeroValue22 rfl rfl rfl (by decide) (ones_cons (by first | rfl | exact Rd.one ((HX).row_rd)) ones_nil)) (ltn rfl) ?_
    rintro l7 w7 H7
    refine wl_eff (e_append H7.f4 Tryz.underlying43 (show (Tryz.prog.info? 22).map (fun i => (i.zero, i.size, i.bytes)) = some (some (.slice none 0 0), 1, 24) by kernel_rfl) rfl rfl rfl ((H7).row_rd) (ones_cons (by first | rfl | exact Rd.one ((H7.f2).row_rd)) ones_nil) (by omega) (by omega)) (ltn rfl) ?_
    rintro l8 w8 H8
    have Hd9 := H8.f2.right
    refine wl_val (r_assign rfl) (ltn rfl) ?_
    refine wl_nil ?_
    refine wq_block_normal ?_
    refine wq_seq ?_
    refine wc_region ?_
    refine wl_val (r_add rfl rfl (by omega)) (ltn rfl) ?_
    refine wl_val (r_move rfl) (ltn rfl) ?_
    refine wl_nil ?_
    have HS := (Hd9.f3.f2.f3.f4).owns_snoc.f2
    refine wq_round ((i + 1, l8)) ?_ ?_ ?_ ?_
    · exact (Sub.cons rfl (Sub.cons rfl (Sub.nil _)))
    · exact (Sub.cons rfl (Sub.cons rfl (Sub.nil _)))
    · (try dsimp only)
      first | done | exact ⟨by omega, _, by rw [take_snoc_getD (d := []) (by rw [kills_len]; omega), kills_get (by omega) (by omega), ← rotP_succ]; exact HS⟩
    · (try dsimp only); omega
  · (try simp only [cmpS] at h1)
    
    refine wc_exit ?_
    refine wq_then_exit ?_
    obtain rfl : i = E.length := by omega
    have HK := HL
    rw [List.take_of_length_le (by rw [kills_len]; exact Nat.le_refl _)] at HK
    subst hR4
    refine wq_then_exit ?_
    refine wq_block_hit ?_
    refine wq_seq ?_
    refine wc_seq ?_
    refine wc_region ?_
    refine wl_val (r_move rfl) (ltn rfl) ?_
    refine wl_val (r_assign rfl) (ltn rfl) ?_
    refine wl_nil ?_
    refine wq_seq ?_
    refine wc_ret ?_
    refine wq_end1 (.inl rfl) Tryz.results32 rfl ?_
    exact ⟨_, HK.f3.right.f3.f4.f4.f4⟩
end
end Go.Proofs.YtgmpclifphbjkaaGreatDoor
end
