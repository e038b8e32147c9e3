import Derived.Test.YtgmpclifphbjkaaGreatDoorZ6
import Derived.Test.YtgmpclifphbjkaaGreatDoorZ4
import Derived.Test.YtgmpclifphbjkaaGreatDoorZ3
import Derived.Test.YtgmpclifphbjkaaGreatDoorProg
/- Texts of mine, joined: LineP Fun Imm Tab Move BLive Same Apply BufP. -/
section
/- A buffer's Move and Line. -/
set_option linter.unusedSimpArgs false
set_option linter.unusedVariables false
namespace Go.Proofs.YtgmpclifphbjkaaGreatDoor
open Go.RowKit
/-- Where the point is behind a move. -/
def mvP (n : Nat) (pt x : Int) : Int := if 0 ≤ x ∧ x ≤ n then x else pt
def mvE (n : Nat) (x : Int) : Int := if 0 ≤ x ∧ x ≤ n then 0 else 70
/-- A line's cells. -/
def lineCells (v : Value) (pt mk : Int) : Array Value := #[v, .int .i64 pt, .int .i64 mk]
theorem line_ones {v : Value} {pt mk : Int} (h : v.oneCell' = true) : ∀ u ∈ (lineCells v pt mk).toList, u.oneCell' = true := by
  intro u hu
  simp [lineCells] at hu
  rcases hu with rfl | rfl | rfl
  · exact h
  · rfl
  · rfl
section
variable {w0 w : World} {F : HP} {p : Nat} {L : List Int} {pt mk x : Int} {v : Value} {l : List Int}
theorem buf_move_ret (H : Holds w0 w (BufRep p L pt mk • F)) : Ret Tryz.prog 74 #[.pointer (some ⟨p, 0, none⟩), .int .i64 x] w fun v w' => v = .int .i64 (mvE L.length x) ∧ Holds w0 w' (BufRep p L (mvP L.length pt x) mk • F) := by
  refine ret_enter Tryz.func74 rfl Tryz.ntmps74 (Nat.le_of_ble_eq_true rfl) ?_
  dsimp only [slots0, Nat.reduceAdd]
  refine wc_seq ?_
  refine wc_region ?_
  refine wl_val (r_assign rfl) (ltn rfl) ?_
  refine wl_nil ?_
  refine wq_seq ?_
  refine wc_seq ?_
  refine wc_block ?_
  refine wc_seq ?_
  refine wc_region ?_
  refine wl_val (r_move rfl) (ltn rfl) ?_
  refine wl_eff (e_call (r_call rfl Tryz.func130 rfl rfl) (buf_none_rep H)) (ltn rfl) ?_
  rintro _ _ ⟨rfl, rfl⟩
  refine wl_val (r_assign rfl) (ltn rfl) ?_
  refine wl_nil ?_
  refine wq_seq ?_
  refine wc_cond rfl (fun h1 => ?_) (fun h1 => ?_)
  · (try simp only [cmpS] at h1)
    exfalso; first | contradiction | omega
  · (try simp only [cmpS] at h1)
    try (exfalso; first | contradiction | omega)
    all_goals
      
      refine wc_seq ?_
      refine wc_region ?_
      refine wl_val (r_move rfl) (ltn rfl) ?_
      refine wl_val (r_lss rfl rfl) (ltn rfl) ?_
      refine wl_split rfl (ltn rfl) (fun h2 => ?_) (fun h2 => ?_)
      · (try simp only [cmpS] at h2)
        try (exfalso; first | contradiction | omega)
        all_goals
          refine wl_no rfl rfl rfl (ltn rfl) ?_
          refine wl_no rfl rfl rfl (ltn rfl) ?_
          refine wl_no rfl rfl rfl (ltn rfl) ?_
          refine wl_no rfl rfl rfl (ltn rfl) ?_
          refine wl_val (r_pick_t rfl rfl) (ltn rfl) ?_
          refine wl_val (r_assign rfl) (ltn rfl) ?_
          refine wl_nil ?_
          refine wq_seq ?_
          refine wc_cond_t rfl ?_
          refine wc_seq ?_
          refine wc_region ?_
          refine wl_val (r_assign rfl) (ltn rfl) ?_
          refine wl_nil ?_
          refine wq_seq ?_
          refine wc_ret ?_
          refine wq_block_ret ?_
          refine wq_then_ret ?_
          refine wq_end1 (.inl rfl) Tryz.results74 rfl ?_
          exact ⟨by rw [mvE, if_neg (by omega)], by rw [mvP, if_neg (by omega)]; exact H⟩
      · (try simp only [cmpS] at h2)
        try (exfalso; first | contradiction | omega)
        all_goals
          refine wl_yes rfl rfl ?_
          refine wl_val (r_move rfl) (ltn rfl) ?_
          refine wl_yes rfl rfl ?_
          refine wl_val (r_move rfl) (ltn rfl) ?_
          refine wl_yes rfl rfl ?_
          refine wl_eff (e_call (r_call rfl Tryz.func69 rfl rfl) (buf_len_ret H)) (ltn rfl) ?_
          rintro _ w2 ⟨rfl, hD⟩
          have HL := H.drewn hD
          refine wl_yes rfl rfl ?_
          refine wl_val (r_gtr rfl rfl) (ltn rfl) ?_
          refine wl_val (r_pick_f rfl rfl) (ltn rfl) ?_
          refine wl_val (r_assign rfl) (ltn rfl) ?_
          refine wl_nil ?_
          refine wq_seq ?_
          refine wc_cond rfl (fun h3 => ?_) (fun h3 => ?_)
          · (try simp only [cmpS] at h3)
            try (exfalso; first | contradiction | omega)
            all_goals
              
              refine wc_seq ?_
              refine wc_region ?_
              refine wl_val (r_assign rfl) (ltn rfl) ?_
              refine wl_nil ?_
              refine wq_seq ?_
              refine wc_ret ?_
              refine wq_block_ret ?_
              refine wq_then_ret ?_
              refine wq_end1 (.inl rfl) Tryz.results74 rfl ?_
              exact ⟨by rw [mvE, if_neg (by omega)], by rw [mvP, if_neg (by omega)]; exact HL⟩
          · (try simp only [cmpS] at h3)
            try (exfalso; first | contradiction | omega)
            all_goals
              
              refine wc_skip ?_
              refine wq_block_normal ?_
              refine wq_seq ?_
              refine wc_seq ?_
              obtain ⟨a, c, xs, f, t, h11, h12, h13, h14, h15, h16, h17, hc1, hc2, hl, HB⟩ := HL.buf
              refine wc_region ?_
              refine wl_val (r_move rfl) (ltn rfl) ?_
              refine wl_val (r_move rfl) (ltn rfl) ?_
              refine wl_val (r_nil rfl) (ltn rfl) ?_
              refine wl_val (r_fieldA 4 Tryz.underlying178 rfl rfl Tryz.sizeOf3 (by decide) rfl (by first | exact Nat.zero_add _ | rfl)) (ltn rfl) ?_
              refine wl_eff0 (e_store HB Tryz.sizeOf3 rfl rfl rfl (by rw [buf_size]; decide)) ?_
              rintro _ w3 H3
              rw [buf_set_point] at H3
              refine wl_nil ?_
              refine wq_seq ?_
              refine wc_seq ?_
              refine wc_region ?_
              refine wl_val (r_assign rfl) (ltn rfl) ?_
              refine wl_nil ?_
              refine wq_seq ?_
              refine wc_ret ?_
              refine wq_end1 (.inl rfl) Tryz.results74 rfl ?_
              exact ⟨by rw [mvE, if_pos (by omega)], by rw [mvP, if_pos (by omega)]; exact Holds.mk_buf h11 h12 h13 h14 h15 (by omega) h17 H3⟩
theorem buf_line_ret (H : Holds w0 w (BufRep p L pt mk • F)) : Ret Tryz.prog 62 #[.pointer (some ⟨p, 0, none⟩)] w fun v' w' => ∃ u, v' = .agg (lineCells u pt mk) ∧ Holds w0 w' (RowI 21 .i32 u L • BufRep p L pt mk • F) := by
  refine ret_enter Tryz.func62 rfl Tryz.ntmps62 (Nat.le_of_ble_eq_true rfl) ?_
  dsimp only [slots0, Nat.reduceAdd]
  refine wc_seq ?_
  refine wc_region ?_
  refine wl_eff (e_alloc H Tryz.zeroValue42) (ltn rfl) ?_
  rintro _ w1 ⟨b1, rfl, H1⟩
  refine wl_nil ?_
  refine wq_seq ?_
  refine wc_seq ?_
  refine wc_region ?_
  refine wl_val (r_move rfl) (ltn rfl) ?_
  refine wl_eff (e_call (r_call rfl Tryz.func117 rfl rfl) (buf_text_ret H1.swap)) (ltn rfl) ?_
  rintro u w2 H2
  obtain ⟨au, cu, hu, _⟩ := (H2.row_rd).form
  subst hu
  refine wl_val (r_move rfl) (ltn rfl) ?_
  refine wl_eff (e_call (r_call rfl Tryz.func68 rfl rfl) (buf_point_ret H2.swap)) (ltn rfl) ?_
  rintro _ _ ⟨rfl, rfl⟩
  refine wl_val (r_move rfl) (ltn rfl) ?_
  refine wl_eff (e_call (r_call rfl Tryz.func131 rfl rfl) (buf_mark_ret H2.swap)) (ltn rfl) ?_
  rintro _ _ ⟨rfl, rfl⟩
  refine wl_val (r_build (pl := #[(0, 1), (1, 1), (2, 1)]) (lineCells (.slice au L.length cu) pt mk) Tryz.underlying42 Tryz.zeroValue42 (fun w => by kernel_rfl) rfl (by kernel_rfl)) (ltn rfl) ?_
  refine wl_eff0 (e_store_whole (cs := lineCells (.slice au L.length cu) pt mk) H2.rot Tryz.sizeOf42 rfl rfl rfl rfl (line_ones rfl)) ?_
  rintro _ w5 H5
  refine wl_nil ?_
  refine wq_seq ?_
  refine wc_ret ?_
  refine wq_endC (.inl rfl) Tryz.results62 rfl Tryz.underlying42 rfl (by rw [show (Tryz.prog.info? 42).map (·.size) = some 3 from by kernel_rfl]; rfl) H5.get.2 ?_
  exact ⟨_, rfl, H5.right⟩
end
end Go.Proofs.YtgmpclifphbjkaaGreatDoor
end
section
/- Function values; a slice of a whole array. -/
set_option linter.unusedSimpArgs false
set_option linter.unusedVariables false
namespace Go.Proofs.YtgmpclifphbjkaaGreatDoor
open Go.RowKit
section
variable {P : Program} {L : List (Nat × Value)} {w0 w : World} {F : HP} {ty : TypeId}
/-- What a function value does, called with these. -/
def FnRet (P : Program) (fv : Value) (vs : List Value) (w : World) (T : Value → World → Prop) : Prop :=
  ∃ f first cap fn c, fv = .func (.func f) (List.toArray first) (List.toArray cap) ∧ P.funcs[f]? = some fn ∧ (fn.name == "runtime.NumGoroutine") = false ∧ fn.body = some c ∧ Ret P f (first ++ vs ++ cap).toArray w T
/-- It tells, of each number, whether it holds; what one holds is left. -/
def Tells (P : Program) (w0 : World) (F : HP) (fv : Value) (g : Int → Bool) : Prop :=
  fv.oneCell' = true ∧ ∀ (G : HP) (W : World), Holds w0 W (G • F) → ∀ r, FnRet P fv [.int .i32 r] W fun v W' => v = .bool (g r) ∧ Holds w0 W' (G • F)
end
end Go.Proofs.YtgmpclifphbjkaaGreatDoor
end
section
/- Memory that is never written any more: slices of numbers in it. -/
set_option linter.unusedSimpArgs false
set_option linter.unusedVariables false
namespace Go.Proofs.YtgmpclifphbjkaaGreatDoor
open Go.RowKit

/-- In what is never written any more the slice v reads as whole numbers. -/
def ImmI (I : Hp) (k : IntKind) (v : Value) (l : List Int) : Prop := ∃ a c, v = .slice a l.length c ∧ l.length ≤ c ∧ (c : Int) ≤ 9223372036854775807 ∧
  (0 < l.length → ∃ b o cs e fr, a = some ⟨b, o, none⟩ ∧ I b = some (.cells cs e fr) ∧ ∀ j, j < l.length → cs[o + j]? = some (.int k (l.getD j 0)))
theorem ImmI.mono {I I' : Hp} {k : IntKind} {v : Value} {l : List Int} (hl : Hp.le I I') (h : ImmI I k v l) : ImmI I' k v l := by
  obtain ⟨a, c, h1, h2, h3, h4⟩ := h
  exact ⟨a, c, h1, h2, h3, fun hp => let ⟨b, o, cs, e, fr, e1, e2, e3⟩ := h4 hp; ⟨b, o, cs, e, fr, e1, hl _ _ e2, e3⟩⟩
def immI (k : IntKind) (v : Value) (l : List Int) : HP := know (fun I => ImmI I k v l) fun _ _ hl h => h.mono hl

theorem RdI.mk {w : World} {k : IntKind} {v : Value} {l : List Int} {a : Option Addr} {c : Nat} (h1 : v = .slice a l.length c) (h2 : l.length ≤ c) (h3 : (c : Int) ≤ 9223372036854775807)
    (h4 : 0 < l.length → ∃ b o, a = some ⟨b, o, none⟩ ∧ ∀ j, j < l.length → w.cell? ⟨b, o + j, none⟩ = some (.int k (l.getD j 0))) : RdI w k v l := by
  refine ⟨by simp, a, c, h1, h2, h3, fun hp => ?_⟩
  obtain ⟨b, o, e, hc⟩ := h4 hp
  refine ⟨b, o, e, fun j hj => ?_⟩
  rw [hc j (by omega)]
  simp [List.getD_eq_getElem?_getD, show j < l.length by omega]
theorem ImmI.rd {w : World} {n : Nat} {I : Hp} {k : IntKind} {v : Value} {l : List Int} (h : ImmI I k v l) (hI : ∀ k o, I k = some o → n ≤ k ∧ w.heap[k]? = some o) : RdI w k v l := by
  obtain ⟨a, c, h1, h2, h3, h4⟩ := h
  exact RdI.mk h1 h2 h3 fun hp => let ⟨b, o, cs, e, fr, e1, e2, e3⟩ := h4 hp; ⟨b, o, e1, fun j hj => cell_of_blk (hI _ _ e2).2 (e3 j hj)⟩
section
variable {w0 w : World} {F : HP} {e : TypeId} {k : IntKind} {v : Value} {l : List Int}
theorem Holds.imm_rd (H : Holds w0 w (immI k v l • F)) : RdI w k v l := let ⟨I, h, hI⟩ := H.of_know; h.rd hI
theorem know_ent {K K' : Hp → Prop} {hK : ∀ I I', Hp.le I I' → K I → K I'} {hK' : ∀ I I', Hp.le I I' → K' I → K' I'} (h : ∀ I, K I → K' I) (B : HP) : Ent (know K hK • B) (know K' hK' • B) := fun I x ha =>
  (know_sep K' hK' B I x).2 ⟨h I ((know_sep K hK B I x).1 ha).1, ((know_sep K hK B I x).1 ha).2⟩
theorem know_two {K K' M : Hp → Prop} {hK : ∀ I I', Hp.le I I' → K I → K I'} {hK' : ∀ I I', Hp.le I I' → K' I → K' I'} {hM : ∀ I I', Hp.le I I' → M I → M I'} (h : ∀ I, K I → K' I → M I) (B : HP) : Ent (know K hK • know K' hK' • B) (know M hM • B) := fun I x ha => by
  have h1 := (know_sep K hK _ I x).1 ha
  have h2 := (know_sep K' hK' _ I x).1 h1.2
  exact (know_sep M hM B I x).2 ⟨h I h1.1 h2.1, h2.2⟩
theorem Holds.mk_know {K : Hp → Prop} {hK : ∀ I I', Hp.le I I' → K I → K I'} (h : ∀ I, K I) (H : Holds w0 w F) : Holds w0 w (know K hK • F) := H.ent fun I x ha => (know_sep K hK F I x).2 ⟨h I, ha⟩
/-- A row of one's own is never written any more. -/
theorem Holds.freezeI (H : Holds w0 w (RowI e k v l • F)) : Holds w0 w (immI k v l • F) := by
  rcases H.row_open with ⟨a, rfl, h1, h2, H1⟩ | ⟨g, o, c, cur, rfl, h2, h3, h4, h5, H1⟩
  · have hl : l = [] := by simpa using h2
    subst hl
    exact H1.add_emp.ent fun I x ha => (know_sep _ _ F I x).2 ⟨⟨a, 0, rfl, by simp, by decide, fun h => by simp at h⟩, by rw [Go.Proofs.YtgmpclifphbjkaaGreatDoor.emp_sep] at ha; exact ha⟩
  · refine H1.freeze.ent (know_ent (fun I hI => ⟨_, c, rfl, h2, h3, fun _ => ⟨g, o, cur, e, (0, 0), rfl, hI, fun j hj => ?_⟩⟩) F)
    rw [h5 j (by omega)]
    simp [List.getD_eq_getElem?_getD, hj]
end
end Go.Proofs.YtgmpclifphbjkaaGreatDoor
end
section
/- What a rune is, a control, how wide it is, a letter: ucell's tables. -/
set_option linter.unusedSimpArgs false
set_option linter.unusedVariables false
namespace Go.Proofs.YtgmpclifphbjkaaGreatDoor
open Go.RowKit

def validM (r : Int) : Bool := decide (0 ≤ r ∧ r < 55296 ∨ 57343 < r ∧ r ≤ 1114111)
def controlM (r : Int) : Bool := decide (0 ≤ r ∧ r < 32 ∨ 127 ≤ r ∧ r ≤ 159)
def within (r : Int) (T : List (Int × Int)) : Bool := T.any fun x => decide (x.1 ≤ r ∧ r ≤ x.2)
def noneT : List (Int × Int) := [(768, 879), (1155, 1161), (1425, 1469), (1552, 1562), (1611, 1631), (3633, 3633), (3636, 3642), (3655, 3662), (6832, 6911), (7616, 7679), (8203, 8207), (8400, 8447), (12441, 12442), (65024, 65039), (65056, 65071)]
def wideT : List (Int × Int) := [(4352, 4447), (11904, 12350), (12353, 13311), (13312, 19903), (19968, 40959), (40960, 42191), (44032, 55203), (63744, 64255), (65072, 65135), (65280, 65376), (65504, 65510), (127744, 128591), (129280, 129535), (131072, 262141)]
def widthM (r : Int) : Int := if !validM r || controlM r || within r noneT then 0 else if within r wideT then 2 else 1
def letterM (r : Int) : Bool :=
  if r < 192 then decide (48 ≤ r ∧ r ≤ 57 ∨ 65 ≤ r ∧ r ≤ 90 ∨ 97 ≤ r ∧ r ≤ 122)
  else if r = 215 ∨ r = 247 ∨ r = 65533 ∨ 8192 ≤ r ∧ r ≤ 8303 ∨ 12288 ≤ r ∧ r ≤ 12351 ∨ 65280 ≤ r ∧ r ≤ 65295 then false
  else validM r && decide (0 < widthM r)

theorem Holds.cell {w0 w : World} {F : HP} (H : Holds w0 w F) {a : Addr} {v : Value} (h : w0.cell? a = some v) : w.cell? a = some v := (H.base.cell (World.block_lt_of_cell? _ _ h)).trans h
/-- The table's cells stand in a block. -/
def tabVals (T : List (Int × Int)) : List Value := T.flatMap fun x => [.int .i32 x.1, .int .i32 x.2]
/-- The program's two tables. -/
structure Tabs (w : World) : Prop where
  tnone : Rd w 2 (.slice (some ⟨0, 0, none⟩) 15 15) 15 (tabVals noneT)
  twide : Rd w 2 (.slice (some ⟨1, 0, none⟩) 14 14) 14 (tabVals wideT)
section
variable {w0 w : World} {F : HP} {r : Int}
end
end Go.Proofs.YtgmpclifphbjkaaGreatDoor
end
section
/- Where words begin and end, forward and backward. -/
set_option linter.unusedSimpArgs false
set_option linter.unusedVariables false
namespace Go.Proofs.YtgmpclifphbjkaaGreatDoor
open Go.RowKit

/-- As long as it holds, forward; backward. -/
def overM (g : Int → Bool) (l : List Int) (at_ : Nat) : Nat := at_ + ((l.drop at_).takeWhile g).length
def backM (g : Int → Bool) (l : List Int) (at_ : Nat) : Nat := at_ - ((l.take at_).reverse.takeWhile g).length
/-- A place of the line. -/
def withinM (n : Nat) (x : Int) : Nat := (min (max x 0) n).toNat
section
variable {w0 w : World} {F G : HP} {v fv : Value} {l : List Int} {g : Int → Bool}
def wordEndM (l : List Int) (x : Int) : Nat := overM letterM l (overM (fun r => !letterM r) l (withinM l.length x))
def wordStartM (l : List Int) (x : Int) : Nat := backM letterM l (backM (fun r => !letterM r) l (withinM l.length x))
def beginsM (r : Int) : Bool := decide (widthM r ≠ 0) || controlM r
/-- Where the next character begins; where the one ahead begins. -/
def nextM (l : List Int) (x : Int) : Nat := if withinM l.length x < l.length then overM (fun r => !beginsM r) l (withinM l.length x + 1) else l.length
def prevM (l : List Int) (x : Int) : Nat := backM (fun r => !beginsM r) l (withinM l.length x) - 1
end
end Go.Proofs.YtgmpclifphbjkaaGreatDoor
end
section
/- The buffer's Insert; the answers that the document fixes. -/
set_option linter.unusedSimpArgs false
set_option linter.unusedVariables false
namespace Go.Proofs.YtgmpclifphbjkaaGreatDoor
open Go.RowKit
section
variable {w0 w : World} {F : HP} {p : Nat} {L : List Int} {pt mk : Int} {v : Value} {l : List Int}
end
end Go.Proofs.YtgmpclifphbjkaaGreatDoor
end
section
/- Same: whether two texts are the same. -/
set_option linter.unusedSimpArgs false
set_option linter.unusedVariables false
namespace Go.Proofs.YtgmpclifphbjkaaGreatDoor
open Go.RowKit
end Go.Proofs.YtgmpclifphbjkaaGreatDoor
end
section
/- Reverse, SameEdit, Apply where it changes the line. -/
set_option linter.unusedSimpArgs false
set_option linter.unusedVariables false
namespace Go.Proofs.YtgmpclifphbjkaaGreatDoor
open Go.RowKit
section
variable {w0 w : World} {F : HP} {p : Nat} {L : List Int} {pt mk a : Int} {d i : Value} {dl il : List Int}
end
end Go.Proofs.YtgmpclifphbjkaaGreatDoor
end
section
/- The buffer's methods, each as one law. -/
set_option linter.unusedSimpArgs false
set_option linter.unusedVariables false
namespace Go.Proofs.YtgmpclifphbjkaaGreatDoor
open Go.RowKit
/-- What Replace answers, and what it leaves. -/
def replE (L : List Int) (i j : Int) (l : List Int) : Int := if i < 0 ∨ L.length < i ∨ j < i ∨ L.length < j then 70 else if 1024 < L.length - (j - i) + l.length then 3 else 0
def replL (L : List Int) (i j : Int) (l : List Int) : List Int := if replE L i j l = 0 then L.take i.toNat ++ l ++ L.drop j.toNat else L
def replP (L : List Int) (pt i j : Int) (l : List Int) : Int := if replE L i j l = 0 then movedP pt i j l.length else pt
def replM (L : List Int) (mk i j : Int) (l : List Int) : Int := if replE L i j l = 0 then movedM mk i j l.length else mk
def replA (L : List Int) (i j : Int) (l : List Int) : Int := if replE L i j l = 0 then i else 0
def replD (L : List Int) (i j : Int) (l : List Int) : List Int := if replE L i j l = 0 then (L.drop i.toNat).take (j - i).toNat else []
def replI (L : List Int) (i j : Int) (l : List Int) : List Int := if replE L i j l = 0 then l else []
section
variable {w0 w : World} {F : HP} {p : Nat} {L : List Int} {pt mk : Int} {v d s : Value} {l dl il : List Int} {i j a x : Int}
theorem buf_replace_ret (H : Holds w0 w (BufRep p L pt mk • F)) (hr : FRdI w0 F .i32 v l) :
    Ret Tryz.prog 113 #[.pointer (some ⟨p, 0, none⟩), .int .i64 i, .int .i64 j, v] w fun v' w' => ∃ d s, v' = .tuple #[.agg #[.int .i64 (replA L i j l), d, s], .int .i64 (replE L i j l)] ∧
      Holds w0 w' (RowI 21 .i32 d (replD L i j l) • RowI 21 .i32 s (replI L i j l) • BufRep p (replL L i j l) (replP L pt i j l) (replM L mk i j l) • F) := by
  unfold replA replL replP replM replD replI
  by_cases h1 : i < 0 ∨ L.length < i ∨ j < i ∨ L.length < j
  · have e : replE L i j l = 70 := by unfold replE; rw [if_pos h1]
    simp only [e, show ¬ (70 : Int) = 0 from by decide, if_false]
    exact (buf_replace_bad H hr h1).mono fun v' w' h => ⟨_, _, h.1, (h.2.rowi_nil none).rowi_nil none⟩
  · have h2 : 0 ≤ i ∧ i ≤ j ∧ j ≤ L.length := by omega
    by_cases h3 : 1024 < L.length - (j - i) + l.length
    · have e : replE L i j l = 3 := by unfold replE; rw [if_neg h1, if_pos h3]
      simp only [e, show ¬ (3 : Int) = 0 from by decide, if_false]
      exact (buf_replace_long H hr h2 h3).mono fun v' w' h => ⟨_, _, h.1, (h.2.rowi_nil none).rowi_nil none⟩
    · have e : replE L i j l = 0 := by unfold replE; rw [if_neg h1, if_neg h3]
      simp only [e, if_true]
      obtain ⟨i', rfl⟩ := Int.eq_ofNat_of_zero_le h2.1
      obtain ⟨j', rfl⟩ := Int.eq_ofNat_of_zero_le (show 0 ≤ j by omega)
      have hij : i' ≤ j' ∧ j' ≤ L.length := by omega
      have := buf_replace_ok (i := i') (j := j') H hr hij (by omega)
      simpa only [Int.toNat_natCast, show ((j' : Int) - (i' : Int)).toNat = j' - i' from by omega, edCells] using this
/-- What SetMark answers, and what it leaves. -/
def smE (L : List Int) (x : Int) : Int := if x < -1 ∨ L.length < x then 70 else 0
def smM (L : List Int) (mk x : Int) : Int := if x < -1 ∨ L.length < x then mk else x
theorem buf_setmark_ret (H : Holds w0 w (BufRep p L pt mk • F)) : Ret Tryz.prog 71 #[.pointer (some ⟨p, 0, none⟩), .int .i64 x] w fun v' w' => v' = .int .i64 (smE L x) ∧ Holds w0 w' (BufRep p L pt (smM L mk x) • F) := by
  unfold smE smM
  have hL : L.length ≤ 1024 := by obtain ⟨a, c, xs, f, t, h1, h2, h3, h4, h5, h6, h7, hc1, hc2, hl, H1⟩ := H.buf; exact h4
  refine ret_enter Tryz.func71 rfl Tryz.ntmps71 (Nat.le_of_ble_eq_true rfl) ?_
  dsimp only [slots0, Nat.reduceAdd]
  refine wc_seq ?_
  refine wc_region ?_
  refine wl_val (r_assign rfl) (ltn rfl) ?_
  refine wl_nil ?_
  refine wq_seq ?_
  refine wc_seq ?_
  refine wc_block ?_
  refine wc_seq ?_
  refine wc_region ?_
  refine wl_val (r_move rfl) (ltn rfl) ?_
  refine wl_eff (e_call (r_call rfl Tryz.func130 rfl rfl) (buf_none_rep H)) (ltn rfl) ?_
  rintro _ _ ⟨rfl, rfl⟩
  refine wl_val (r_assign rfl) (ltn rfl) ?_
  refine wl_nil ?_
  refine wq_seq ?_
  refine wc_cond_f rfl ?_
  refine wc_seq ?_
  refine wc_region ?_
  refine wl_val (r_move rfl) (ltn rfl) ?_
  refine wl_val (r_lss rfl rfl) (ltn rfl) ?_
  refine wl_split rfl (ltn rfl) (fun h1 => ?_) (fun h1 => ?_)
  · (try simp only [cmpS] at h1)
    try (exfalso; first | contradiction | omega)
    all_goals
      refine wl_no rfl rfl rfl (ltn rfl) ?_
      refine wl_no rfl rfl rfl (ltn rfl) ?_
      refine wl_no rfl rfl rfl (ltn rfl) ?_
      refine wl_no rfl rfl rfl (ltn rfl) ?_
      refine wl_val (r_pick_t rfl rfl) (ltn rfl) ?_
      refine wl_val (r_assign rfl) (ltn rfl) ?_
      refine wl_nil ?_
      refine wq_seq ?_
      refine wc_cond_t rfl ?_
      refine wc_seq ?_
      refine wc_region ?_
      refine wl_val (r_assign rfl) (ltn rfl) ?_
      refine wl_nil ?_
      refine wq_seq ?_
      refine wc_ret ?_
      refine wq_block_ret ?_
      refine wq_then_ret ?_
      refine wq_end1 (.inl rfl) Tryz.results71 rfl ?_
      exact ⟨by rw [if_pos (by omega)], by rw [if_pos (by omega)]; exact H⟩
  · (try simp only [cmpS] at h1)
    try (exfalso; first | contradiction | omega)
    all_goals
      refine wl_yes rfl rfl ?_
      refine wl_val (r_move rfl) (ltn rfl) ?_
      refine wl_yes rfl rfl ?_
      refine wl_val (r_move rfl) (ltn rfl) ?_
      refine wl_yes rfl rfl ?_
      refine wl_eff (e_call (r_call rfl Tryz.func69 rfl rfl) (buf_len_ret H)) (ltn rfl) ?_
      rintro _ w2 ⟨rfl, hD2⟩
      have HD2 := H.drewn hD2
      refine wl_yes rfl rfl ?_
      refine wl_val (r_gtr rfl rfl) (ltn rfl) ?_
      refine wl_val (r_pick_f rfl rfl) (ltn rfl) ?_
      refine wl_val (r_assign rfl) (ltn rfl) ?_
      refine wl_nil ?_
      refine wq_seq ?_
      refine wc_cond rfl (fun h2 => ?_) (fun h2 => ?_)
      · (try simp only [cmpS] at h2)
        try (exfalso; first | contradiction | omega)
        all_goals
          
          refine wc_seq ?_
          refine wc_region ?_
          refine wl_val (r_assign rfl) (ltn rfl) ?_
          refine wl_nil ?_
          refine wq_seq ?_
          refine wc_ret ?_
          refine wq_block_ret ?_
          refine wq_then_ret ?_
          refine wq_end1 (.inl rfl) Tryz.results71 rfl ?_
          exact ⟨by rw [if_pos (by omega)], by rw [if_pos (by omega)]; exact HD2⟩
      · (try simp only [cmpS] at h2)
        try (exfalso; first | contradiction | omega)
        all_goals
          
          refine wc_skip ?_
          refine wq_block_normal ?_
          refine wq_seq ?_
          refine wc_seq ?_
          obtain ⟨ax_p, cx_p, xs_p, f_p, t_p, g1_p, g2_p, g3_p, g4_p, g5_p, g6_p, g7_p, g8_p, g9_p, g10_p, HB_p⟩ := (HD2).buf
          refine wc_region ?_
          refine wl_val (r_move rfl) (ltn rfl) ?_
          refine wl_val (r_move rfl) (ltn rfl) ?_
          refine wl_val (r_nil rfl) (ltn rfl) ?_
          refine wl_val (r_fieldA 5 Tryz.underlying178 rfl rfl Tryz.sizeOf3 (by decide) rfl (by first | exact Nat.zero_add _ | rfl)) (ltn rfl) ?_
          refine wl_eff0 (e_storeL 5 (l' := [_, _, _, _, _, _]) HB_p Tryz.sizeOf3 rfl rfl (by first | rfl | assumption) rfl rfl) ?_
          rintro _ w4 H4
          refine wl_nil ?_
          refine wq_seq ?_
          refine wc_seq ?_
          refine wc_region ?_
          refine wl_val (r_assign rfl) (ltn rfl) ?_
          refine wl_nil ?_
          refine wq_seq ?_
          refine wc_ret ?_
          refine wq_end1 (.inl rfl) Tryz.results71 rfl ?_
          exact ⟨by rw [if_neg (by omega)], by rw [if_neg (by omega)]; exact Holds.mk_buf g1_p g2_p g3_p g4_p g5_p g6_p (by omega) H4.f2.f2⟩
def swE (mk : Int) : Int := if mk < 0 then 6 else 0
def swP (pt mk : Int) : Int := if mk < 0 then pt else mk
def swM (pt mk : Int) : Int := if mk < 0 then mk else pt
theorem buf_swap_ret (H : Holds w0 w (BufRep p L pt mk • F)) : Ret Tryz.prog 118 #[.pointer (some ⟨p, 0, none⟩)] w fun v' w' => v' = .int .i64 (swE mk) ∧ Holds w0 w' (BufRep p L (swP pt mk) (swM pt mk) • F) := by
  unfold swE swP swM
  refine ret_enter Tryz.func118 rfl Tryz.ntmps118 (Nat.le_of_ble_eq_true rfl) ?_
  dsimp only [slots0, Nat.reduceAdd]
  refine wc_seq ?_
  refine wc_region ?_
  refine wl_val (r_assign rfl) (ltn rfl) ?_
  refine wl_nil ?_
  refine wq_seq ?_
  refine wc_seq ?_
  refine wc_block ?_
  refine wc_seq ?_
  refine wc_region ?_
  refine wl_val (r_move rfl) (ltn rfl) ?_
  refine wl_eff (e_call (r_call rfl Tryz.func130 rfl rfl) (buf_none_rep H)) (ltn rfl) ?_
  rintro _ _ ⟨rfl, rfl⟩
  refine wl_val (r_assign rfl) (ltn rfl) ?_
  refine wl_nil ?_
  refine wq_seq ?_
  refine wc_cond_f rfl ?_
  refine wc_seq ?_
  obtain ⟨ax_p, cx_p, xs_p, f_p, t_p, g1_p, g2_p, g3_p, g4_p, g5_p, g6_p, g7_p, g8_p, g9_p, g10_p, HB_p⟩ := (H).buf
  refine wc_region ?_
  refine wl_val (r_move rfl) (ltn rfl) ?_
  refine wl_val (r_nil rfl) (ltn rfl) ?_
  refine wl_val (r_fieldA 5 Tryz.underlying178 rfl rfl Tryz.sizeOf3 (by decide) rfl (by first | exact Nat.zero_add _ | rfl)) (ltn rfl) ?_
  refine wl_val (r_load (plain_of Tryz.underlying3 rfl) rfl (cell_of_blk (HB_p).get.2 rfl)) (ltn rfl) ?_
  refine wl_val (r_lss rfl rfl) (ltn rfl) ?_
  refine wl_val (r_assign rfl) (ltn rfl) ?_
  refine wl_nil ?_
  refine wq_seq ?_
  refine wc_cond rfl (fun h1 => ?_) (fun h1 => ?_)
  · (try simp only [cmpS] at h1)
    try (exfalso; first | contradiction | omega)
    all_goals
      
      refine wc_seq ?_
      refine wc_region ?_
      refine wl_val (r_assign rfl) (ltn rfl) ?_
      refine wl_nil ?_
      refine wq_seq ?_
      refine wc_ret ?_
      refine wq_block_ret ?_
      refine wq_then_ret ?_
      refine wq_end1 (.inl rfl) Tryz.results118 rfl ?_
      exact ⟨by rw [if_pos (by omega)], by rw [if_pos (by omega), if_pos (by omega)]; exact Holds.mk_buf g1_p g2_p g3_p g4_p g5_p g6_p (by omega) HB_p.f2.f2⟩
  · (try simp only [cmpS] at h1)
    try (exfalso; first | contradiction | omega)
    all_goals
      
      refine wc_skip ?_
      refine wq_block_normal ?_
      refine wq_seq ?_
      refine wc_seq ?_
      have H5d2 := HB_p.drew
      have hS5d2 := Holds.kp (H5d2.f2.f2)
      refine wd_beginK [5, 9] hS5d2 (by kernel_rfl) (by kernel_rfl) rfl ?_
      refine wd_takeT 0 rfl (by kernel_rfl) (by kernel_rfl) hS5d2 (fun _ => r_move rfl) (ltn rfl) ?_
      refine wd_takeT 1 rfl (by kernel_rfl) (by kernel_rfl) hS5d2 (fun _ => r_move rfl) (ltn rfl) ?_
      refine wd_takeT 2 rfl (by kernel_rfl) (by kernel_rfl) hS5d2 (fun _ => r_move rfl) (ltn rfl) ?_
      refine wd_takeT 3 rfl (by kernel_rfl) (by kernel_rfl) hS5d2 (fun _ => r_nil rfl) (ltn rfl) ?_
      refine wd_takeT 4 rfl (by kernel_rfl) (by kernel_rfl) hS5d2 (fun _ => r_fieldA 5 Tryz.underlying178 rfl rfl Tryz.sizeOf3 (by decide) rfl (by first | exact Nat.zero_add _ | rfl)) (ltn rfl) ?_
      refine wd_take 5 rfl (by kernel_rfl) (by kernel_rfl) hS5d2 (by decide) (fun W hW => r_load (plain_of Tryz.underlying3 rfl) rfl (cell_of_blk ((Kp.h hW)).get.2 rfl)) (ltn rfl) ?_
      refine wd_takeT 6 rfl (by kernel_rfl) (by kernel_rfl) hS5d2 (fun _ => r_move rfl) (ltn rfl) ?_
      refine wd_takeT 7 rfl (by kernel_rfl) (by kernel_rfl) hS5d2 (fun _ => r_nil rfl) (ltn rfl) ?_
      refine wd_takeT 8 rfl (by kernel_rfl) (by kernel_rfl) hS5d2 (fun _ => r_fieldA 4 Tryz.underlying178 rfl rfl Tryz.sizeOf3 (by decide) rfl (by first | exact Nat.zero_add _ | rfl)) (ltn rfl) ?_
      refine wd_take 9 rfl (by kernel_rfl) (by kernel_rfl) hS5d2 (by decide) (fun W hW => r_load (plain_of Tryz.underlying3 rfl) rfl (cell_of_blk ((Kp.h hW)).get.2 rfl)) (ltn rfl) ?_
      refine wd_takeT 10 rfl (by kernel_rfl) (by kernel_rfl) hS5d2 (fun _ => r_nil rfl) (ltn rfl) ?_
      refine wd_takeT 11 rfl (by kernel_rfl) (by kernel_rfl) hS5d2 (fun _ => r_fieldA 4 Tryz.underlying178 rfl rfl Tryz.sizeOf3 (by decide) rfl (by first | exact Nat.zero_add _ | rfl)) (ltn rfl) ?_
      refine wd_eff0 12 rfl (by kernel_rfl) (e_storeL 4 (l' := [_, _, _, _, _, _]) H5d2 Tryz.sizeOf3 rfl rfl (by first | rfl | assumption) rfl rfl) ?_
      rintro _ w3 H3
      have hS3n := Holds.kp (H3.f2.f2)
      refine keepX hS3n (by kernel_rfl) ?_
      refine wd_takeT 13 rfl (by kernel_rfl) (by kernel_rfl) hS3n (fun _ => r_nil rfl) (ltn rfl) ?_
      refine wd_takeT 14 rfl (by kernel_rfl) (by kernel_rfl) hS3n (fun _ => r_fieldA 5 Tryz.underlying178 rfl rfl Tryz.sizeOf3 (by decide) rfl (by first | exact Nat.zero_add _ | rfl)) (ltn rfl) ?_
      refine wd_eff0 15 rfl (by kernel_rfl) (e_storeL 5 (l' := [_, _, _, _, _, _]) H3 Tryz.sizeOf3 rfl rfl (by first | rfl | assumption) rfl rfl) ?_
      rintro _ w4 H4
      have hS4n := Holds.kp (H4.f2.f2)
      refine keepX hS4n (by kernel_rfl) ?_
      refine wd_done (by kernel_rfl) ?_
      refine wq_seq ?_
      refine wc_seq ?_
      refine wc_region ?_
      refine wl_val (r_assign rfl) (ltn rfl) ?_
      refine wl_nil ?_
      refine wq_seq ?_
      refine wc_ret ?_
      refine wq_end1 (.inl rfl) Tryz.results118 rfl ?_
      exact ⟨by rw [if_neg (by omega)], by rw [if_neg (by omega), if_neg (by omega)]; exact Holds.mk_buf g1_p g2_p g3_p g4_p g5_p (by omega) (by omega) H4.f2.f2⟩
theorem buf_clone_ret (H : Holds w0 w (BufRep p L pt mk • F)) : Ret Tryz.prog 111 #[.pointer (some ⟨p, 0, none⟩)] w fun v' w' => ∃ q, v' = .pointer (some ⟨q, 0, none⟩) ∧ Holds w0 w' (BufRep q L pt mk • BufRep p L pt mk • F) := by
  refine ret_enter Tryz.func111 rfl Tryz.ntmps111 (Nat.le_of_ble_eq_true rfl) ?_
  dsimp only [slots0, Nat.reduceAdd]
  refine wc_seq ?_
  refine wc_region ?_
  refine wl_val (r_assign rfl) (ltn rfl) ?_
  refine wl_nil ?_
  refine wq_seq ?_
  refine wc_seq ?_
  refine wc_seq ?_
  refine wc_region ?_
  refine wl_val (r_move rfl) (ltn rfl) ?_
  refine wl_eff (e_call (r_call rfl Tryz.func130 rfl rfl) (buf_none_rep H)) (ltn rfl) ?_
  rintro _ _ ⟨rfl, rfl⟩
  refine wl_nil ?_
  refine wq_seq ?_
  refine wc_cond_f rfl ?_
  refine wc_skip ?_
  refine wq_seq ?_
  refine wc_seq ?_
  obtain ⟨ax_p, cx_p, xs_p, f_p, t_p, g1_p, g2_p, g3_p, g4_p, g5_p, g6_p, g7_p, g8_p, g9_p, g10_p, HB_p⟩ := (H).buf
  refine wc_region ?_
  refine wl_val (r_move rfl) (ltn rfl) ?_
  refine wl_val (r_nil rfl) (ltn rfl) ?_
  refine wl_val (r_load_whole Tryz.underlying178 rfl Tryz.sizeOf178 rfl rfl (HB_p).get.2) (ltn rfl) ?_
  refine wl_eff (e_allocL (l := [_, _, _, _, _, _]) HB_p Tryz.zeroValue178 rfl) (ltn rfl) ?_
  rintro _ w3 ⟨b3, rfl, H3⟩
  refine wl_eff0 (e_storePL 0 (l' := [_, _, _, _, _, _]) (us := [_, _, _, _, _, _]) H3 Tryz.sizeOf178 rfl rfl rfl (ones_cons (by first | rfl | assumption) (ones_cons (by first | rfl | exact Rd.one ((H3.f3).row_rd)) (ones_cons (by first | rfl | assumption) (ones_cons (by first | rfl | assumption) (ones_cons (by first | rfl | assumption) (ones_cons (by first | rfl | assumption) ones_nil)))))) rfl rfl) ?_
  rintro _ w4 H4
  refine wl_nil ?_
  refine wq_seq ?_
  refine wc_seq ?_
  refine wc_region ?_
  refine wl_val (r_move rfl) (ltn rfl) ?_
  refine wl_val (r_nil rfl) (ltn rfl) ?_
  refine wl_val (r_fieldA 1 Tryz.underlying178 rfl rfl Tryz.sizeOf22 (by decide) rfl (by first | exact Nat.zero_add _ | rfl)) (ltn rfl) ?_
  refine wl_val (r_load (plain_of Tryz.underlying22 rfl) rfl (cell_of_blk (H4.f2).get.2 rfl)) (ltn rfl) ?_
  refine wl_eff (e_call (r_call rfl Tryz.func136 rfl rfl) (clone_ret H4 (fun W HW => (HW.f3).row_rd) (by omega))) (ltn rfl) ?_
  rintro u5 w5 H5
  refine wl_val (r_fieldA 1 Tryz.underlying178 rfl rfl Tryz.sizeOf22 (by decide) rfl (by first | exact Nat.zero_add _ | rfl)) (ltn rfl) ?_
  refine wl_eff0 (e_storeL 1 (l' := [_, _, _, _, _, _]) H5.f2 Tryz.sizeOf22 rfl rfl (by first | rfl | exact Rd.one ((H5).row_rd)) rfl rfl) ?_
  rintro _ w6 H6
  refine wl_nil ?_
  refine wq_seq ?_
  refine wc_seq ?_
  refine wc_region ?_
  refine wl_val (r_assign rfl) (ltn rfl) ?_
  refine wl_nil ?_
  refine wq_seq ?_
  refine wc_ret ?_
  refine wq_end1 (.inl rfl) Tryz.results111 rfl ?_
  exact ⟨_, rfl, (Holds.mk_buf g1_p g2_p g3_p g4_p g5_p g6_p (by omega) (Holds.mk_buf g1_p g2_p g3_p g4_p g5_p g6_p (by omega) H6.f4.f4.f4.f4).f2.f3.f2).f2⟩
/-- What Apply answers, and what it leaves. -/
def fitsE (L : List Int) (a : Int) (dl : List Int) : Bool := decide ((dl.length : Int) ≤ L.length - a) && ((L.drop a.toNat).take dl.length == dl)
def appE (L : List Int) (a : Int) (dl il : List Int) : Int := if a < 0 ∨ L.length < a then 70 else if fitsE L a dl then replE L a (a + dl.length) il else 71
def appL (L : List Int) (a : Int) (dl il : List Int) : List Int := if appE L a dl il = 0 then replL L a (a + dl.length) il else L
def appP (L : List Int) (pt a : Int) (dl il : List Int) : Int := if appE L a dl il = 0 then replP L pt a (a + dl.length) il else pt
def appM (L : List Int) (mk a : Int) (dl il : List Int) : Int := if appE L a dl il = 0 then replM L mk a (a + dl.length) il else mk
theorem buf_apply_ret (H : Holds w0 w (BufRep p L pt mk • F)) (hd : FRdI w0 F .i32 d dl) (hi : FRdI w0 F .i32 s il) : Ret Tryz.prog 59 #[.pointer (some ⟨p, 0, none⟩), .agg #[.int .i64 a, d, s]] w fun v' w' =>
    v' = .int .i64 (appE L a dl il) ∧ Holds w0 w' (BufRep p (appL L a dl il) (appP L pt a dl il) (appM L mk a dl il) • F) := by
  have hL : L.length ≤ 1024 := by obtain ⟨a, c, xs, f, t, h1, h2, h3, h4, h5, h6, h7, hc1, hc2, hl, H1⟩ := H.buf; exact h4
  refine ret_enter Tryz.func59 rfl Tryz.ntmps59 (Nat.le_of_ble_eq_true rfl) ?_
  dsimp only [slots0, Nat.reduceAdd]
  refine wc_seq ?_
  refine wc_region ?_
  refine wl_eff (e_boxL (l := [_, _, _]) H rfl rfl) (ltn rfl) ?_
  rintro _ w1 ⟨b1, rfl, H1⟩
  refine wl_val (r_assign rfl) (ltn rfl) ?_
  refine wl_nil ?_
  refine wq_seq ?_
  refine wc_seq ?_
  refine wc_block ?_
  refine wc_seq ?_
  refine wc_region ?_
  refine wl_val (r_move rfl) (ltn rfl) ?_
  refine wl_eff (e_call (r_call rfl Tryz.func130 rfl rfl) (buf_none_rep H1.f2)) (ltn rfl) ?_
  rintro _ _ ⟨rfl, rfl⟩
  refine wl_val (r_assign rfl) (ltn rfl) ?_
  refine wl_nil ?_
  refine wq_seq ?_
  refine wc_cond_f rfl ?_
  refine wc_seq ?_
  have H3d2 := H1.drew
  have hS3d2 := Holds.kp (H3d2.f2.f2)
  refine wd_beginK [1, 5] hS3d2 (by kernel_rfl) (by kernel_rfl) rfl ?_
  refine wd_takeT 0 rfl (by kernel_rfl) (by kernel_rfl) hS3d2 (fun _ => r_fieldA 0 Tryz.underlying120 rfl rfl Tryz.sizeOf3 (by decide) rfl (by first | exact Nat.zero_add _ | rfl)) (ltn rfl) ?_
  refine wd_take 1 rfl (by kernel_rfl) (by kernel_rfl) hS3d2 (by decide) (fun W hW => r_load (plain_of Tryz.underlying3 rfl) rfl (cell_of_blk ((Kp.h hW)).get.2 rfl)) (ltn rfl) ?_
  refine wd_takeT 2 rfl (by kernel_rfl) (by kernel_rfl) hS3d2 (fun _ => r_lss rfl rfl) (ltn rfl) ?_
  refine wd_split 3 rfl rfl (by kernel_rfl) (by kernel_rfl) hS3d2 (ltn rfl) (fun h1 => ?_) (fun h1 => ?_)
  · (try simp only [cmpS] at h1)
    try (exfalso; first | contradiction | omega)
    all_goals
      refine wd_no 4 rfl rfl rfl rfl (by kernel_rfl) (by kernel_rfl) hS3d2 (ltn rfl) ?_
      refine wd_no 5 rfl rfl rfl rfl (by kernel_rfl) (by kernel_rfl) hS3d2 (ltn rfl) ?_
      refine wd_no 6 rfl rfl rfl rfl (by kernel_rfl) (by kernel_rfl) hS3d2 (ltn rfl) ?_
      refine wd_no 7 rfl rfl rfl rfl (by kernel_rfl) (by kernel_rfl) hS3d2 (ltn rfl) ?_
      refine wd_no 8 rfl rfl rfl rfl (by kernel_rfl) (by kernel_rfl) hS3d2 (ltn rfl) ?_
      refine wd_takeT 9 rfl (by kernel_rfl) (by kernel_rfl) hS3d2 (fun _ => r_pick_t rfl rfl) (ltn rfl) ?_
      refine wd_takeT 10 rfl (by kernel_rfl) (by kernel_rfl) hS3d2 (fun _ => r_assign rfl) (ltn rfl) ?_
      refine wd_done (by kernel_rfl) ?_
      refine wq_seq ?_
      refine wc_cond_t rfl ?_
      refine wc_seq ?_
      refine wc_region ?_
      refine wl_val (r_assign rfl) (ltn rfl) ?_
      refine wl_nil ?_
      refine wq_seq ?_
      refine wc_ret ?_
      refine wq_block_ret ?_
      refine wq_then_ret ?_
      refine wq_end1 (.inl rfl) Tryz.results59 rfl ?_
      have e : appE L a dl il = 70 := by unfold appE; rw [if_pos (by omega)]
      unfold appL appP appM
      rw [e]
      exact ⟨rfl, H3d2.right⟩
  · (try simp only [cmpS] at h1)
    try (exfalso; first | contradiction | omega)
    all_goals
      refine wd_takeT_yes 4 rfl rfl rfl (by kernel_rfl) (by kernel_rfl) hS3d2 (fun _ => r_fieldA 0 Tryz.underlying120 rfl rfl Tryz.sizeOf3 (by decide) rfl (by first | exact Nat.zero_add _ | rfl)) (ltn rfl) ?_
      refine wd_take_yes 5 rfl rfl rfl (by kernel_rfl) (by kernel_rfl) hS3d2 (by decide) (fun W hW => r_load (plain_of Tryz.underlying3 rfl) rfl (cell_of_blk ((Kp.h hW)).get.2 rfl)) (ltn rfl) ?_
      refine wd_takeT_yes 6 rfl rfl rfl (by kernel_rfl) (by kernel_rfl) hS3d2 (fun _ => r_move rfl) (ltn rfl) ?_
      refine wd_eff_yes 7 rfl rfl rfl (by kernel_rfl) (e_call (r_call rfl Tryz.func69 rfl rfl) (buf_len_ret H3d2.f2)) (ltn rfl) ?_
      rintro _ w3 ⟨rfl, hD3⟩
      have HD3 := H3d2.drewn hD3
      have hS3n := Holds.kp (HD3.f2.f2)
      refine keepK hS3n (fun W hW => (Kp.h hW).f2.f2) ?_
      refine wd_takeT_yes 8 rfl rfl rfl (by kernel_rfl) (by kernel_rfl) hS3n (fun _ => r_gtr rfl rfl) (ltn rfl) ?_
      refine wd_takeT 9 rfl (by kernel_rfl) (by kernel_rfl) hS3n (fun _ => r_pick_f rfl rfl) (ltn rfl) ?_
      refine wd_takeT 10 rfl (by kernel_rfl) (by kernel_rfl) hS3n (fun _ => r_assign rfl) (ltn rfl) ?_
      refine wd_done (by kernel_rfl) ?_
      refine wq_seq ?_
      refine wc_cond rfl (fun h2 => ?_) (fun h2 => ?_)
      · (try simp only [cmpS] at h2)
        try (exfalso; first | contradiction | omega)
        all_goals
          
          refine wc_seq ?_
          refine wc_region ?_
          refine wl_val (r_assign rfl) (ltn rfl) ?_
          refine wl_nil ?_
          refine wq_seq ?_
          refine wc_ret ?_
          refine wq_block_ret ?_
          refine wq_then_ret ?_
          refine wq_end1 (.inl rfl) Tryz.results59 rfl ?_
          have e : appE L a dl il = 70 := by unfold appE; rw [if_pos (by omega)]
          unfold appL appP appM
          rw [e]
          exact ⟨rfl, HD3.right⟩
      · (try simp only [cmpS] at h2)
        try (exfalso; first | contradiction | omega)
        all_goals
          
          refine wc_seq ?_
          have H5d3 := HD3.drew
          have hS5d3 := Holds.kp (H5d3.f2.f2)
          refine wd_beginK [1, 6, 13, 15, 17, 22] hS5d3 (by kernel_rfl) (by kernel_rfl) rfl ?_
          refine wd_takeT 0 rfl (by kernel_rfl) (by kernel_rfl) hS5d3 (fun _ => r_fieldA 1 Tryz.underlying120 rfl rfl Tryz.sizeOf22 (by decide) rfl (by first | exact Nat.zero_add _ | rfl)) (ltn rfl) ?_
          refine wd_take 1 rfl (by kernel_rfl) (by kernel_rfl) hS5d3 (by decide) (fun W hW => r_load (plain_of Tryz.underlying22 rfl) rfl (cell_of_blk ((Kp.h hW)).get.2 rfl)) (ltn rfl) ?_
          refine wd_takeT 2 rfl (by kernel_rfl) (by kernel_rfl) hS5d3 (fun _ => r_lenR (hd _ (H5d3.right.right)) Tryz.underlying22 rfl) (ltn rfl) ?_
          refine wd_takeT 3 rfl (by kernel_rfl) (by kernel_rfl) hS5d3 (fun _ => r_move rfl) (ltn rfl) ?_
          refine wd_takeT 5 rfl (by kernel_rfl) (by kernel_rfl) hS5d3 (fun _ => r_fieldA 0 Tryz.underlying120 rfl rfl Tryz.sizeOf3 (by decide) rfl (by first | exact Nat.zero_add _ | rfl)) (ltn rfl) ?_
          refine wd_take 6 rfl (by kernel_rfl) (by kernel_rfl) hS5d3 (by decide) (fun W hW => r_load (plain_of Tryz.underlying3 rfl) rfl (cell_of_blk ((Kp.h hW)).get.2 rfl)) (ltn rfl) ?_
          refine wd_eff 4 rfl (by kernel_rfl) (e_call (r_call rfl Tryz.func69 rfl rfl) (buf_len_ret H5d3.f2)) (ltn rfl) ?_
          rintro _ w4 ⟨rfl, hD4⟩
          have HD4 := H5d3.drewn hD4
          have hS4n := Holds.kp (HD4.f2.f2)
          refine keepK hS4n (fun W hW => (Kp.h hW).f2.f2) ?_
          refine wd_takeT 7 rfl (by kernel_rfl) (by kernel_rfl) hS4n (fun _ => r_sub rfl rfl (by omega)) (ltn rfl) ?_
          refine wd_takeT 8 rfl (by kernel_rfl) (by kernel_rfl) hS4n (fun _ => r_gtr rfl rfl) (ltn rfl) ?_
          refine wd_split 9 rfl rfl (by kernel_rfl) (by kernel_rfl) hS4n (ltn rfl) (fun h3 => ?_) (fun h3 => ?_)
          · (try simp only [cmpS] at h3)
            try (exfalso; first | contradiction | omega)
            all_goals
              refine wd_no 10 rfl rfl rfl rfl (by kernel_rfl) (by kernel_rfl) hS4n (ltn rfl) ?_
              refine wd_no 11 rfl rfl rfl rfl (by kernel_rfl) (by kernel_rfl) hS4n (ltn rfl) ?_
              refine wd_no 12 rfl rfl rfl rfl (by kernel_rfl) (by kernel_rfl) hS4n (ltn rfl) ?_
              refine wd_no 13 rfl rfl rfl rfl (by kernel_rfl) (by kernel_rfl) hS4n (ltn rfl) ?_
              refine wd_no 14 rfl rfl rfl rfl (by kernel_rfl) (by kernel_rfl) hS4n (ltn rfl) ?_
              refine wd_no 15 rfl rfl rfl rfl (by kernel_rfl) (by kernel_rfl) hS4n (ltn rfl) ?_
              refine wd_no 16 rfl rfl rfl rfl (by kernel_rfl) (by kernel_rfl) hS4n (ltn rfl) ?_
              refine wd_no 17 rfl rfl rfl rfl (by kernel_rfl) (by kernel_rfl) hS4n (ltn rfl) ?_
              refine wd_no 18 rfl rfl rfl rfl (by kernel_rfl) (by kernel_rfl) hS4n (ltn rfl) ?_
              refine wd_no 19 rfl rfl rfl rfl (by kernel_rfl) (by kernel_rfl) hS4n (ltn rfl) ?_
              refine wd_no 20 rfl rfl rfl rfl (by kernel_rfl) (by kernel_rfl) hS4n (ltn rfl) ?_
              refine wd_no 21 rfl rfl rfl rfl (by kernel_rfl) (by kernel_rfl) hS4n (ltn rfl) ?_
              refine wd_no 22 rfl rfl rfl rfl (by kernel_rfl) (by kernel_rfl) hS4n (ltn rfl) ?_
              refine wd_no 23 rfl rfl rfl rfl (by kernel_rfl) (by kernel_rfl) hS4n (ltn rfl) ?_
              refine wd_no 24 rfl rfl rfl rfl (by kernel_rfl) (by kernel_rfl) hS4n (ltn rfl) ?_
              refine wd_takeT 25 rfl (by kernel_rfl) (by kernel_rfl) hS4n (fun _ => r_pick_t rfl rfl) (ltn rfl) ?_
              refine wd_takeT 26 rfl (by kernel_rfl) (by kernel_rfl) hS4n (fun _ => r_assign rfl) (ltn rfl) ?_
              refine wd_done (by kernel_rfl) ?_
              refine wq_seq ?_
              refine wc_cond_t rfl ?_
              refine wc_seq ?_
              refine wc_region ?_
              refine wl_val (r_assign rfl) (ltn rfl) ?_
              refine wl_nil ?_
              refine wq_seq ?_
              refine wc_ret ?_
              refine wq_block_ret ?_
              refine wq_then_ret ?_
              refine wq_end1 (.inl rfl) Tryz.results59 rfl ?_
              have e1 : (a + dl.length).toNat - a.toNat = dl.length := by omega
              have hf : fitsE L a dl = false := by
                simp only [fitsE, Bool.and_eq_false_iff, decide_eq_false_iff_not, beq_eq_false_iff_ne, ne_eq]
                first
                  | (refine .inl ?_; omega)
                  | (refine .inr ?_; rw [e1] at hcond; exact hcond)
              have e : appE L a dl il = 71 := by unfold appE; rw [if_neg (by omega), hf]; rfl
              unfold appL appP appM
              rw [e]
              exact ⟨rfl, HD4.right⟩
          · (try simp only [cmpS] at h3)
            try (exfalso; first | contradiction | omega)
            all_goals
              refine wd_takeT_yes 10 rfl rfl rfl (by kernel_rfl) (by kernel_rfl) hS4n (fun _ => r_move rfl) (ltn rfl) ?_
              refine wd_takeT_yes 12 rfl rfl rfl (by kernel_rfl) (by kernel_rfl) hS4n (fun _ => r_fieldA 0 Tryz.underlying120 rfl rfl Tryz.sizeOf3 (by decide) rfl (by first | exact Nat.zero_add _ | rfl)) (ltn rfl) ?_
              refine wd_take_yes 13 rfl rfl rfl (by kernel_rfl) (by kernel_rfl) hS4n (by decide) (fun W hW => r_load (plain_of Tryz.underlying3 rfl) rfl (cell_of_blk ((Kp.h hW)).get.2 rfl)) (ltn rfl) ?_
              refine wd_takeT_yes 14 rfl rfl rfl (by kernel_rfl) (by kernel_rfl) hS4n (fun _ => r_fieldA 0 Tryz.underlying120 rfl rfl Tryz.sizeOf3 (by decide) rfl (by first | exact Nat.zero_add _ | rfl)) (ltn rfl) ?_
              refine wd_take_yes 15 rfl rfl rfl (by kernel_rfl) (by kernel_rfl) hS4n (by decide) (fun W hW => r_load (plain_of Tryz.underlying3 rfl) rfl (cell_of_blk ((Kp.h hW)).get.2 rfl)) (ltn rfl) ?_
              refine wd_takeT_yes 16 rfl rfl rfl (by kernel_rfl) (by kernel_rfl) hS4n (fun _ => r_fieldA 1 Tryz.underlying120 rfl rfl Tryz.sizeOf22 (by decide) rfl (by first | exact Nat.zero_add _ | rfl)) (ltn rfl) ?_
              refine wd_take_yes 17 rfl rfl rfl (by kernel_rfl) (by kernel_rfl) hS4n (by decide) (fun W hW => r_load (plain_of Tryz.underlying22 rfl) rfl (cell_of_blk ((Kp.h hW)).get.2 rfl)) (ltn rfl) ?_
              refine wd_takeT_yes 18 rfl rfl rfl (by kernel_rfl) (by kernel_rfl) hS4n (fun _ => r_lenR (hd _ (HD4.right.right)) Tryz.underlying22 rfl) (ltn rfl) ?_
              refine wd_takeT_yes 19 rfl rfl rfl (by kernel_rfl) (by kernel_rfl) hS4n (fun _ => r_add rfl rfl (by omega)) (ltn rfl) ?_
              refine wd_takeT_yes 21 rfl rfl rfl (by kernel_rfl) (by kernel_rfl) hS4n (fun _ => r_fieldA 1 Tryz.underlying120 rfl rfl Tryz.sizeOf22 (by decide) rfl (by first | exact Nat.zero_add _ | rfl)) (ltn rfl) ?_
              refine wd_take_yes 22 rfl rfl rfl (by kernel_rfl) (by kernel_rfl) hS4n (by decide) (fun W hW => r_load (plain_of Tryz.underlying22 rfl) rfl (cell_of_blk ((Kp.h hW)).get.2 rfl)) (ltn rfl) ?_
              refine wd_eff_yes 11 rfl rfl rfl (by kernel_rfl) (e_call (r_call rfl Tryz.func117 rfl rfl) (buf_text_ret HD4.f2)) (ltn rfl) ?_
              rintro u5 w5 H5
              have hS5n := Holds.kp (H5.f3.f3.f3)
              refine keepK hS5n (fun W hW => (Kp.h hW).right.f2) ?_
              refine wd_takeT_yes 20 rfl rfl rfl (by kernel_rfl) (by kernel_rfl) hS5n (fun _ => r_sliceS ((H5).row_rd) Tryz.underlying22 Tryz.sizeOf21 rfl rfl rfl (by omega)) (ltn rfl) ?_
              refine wd_eff_yes 23 rfl rfl rfl (by kernel_rfl) (e_call (r_call rfl Tryz.func17 rfl rfl) (equal_ret _ _ _ _ _ (RdI.cut ((H5).row_rd) (by omega) (by omega)) (hd _ (H5.right.right.right)))) (ltn rfl) ?_
              rintro _ w6 ⟨rfl, hD6⟩
              have HD6 := H5.drewn hD6
              have hS6n := Holds.kp (HD6.f3.f3.f3)
              refine keepX hS6n (by kernel_rfl) ?_
              refine wd_takeT_yes 24 rfl rfl rfl (by kernel_rfl) (by kernel_rfl) hS6n (fun _ => r_not rfl) (ltn rfl) ?_
              refine wd_takeT 25 rfl (by kernel_rfl) (by kernel_rfl) hS6n (fun _ => r_pick_f rfl rfl) (ltn rfl) ?_
              refine wd_takeT 26 rfl (by kernel_rfl) (by kernel_rfl) hS6n (fun _ => r_assign rfl) (ltn rfl) ?_
              refine wd_done (by kernel_rfl) ?_
              refine wq_seq ?_
              refine wc_cond rfl (fun h4 => ?_) (fun h4 => ?_)
              · (try simp only [cmpS] at h4)
                try (exfalso; first | contradiction | omega)
                all_goals
                  have hcond := h4
                  refine wc_seq ?_
                  refine wc_region ?_
                  refine wl_val (r_assign rfl) (ltn rfl) ?_
                  refine wl_nil ?_
                  refine wq_seq ?_
                  refine wc_ret ?_
                  refine wq_block_ret ?_
                  refine wq_then_ret ?_
                  refine wq_end1 (.inl rfl) Tryz.results59 rfl ?_
                  have e1 : (a + dl.length).toNat - a.toNat = dl.length := by omega
                  have hf : fitsE L a dl = false := by
                    simp only [fitsE, Bool.and_eq_false_iff, decide_eq_false_iff_not, beq_eq_false_iff_ne, ne_eq]
                    first
                      | (refine .inl ?_; omega)
                      | (refine .inr ?_; rw [e1] at hcond; exact hcond)
                  have e : appE L a dl il = 71 := by unfold appE; rw [if_neg (by omega), hf]; rfl
                  unfold appL appP appM
                  rw [e]
                  exact ⟨rfl, HD6.right.f2.right⟩
              · (try simp only [cmpS] at h4)
                try (exfalso; first | contradiction | omega)
                all_goals
                  have hcond := h4
                  refine wc_skip ?_
                  refine wq_block_normal ?_
                  refine wq_seq ?_
                  refine wc_seq ?_
                  refine wc_region ?_
                  refine wl_val (r_move rfl) (ltn rfl) ?_
                  refine wl_val (r_fieldA 0 Tryz.underlying120 rfl rfl Tryz.sizeOf3 (by decide) rfl (by first | exact Nat.zero_add _ | rfl)) (ltn rfl) ?_
                  refine wl_val (r_load (plain_of Tryz.underlying3 rfl) rfl (cell_of_blk (HD6.f3).get.2 rfl)) (ltn rfl) ?_
                  refine wl_val (r_fieldA 0 Tryz.underlying120 rfl rfl Tryz.sizeOf3 (by decide) rfl (by first | exact Nat.zero_add _ | rfl)) (ltn rfl) ?_
                  refine wl_val (r_load (plain_of Tryz.underlying3 rfl) rfl (cell_of_blk (HD6.f3).get.2 rfl)) (ltn rfl) ?_
                  refine wl_val (r_fieldA 1 Tryz.underlying120 rfl rfl Tryz.sizeOf22 (by decide) rfl (by first | exact Nat.zero_add _ | rfl)) (ltn rfl) ?_
                  refine wl_val (r_load (plain_of Tryz.underlying22 rfl) rfl (cell_of_blk (HD6.f3).get.2 rfl)) (ltn rfl) ?_
                  refine wl_val (r_lenR (hd _ (HD6.right.right.right)) Tryz.underlying22 rfl) (ltn rfl) ?_
                  refine wl_val (r_add rfl rfl (by omega)) (ltn rfl) ?_
                  refine wl_val (r_fieldA 2 Tryz.underlying120 rfl rfl Tryz.sizeOf22 (by decide) rfl (by first | exact Nat.zero_add _ | rfl)) (ltn rfl) ?_
                  refine wl_val (r_load (plain_of Tryz.underlying22 rfl) rfl (cell_of_blk (HD6.f3).get.2 rfl)) (ltn rfl) ?_
                  refine wl_eff (e_call (r_call rfl Tryz.func113 rfl rfl) (buf_replace_ret HD6.f2 (fun W HW => hi _ (HW.right.right)))) (ltn rfl) ?_
                  rintro _ w7 ⟨d7, s7, rfl, H7⟩
                  refine wl_val (r_move rfl) (ltn rfl) ?_
                  refine wl_val (r_extract rfl rfl) (ltn rfl) ?_
                  refine wl_val (r_extract rfl rfl) (ltn rfl) ?_
                  refine wl_eff (e_allocL (l := [_, _, _]) H7 Tryz.zeroValue120 rfl) (ltn rfl) ?_
                  rintro _ w8 ⟨b8, rfl, H8⟩
                  refine wl_eff0 (e_storePL 0 (l' := [_, _, _]) (us := [_, _, _]) H8 Tryz.sizeOf120 rfl rfl rfl (ones_cons (by first | rfl | assumption) (ones_cons (by first | rfl | exact Rd.one ((H8.f2).row_rd)) (ones_cons (by first | rfl | exact Rd.one ((H8.f3).row_rd)) ones_nil))) rfl rfl) ?_
                  rintro _ w9 H9
                  refine wl_val (r_assign rfl) (ltn rfl) ?_
                  refine wl_nil ?_
                  refine wq_seq ?_
                  refine wc_seq ?_
                  refine wc_region ?_
                  refine wl_val (r_move rfl) (ltn rfl) ?_
                  refine wl_val (r_assign rfl) (ltn rfl) ?_
                  refine wl_nil ?_
                  refine wq_seq ?_
                  refine wc_ret ?_
                  refine wq_end1 (.inl rfl) Tryz.results59 rfl ?_
                  have e1 : (a + dl.length).toNat - a.toNat = dl.length := by omega
                  have hf : fitsE L a dl = true := by
                    simp only [fitsE, Bool.and_eq_true, decide_eq_true_eq, beq_iff_eq]
                    exact ⟨by omega, by rw [e1] at hcond; exact hcond⟩
                  have e : appE L a dl il = replE L a (a + dl.length) il := by unfold appE; rw [if_neg (by omega), if_pos hf]
                  refine ⟨by rw [e]; rfl, ?_⟩
                  unfold appL appP appM
                  rw [e]
                  by_cases h0 : replE L a (a + dl.length) il = 0
                  · simp only [if_pos h0]; exact H9.right.right.right.f2.right.f2.right
                  · simp only [if_neg h0]
                    have H9 := H9.right.right.right.f2.right.f2.right
                    unfold replL replP replM at H9
                    simpa only [if_neg h0] using H9
end
end Go.Proofs.YtgmpclifphbjkaaGreatDoor
end
