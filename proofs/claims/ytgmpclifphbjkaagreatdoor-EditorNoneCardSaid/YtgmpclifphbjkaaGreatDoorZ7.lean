import Derived.Test.YtgmpclifphbjkaaGreatDoorZ6
import Derived.Test.YtgmpclifphbjkaaGreatDoorZ4
import Derived.Test.YtgmpclifphbjkaaGreatDoorZ3
import Derived.Test.YtgmpclifphbjkaaGreatDoorProg
/- Texts of mine, joined: LineP Fun Imm Tab Move BLive Same Apply BufP Ring Ring2 Ring3 RingAny LL Flat. -/
section
/- A buffer's Move and Line. -/
set_option linter.unusedSimpArgs false
set_option linter.unusedVariables false
namespace Go.Proofs.YtgmpclifphbjkaaGreatDoor
open Go.RowKit
/-- Where the point is behind a move. -/
def mvP (n : Nat) (pt x : Int) : Int := if 0 ≤ x ∧ x ≤ n then x else pt
def mvE (n : Nat) (x : Int) : Int := if 0 ≤ x ∧ x ≤ n then 0 else 70
/-- A line's cells. -/
def lineCells (v : Value) (pt mk : Int) : Array Value := #[v, .int .i64 pt, .int .i64 mk]
theorem line_ones {v : Value} {pt mk : Int} (h : v.oneCell' = true) : ∀ u ∈ (lineCells v pt mk).toList, u.oneCell' = true := by
  intro u hu
  simp [lineCells] at hu
  rcases hu with rfl | rfl | rfl
  · exact h
  · rfl
  · rfl
section
variable {w0 w : World} {F : HP} {p : Nat} {L : List Int} {pt mk x : Int} {v : Value} {l : List Int}
theorem buf_line_ret (H : Holds w0 w (BufRep p L pt mk • F)) : Ret Tryz.prog 62 #[.pointer (some ⟨p, 0, none⟩)] w fun v' w' => ∃ u, v' = .agg (lineCells u pt mk) ∧ Holds w0 w' (RowI 21 .i32 u L • BufRep p L pt mk • F) := by
  refine ret_enter Tryz.func62 rfl Tryz.ntmps62 (Nat.le_of_ble_eq_true rfl) ?_
  dsimp only [slots0, Nat.reduceAdd]
  refine wc_seq ?_
  refine wc_region ?_
  refine wl_eff (e_alloc H Tryz.zeroValue42) (ltn rfl) ?_
  rintro _ w1 ⟨b1, rfl, H1⟩
  refine wl_nil ?_
  refine wq_seq ?_
  refine wc_seq ?_
  refine wc_region ?_
  refine wl_val (r_move rfl) (ltn rfl) ?_
  refine wl_eff (e_call (r_call rfl Tryz.func117 rfl rfl) (buf_text_ret H1.swap)) (ltn rfl) ?_
  rintro u w2 H2
  obtain ⟨au, cu, hu, _⟩ := (H2.row_rd).form
  subst hu
  refine wl_val (r_move rfl) (ltn rfl) ?_
  refine wl_eff (e_call (r_call rfl Tryz.func68 rfl rfl) (buf_point_ret H2.swap)) (ltn rfl) ?_
  rintro _ _ ⟨rfl, rfl⟩
  refine wl_val (r_move rfl) (ltn rfl) ?_
  refine wl_eff (e_call (r_call rfl Tryz.func131 rfl rfl) (buf_mark_ret H2.swap)) (ltn rfl) ?_
  rintro _ _ ⟨rfl, rfl⟩
  refine wl_val (r_build (pl := #[(0, 1), (1, 1), (2, 1)]) (lineCells (.slice au L.length cu) pt mk) Tryz.underlying42 Tryz.zeroValue42 (fun w => by kernel_rfl) rfl (by kernel_rfl)) (ltn rfl) ?_
  refine wl_eff0 (e_store_whole (cs := lineCells (.slice au L.length cu) pt mk) H2.rot Tryz.sizeOf42 rfl rfl rfl rfl (line_ones rfl)) ?_
  rintro _ w5 H5
  refine wl_nil ?_
  refine wq_seq ?_
  refine wc_ret ?_
  refine wq_endC (.inl rfl) Tryz.results62 rfl Tryz.underlying42 rfl (by rw [show (Tryz.prog.info? 42).map (·.size) = some 3 from by kernel_rfl]; rfl) H5.get.2 ?_
  exact ⟨_, rfl, H5.right⟩
end
end Go.Proofs.YtgmpclifphbjkaaGreatDoor
end
section
/- Function values; a slice of a whole array. -/
set_option linter.unusedSimpArgs false
set_option linter.unusedVariables false
namespace Go.Proofs.YtgmpclifphbjkaaGreatDoor
open Go.RowKit
section
variable {P : Program} {L : List (Nat × Value)} {w0 w : World} {F : HP} {ty : TypeId}
/-- What a function value does, called with these. -/
def FnRet (P : Program) (fv : Value) (vs : List Value) (w : World) (T : Value → World → Prop) : Prop :=
  ∃ f first cap fn c, fv = .func (.func f) (List.toArray first) (List.toArray cap) ∧ P.funcs[f]? = some fn ∧ (fn.name == "runtime.NumGoroutine") = false ∧ fn.body = some c ∧ Ret P f (first ++ vs ++ cap).toArray w T
/-- It tells, of each number, whether it holds; what one holds is left. -/
def Tells (P : Program) (w0 : World) (F : HP) (fv : Value) (g : Int → Bool) : Prop :=
  fv.oneCell' = true ∧ ∀ (G : HP) (W : World), Holds w0 W (G • F) → ∀ r, FnRet P fv [.int .i32 r] W fun v W' => v = .bool (g r) ∧ Holds w0 W' (G • F)
end
end Go.Proofs.YtgmpclifphbjkaaGreatDoor
end
section
/- Memory that is never written any more: slices of numbers in it. -/
set_option linter.unusedSimpArgs false
set_option linter.unusedVariables false
namespace Go.Proofs.YtgmpclifphbjkaaGreatDoor
open Go.RowKit

/-- In what is never written any more the slice v reads as whole numbers. -/
def ImmI (I : Hp) (k : IntKind) (v : Value) (l : List Int) : Prop := ∃ a c, v = .slice a l.length c ∧ l.length ≤ c ∧ (c : Int) ≤ 9223372036854775807 ∧
  (0 < l.length → ∃ b o cs e fr, a = some ⟨b, o, none⟩ ∧ I b = some (.cells cs e fr) ∧ ∀ j, j < l.length → cs[o + j]? = some (.int k (l.getD j 0)))
theorem ImmI.mono {I I' : Hp} {k : IntKind} {v : Value} {l : List Int} (hl : Hp.le I I') (h : ImmI I k v l) : ImmI I' k v l := by
  obtain ⟨a, c, h1, h2, h3, h4⟩ := h
  exact ⟨a, c, h1, h2, h3, fun hp => let ⟨b, o, cs, e, fr, e1, e2, e3⟩ := h4 hp; ⟨b, o, cs, e, fr, e1, hl _ _ e2, e3⟩⟩
def immI (k : IntKind) (v : Value) (l : List Int) : HP := know (fun I => ImmI I k v l) fun _ _ hl h => h.mono hl

theorem RdI.mk {w : World} {k : IntKind} {v : Value} {l : List Int} {a : Option Addr} {c : Nat} (h1 : v = .slice a l.length c) (h2 : l.length ≤ c) (h3 : (c : Int) ≤ 9223372036854775807)
    (h4 : 0 < l.length → ∃ b o, a = some ⟨b, o, none⟩ ∧ ∀ j, j < l.length → w.cell? ⟨b, o + j, none⟩ = some (.int k (l.getD j 0))) : RdI w k v l := by
  refine ⟨by simp, a, c, h1, h2, h3, fun hp => ?_⟩
  obtain ⟨b, o, e, hc⟩ := h4 hp
  refine ⟨b, o, e, fun j hj => ?_⟩
  rw [hc j (by omega)]
  simp [List.getD_eq_getElem?_getD, show j < l.length by omega]
theorem ImmI.rd {w : World} {n : Nat} {I : Hp} {k : IntKind} {v : Value} {l : List Int} (h : ImmI I k v l) (hI : ∀ k o, I k = some o → n ≤ k ∧ w.heap[k]? = some o) : RdI w k v l := by
  obtain ⟨a, c, h1, h2, h3, h4⟩ := h
  exact RdI.mk h1 h2 h3 fun hp => let ⟨b, o, cs, e, fr, e1, e2, e3⟩ := h4 hp; ⟨b, o, e1, fun j hj => cell_of_blk (hI _ _ e2).2 (e3 j hj)⟩
section
variable {w0 w : World} {F : HP} {e : TypeId} {k : IntKind} {v : Value} {l : List Int}
theorem Holds.imm_rd (H : Holds w0 w (immI k v l • F)) : RdI w k v l := let ⟨I, h, hI⟩ := H.of_know; h.rd hI
theorem know_ent {K K' : Hp → Prop} {hK : ∀ I I', Hp.le I I' → K I → K I'} {hK' : ∀ I I', Hp.le I I' → K' I → K' I'} (h : ∀ I, K I → K' I) (B : HP) : Ent (know K hK • B) (know K' hK' • B) := fun I x ha =>
  (know_sep K' hK' B I x).2 ⟨h I ((know_sep K hK B I x).1 ha).1, ((know_sep K hK B I x).1 ha).2⟩
theorem know_two {K K' M : Hp → Prop} {hK : ∀ I I', Hp.le I I' → K I → K I'} {hK' : ∀ I I', Hp.le I I' → K' I → K' I'} {hM : ∀ I I', Hp.le I I' → M I → M I'} (h : ∀ I, K I → K' I → M I) (B : HP) : Ent (know K hK • know K' hK' • B) (know M hM • B) := fun I x ha => by
  have h1 := (know_sep K hK _ I x).1 ha
  have h2 := (know_sep K' hK' _ I x).1 h1.2
  exact (know_sep M hM B I x).2 ⟨h I h1.1 h2.1, h2.2⟩
theorem Holds.mk_know {K : Hp → Prop} {hK : ∀ I I', Hp.le I I' → K I → K I'} (h : ∀ I, K I) (H : Holds w0 w F) : Holds w0 w (know K hK • F) := H.ent fun I x ha => (know_sep K hK F I x).2 ⟨h I, ha⟩
/-- A row of one's own is never written any more. -/
theorem Holds.freezeI (H : Holds w0 w (RowI e k v l • F)) : Holds w0 w (immI k v l • F) := by
  rcases H.row_open with ⟨a, rfl, h1, h2, H1⟩ | ⟨g, o, c, cur, rfl, h2, h3, h4, h5, H1⟩
  · have hl : l = [] := by simpa using h2
    subst hl
    exact H1.add_emp.ent fun I x ha => (know_sep _ _ F I x).2 ⟨⟨a, 0, rfl, by simp, by decide, fun h => by simp at h⟩, by rw [Go.Proofs.YtgmpclifphbjkaaGreatDoor.emp_sep] at ha; exact ha⟩
  · refine H1.freeze.ent (know_ent (fun I hI => ⟨_, c, rfl, h2, h3, fun _ => ⟨g, o, cur, e, (0, 0), rfl, hI, fun j hj => ?_⟩⟩) F)
    rw [h5 j (by omega)]
    simp [List.getD_eq_getElem?_getD, hj]
end
end Go.Proofs.YtgmpclifphbjkaaGreatDoor
end
section
/- What a rune is, a control, how wide it is, a letter: ucell's tables. -/
set_option linter.unusedSimpArgs false
set_option linter.unusedVariables false
namespace Go.Proofs.YtgmpclifphbjkaaGreatDoor
open Go.RowKit

def validM (r : Int) : Bool := decide (0 ≤ r ∧ r < 55296 ∨ 57343 < r ∧ r ≤ 1114111)
def controlM (r : Int) : Bool := decide (0 ≤ r ∧ r < 32 ∨ 127 ≤ r ∧ r ≤ 159)
def within (r : Int) (T : List (Int × Int)) : Bool := T.any fun x => decide (x.1 ≤ r ∧ r ≤ x.2)
def noneT : List (Int × Int) := [(768, 879), (1155, 1161), (1425, 1469), (1552, 1562), (1611, 1631), (3633, 3633), (3636, 3642), (3655, 3662), (6832, 6911), (7616, 7679), (8203, 8207), (8400, 8447), (12441, 12442), (65024, 65039), (65056, 65071)]
def wideT : List (Int × Int) := [(4352, 4447), (11904, 12350), (12353, 13311), (13312, 19903), (19968, 40959), (40960, 42191), (44032, 55203), (63744, 64255), (65072, 65135), (65280, 65376), (65504, 65510), (127744, 128591), (129280, 129535), (131072, 262141)]
def widthM (r : Int) : Int := if !validM r || controlM r || within r noneT then 0 else if within r wideT then 2 else 1
def letterM (r : Int) : Bool :=
  if r < 192 then decide (48 ≤ r ∧ r ≤ 57 ∨ 65 ≤ r ∧ r ≤ 90 ∨ 97 ≤ r ∧ r ≤ 122)
  else if r = 215 ∨ r = 247 ∨ r = 65533 ∨ 8192 ≤ r ∧ r ≤ 8303 ∨ 12288 ≤ r ∧ r ≤ 12351 ∨ 65280 ≤ r ∧ r ≤ 65295 then false
  else validM r && decide (0 < widthM r)

theorem Holds.cell {w0 w : World} {F : HP} (H : Holds w0 w F) {a : Addr} {v : Value} (h : w0.cell? a = some v) : w.cell? a = some v := (H.base.cell (World.block_lt_of_cell? _ _ h)).trans h
/-- The table's cells stand in a block. -/
def tabVals (T : List (Int × Int)) : List Value := T.flatMap fun x => [.int .i32 x.1, .int .i32 x.2]
/-- The program's two tables. -/
structure Tabs (w : World) : Prop where
  tnone : Rd w 2 (.slice (some ⟨0, 0, none⟩) 15 15) 15 (tabVals noneT)
  twide : Rd w 2 (.slice (some ⟨1, 0, none⟩) 14 14) 14 (tabVals wideT)
section
variable {w0 w : World} {F : HP} {r : Int}
end
end Go.Proofs.YtgmpclifphbjkaaGreatDoor
end
section
/- Where words begin and end, forward and backward. -/
set_option linter.unusedSimpArgs false
set_option linter.unusedVariables false
namespace Go.Proofs.YtgmpclifphbjkaaGreatDoor
open Go.RowKit

/-- As long as it holds, forward; backward. -/
def overM (g : Int → Bool) (l : List Int) (at_ : Nat) : Nat := at_ + ((l.drop at_).takeWhile g).length
def backM (g : Int → Bool) (l : List Int) (at_ : Nat) : Nat := at_ - ((l.take at_).reverse.takeWhile g).length
/-- A place of the line. -/
def withinM (n : Nat) (x : Int) : Nat := (min (max x 0) n).toNat
section
variable {w0 w : World} {F G : HP} {v fv : Value} {l : List Int} {g : Int → Bool}
def wordEndM (l : List Int) (x : Int) : Nat := overM letterM l (overM (fun r => !letterM r) l (withinM l.length x))
def wordStartM (l : List Int) (x : Int) : Nat := backM letterM l (backM (fun r => !letterM r) l (withinM l.length x))
def beginsM (r : Int) : Bool := decide (widthM r ≠ 0) || controlM r
/-- Where the next character begins; where the one ahead begins. -/
def nextM (l : List Int) (x : Int) : Nat := if withinM l.length x < l.length then overM (fun r => !beginsM r) l (withinM l.length x + 1) else l.length
def prevM (l : List Int) (x : Int) : Nat := backM (fun r => !beginsM r) l (withinM l.length x) - 1
end
end Go.Proofs.YtgmpclifphbjkaaGreatDoor
end
section
/- The buffer's Insert; the answers that the document fixes. -/
set_option linter.unusedSimpArgs false
set_option linter.unusedVariables false
namespace Go.Proofs.YtgmpclifphbjkaaGreatDoor
open Go.RowKit
section
variable {w0 w : World} {F : HP} {p : Nat} {L : List Int} {pt mk : Int} {v : Value} {l : List Int}
end
end Go.Proofs.YtgmpclifphbjkaaGreatDoor
end
section
/- Same: whether two texts are the same. -/
set_option linter.unusedSimpArgs false
set_option linter.unusedVariables false
namespace Go.Proofs.YtgmpclifphbjkaaGreatDoor
open Go.RowKit
theorem same_ret (w : World) (v1 v2 : Value) (l1 l2 : List Int) (h1 : RdI w .i32 v1 l1) (h2 : RdI w .i32 v2 l2) :
    Ret Tryz.prog 67 #[v1, v2] w fun v w' => v = .bool (l1 == l2) ∧ Drew w w' := by
  obtain ⟨a1, c1, rfl, hc1, hm1, hr1⟩ := h1.open
  obtain ⟨a2, c2, rfl, hc2, hm2, hr2⟩ := h2.open
  clear h1 h2
  refine ret_enter Tryz.func67 rfl Tryz.ntmps67 (Nat.le_of_ble_eq_true rfl) ?_
  dsimp only [slots0, Nat.reduceAdd]
  refine wc_seq ?_
  refine wc_region ?_
  refine wl_val (r_assign rfl) (ltn rfl) ?_
  refine wl_nil ?_
  refine wq_seq ?_
  refine wc_seq ?_
  refine wc_seq ?_
  refine wc_region ?_
  refine wl_val (r_move rfl) (ltn rfl) ?_
  refine wl_val (r_len Tryz.underlying22 rfl) (ltn rfl) ?_
  refine wl_val (r_move rfl) (ltn rfl) ?_
  refine wl_val (r_len Tryz.underlying22 rfl) (ltn rfl) ?_
  refine wl_val (r_neq rfl rfl) (ltn rfl) ?_
  refine wl_nil ?_
  refine wq_seq ?_
  refine wc_cond rfl (fun h1 => ?_) (fun h1 => ?_)
  · (try simp only [cmpS] at h1)
    try (exfalso; first | contradiction | omega)
    all_goals
      
      refine wc_seq ?_
      refine wc_region ?_
      refine wl_val (r_assign rfl) (ltn rfl) ?_
      refine wl_nil ?_
      refine wq_seq ?_
      refine wc_ret ?_
      refine wq_then_ret ?_
      refine wq_end1 (.inl rfl) Tryz.results67 rfl ?_
      exact ⟨by rw [show (l1 == l2) = false from beq_eq_false_iff_ne.2 (by rintro rfl; exact h1 rfl)], Drew.refl _⟩
  · (try simp only [cmpS] at h1)
    try (exfalso; first | contradiction | omega)
    all_goals
      
      refine wc_skip ?_
      refine wq_seq ?_
      refine wc_seq ?_
      refine wc_seq ?_
      refine wc_region ?_
      refine wl_val (r_assign rfl) (ltn rfl) ?_
      refine wl_nil ?_
      refine wq_seq ?_
      refine wc_block ?_
      refine wc_loop [(0, _), (1, _)] (fun (k : Nat) => [(5, .int .i64 (k : Int))]) (fun (k : Nat) W => k ≤ l1.length ∧ l1.length = l2.length ∧ l1.take k = l2.take k ∧ Drew w W) (fun (k : Nat) => l1.length - k) (0) (Sub.cons rfl (Sub.cons rfl (Sub.nil _))) (Sub.cons rfl (Sub.nil _)) ⟨by omega, by omega, by simp, Drew.refl _⟩ ?_
      rintro k w1 ⟨hk, hl, ht, hD⟩
      dsimp only [List.cons_append, List.nil_append]
      refine wc_seq ?_
      refine wc_seq ?_
      refine wc_region ?_
      refine wl_val (r_move rfl) (ltn rfl) ?_
      refine wl_val (r_move rfl) (ltn rfl) ?_
      refine wl_val (r_len Tryz.underlying22 rfl) (ltn rfl) ?_
      refine wl_val (r_lss rfl rfl) (ltn rfl) ?_
      refine wl_nil ?_
      refine wq_seq ?_
      refine wc_cond rfl (fun h2 => ?_) (fun h2 => ?_)
      · (try simp only [cmpS] at h2)
        try (exfalso; first | contradiction | omega)
        all_goals
          
          refine wc_skip ?_
          refine wq_seq ?_
          refine wc_seq ?_
          refine wc_block ?_
          refine wc_seq ?_
          obtain ⟨b1, o1, rfl, hq1⟩ := hr1 (by omega)
          obtain ⟨b2, o2, rfl, hq2⟩ := hr2 (by omega)
          have hc1 := hq1 k (by omega)
          have hc2 := hq2 k (by omega)
          refine wd_begin (n := 9) [0, 1, 2, 3, 4, 5, 6, 7, 8] (fun W => W.heap = w1.heap) (by kernel_rfl) (by kernel_rfl) rfl ?_
          have hS0 : (fun W => W.heap = w1.heap) (w1.drew) := rfl
          refine wd_takeT 0 rfl (by kernel_rfl) (by kernel_rfl) hS0 (fun _ => r_move rfl) (ltn rfl) ?_
          refine wd_takeT 1 rfl (by kernel_rfl) (by kernel_rfl) hS0 (fun _ => r_move rfl) (ltn rfl) ?_
          refine wd_takeT 2 rfl (by kernel_rfl) (by kernel_rfl) hS0 (fun _ => r_index Tryz.underlying22 Tryz.sizeOf21 rfl rfl (by omega)) (ltn rfl) ?_
          refine wd_take 3 rfl (by kernel_rfl) (by kernel_rfl) hS0 (by decide) (fun W hW => r_load (plain_of Tryz.underlying21 rfl) rfl (by rw [cell_heap (hW.trans hD.heap)]; simpa using hc1)) (ltn rfl) ?_
          refine wd_takeT 4 rfl (by kernel_rfl) (by kernel_rfl) hS0 (fun _ => r_move rfl) (ltn rfl) ?_
          refine wd_takeT 5 rfl (by kernel_rfl) (by kernel_rfl) hS0 (fun _ => r_move rfl) (ltn rfl) ?_
          refine wd_takeT 6 rfl (by kernel_rfl) (by kernel_rfl) hS0 (fun _ => r_index Tryz.underlying22 Tryz.sizeOf21 rfl rfl (by omega)) (ltn rfl) ?_
          refine wd_take 7 rfl (by kernel_rfl) (by kernel_rfl) hS0 (by decide) (fun W hW => r_load (plain_of Tryz.underlying21 rfl) rfl (by rw [cell_heap (hW.trans hD.heap)]; simpa using hc2)) (ltn rfl) ?_
          refine wd_takeT 8 rfl (by kernel_rfl) (by kernel_rfl) hS0 (fun _ => r_neq rfl rfl) (ltn rfl) ?_
          refine wd_done (by kernel_rfl) ?_
          refine wq_seq ?_
          refine wc_cond rfl (fun h3 => ?_) (fun h3 => ?_)
          · (try simp only [cmpS] at h3)
            try (exfalso; first | contradiction | omega)
            all_goals
              
              refine wc_seq ?_
              refine wc_region ?_
              refine wl_val (r_assign rfl) (ltn rfl) ?_
              refine wl_nil ?_
              refine wq_seq ?_
              refine wc_ret ?_
              refine wq_block_ret ?_
              refine wq_then_ret ?_
              refine wq_then_ret ?_
              refine wq_block_ret ?_
              refine wq_then_ret ?_
              refine wq_end1 (.inl rfl) Tryz.results67 rfl ?_
              exact ⟨by rw [show (l1 == l2) = false from beq_eq_false_iff_ne.2 (by rintro rfl; exact h3 rfl)], hD.drew⟩
          · (try simp only [cmpS] at h3)
            try (exfalso; first | contradiction | omega)
            all_goals
              
              refine wc_skip ?_
              refine wq_block_normal ?_
              refine wq_seq ?_
              refine wc_region ?_
              refine wl_val (r_move rfl) (ltn rfl) ?_
              refine wl_val (r_add rfl rfl (by omega)) (ltn rfl) ?_
              refine wl_val (r_assign rfl) (ltn rfl) ?_
              refine wl_nil ?_
              refine wq_round (k + 1) ?_ ?_ ?_ ?_
              · exact (Sub.cons rfl (Sub.nil _))
              · exact (Sub.cons rfl (Sub.cons rfl (Sub.nil _)))
              · (try dsimp only)
                first | done | exact ⟨by omega, by omega, take_eq_succ (by omega) (by omega) ht (by simpa using h3), hD.drew⟩
              · (try dsimp only); omega
      · (try simp only [cmpS] at h2)
        try (exfalso; first | contradiction | omega)
        all_goals
          
          refine wc_exit ?_
          refine wq_then_exit ?_
          refine wq_then_exit ?_
          refine wq_block_hit ?_
          refine wq_seq ?_
          refine wc_seq ?_
          refine wc_region ?_
          refine wl_val (r_assign rfl) (ltn rfl) ?_
          refine wl_nil ?_
          refine wq_seq ?_
          refine wc_ret ?_
          refine wq_end1 (.inl rfl) Tryz.results67 rfl ?_
          exact ⟨by rw [show (l1 == l2) = true from beq_iff_eq.2 (by rw [List.take_of_length_le (by omega), List.take_of_length_le (by omega)] at ht; exact ht)], hD⟩
theorem same_eq_ret (w : World) (v1 v2 : Value) (l : List Int) (h1 : RdI w .i32 v1 l) (h2 : RdI w .i32 v2 l) :
    Ret Tryz.prog 67 #[v1, v2] w fun v w' => v = .bool true ∧ Drew w w' := by
  have := same_ret w v1 v2 l l h1 h2
  simpa using this
end Go.Proofs.YtgmpclifphbjkaaGreatDoor
end
section
/- Reverse, SameEdit, Apply where it changes the line. -/
set_option linter.unusedSimpArgs false
set_option linter.unusedVariables false
namespace Go.Proofs.YtgmpclifphbjkaaGreatDoor
open Go.RowKit
section
variable {w0 w : World} {F : HP} {p : Nat} {L : List Int} {pt mk a : Int} {d i : Value} {dl il : List Int}
end
end Go.Proofs.YtgmpclifphbjkaaGreatDoor
end
section
/- The buffer's methods, each as one law. -/
set_option linter.unusedSimpArgs false
set_option linter.unusedVariables false
namespace Go.Proofs.YtgmpclifphbjkaaGreatDoor
open Go.RowKit
/-- What Replace answers, and what it leaves. -/
def replE (L : List Int) (i j : Int) (l : List Int) : Int := if i < 0 ∨ L.length < i ∨ j < i ∨ L.length < j then 70 else if 1024 < L.length - (j - i) + l.length then 3 else 0
def replL (L : List Int) (i j : Int) (l : List Int) : List Int := if replE L i j l = 0 then L.take i.toNat ++ l ++ L.drop j.toNat else L
def replP (L : List Int) (pt i j : Int) (l : List Int) : Int := if replE L i j l = 0 then movedP pt i j l.length else pt
def replM (L : List Int) (mk i j : Int) (l : List Int) : Int := if replE L i j l = 0 then movedM mk i j l.length else mk
def replA (L : List Int) (i j : Int) (l : List Int) : Int := if replE L i j l = 0 then i else 0
def replD (L : List Int) (i j : Int) (l : List Int) : List Int := if replE L i j l = 0 then (L.drop i.toNat).take (j - i).toNat else []
def replI (L : List Int) (i j : Int) (l : List Int) : List Int := if replE L i j l = 0 then l else []
section
variable {w0 w : World} {F : HP} {p : Nat} {L : List Int} {pt mk : Int} {v d s : Value} {l dl il : List Int} {i j a x : Int}
theorem buf_replace_ret (H : Holds w0 w (BufRep p L pt mk • F)) (hr : FRdI w0 F .i32 v l) :
    Ret Tryz.prog 113 #[.pointer (some ⟨p, 0, none⟩), .int .i64 i, .int .i64 j, v] w fun v' w' => ∃ d s, v' = .tuple #[.agg #[.int .i64 (replA L i j l), d, s], .int .i64 (replE L i j l)] ∧
      Holds w0 w' (RowI 21 .i32 d (replD L i j l) • RowI 21 .i32 s (replI L i j l) • BufRep p (replL L i j l) (replP L pt i j l) (replM L mk i j l) • F) := by
  unfold replA replL replP replM replD replI
  by_cases h1 : i < 0 ∨ L.length < i ∨ j < i ∨ L.length < j
  · have e : replE L i j l = 70 := by unfold replE; rw [if_pos h1]
    simp only [e, show ¬ (70 : Int) = 0 from by decide, if_false]
    exact (buf_replace_bad H hr h1).mono fun v' w' h => ⟨_, _, h.1, (h.2.rowi_nil none).rowi_nil none⟩
  · have h2 : 0 ≤ i ∧ i ≤ j ∧ j ≤ L.length := by omega
    by_cases h3 : 1024 < L.length - (j - i) + l.length
    · have e : replE L i j l = 3 := by unfold replE; rw [if_neg h1, if_pos h3]
      simp only [e, show ¬ (3 : Int) = 0 from by decide, if_false]
      exact (buf_replace_long H hr h2 h3).mono fun v' w' h => ⟨_, _, h.1, (h.2.rowi_nil none).rowi_nil none⟩
    · have e : replE L i j l = 0 := by unfold replE; rw [if_neg h1, if_neg h3]
      simp only [e, if_true]
      obtain ⟨i', rfl⟩ := Int.eq_ofNat_of_zero_le h2.1
      obtain ⟨j', rfl⟩ := Int.eq_ofNat_of_zero_le (show 0 ≤ j by omega)
      have hij : i' ≤ j' ∧ j' ≤ L.length := by omega
      have := buf_replace_ok (i := i') (j := j') H hr hij (by omega)
      simpa only [Int.toNat_natCast, show ((j' : Int) - (i' : Int)).toNat = j' - i' from by omega, edCells] using this
/-- What SetMark answers, and what it leaves. -/
def smE (L : List Int) (x : Int) : Int := if x < -1 ∨ L.length < x then 70 else 0
def smM (L : List Int) (mk x : Int) : Int := if x < -1 ∨ L.length < x then mk else x
def swE (mk : Int) : Int := if mk < 0 then 6 else 0
def swP (pt mk : Int) : Int := if mk < 0 then pt else mk
def swM (pt mk : Int) : Int := if mk < 0 then mk else pt
theorem buf_clone_ret (H : Holds w0 w (BufRep p L pt mk • F)) : Ret Tryz.prog 111 #[.pointer (some ⟨p, 0, none⟩)] w fun v' w' => ∃ q, v' = .pointer (some ⟨q, 0, none⟩) ∧ Holds w0 w' (BufRep q L pt mk • BufRep p L pt mk • F) := by
  refine ret_enter Tryz.func111 rfl Tryz.ntmps111 (Nat.le_of_ble_eq_true rfl) ?_
  dsimp only [slots0, Nat.reduceAdd]
  refine wc_seq ?_
  refine wc_region ?_
  refine wl_val (r_assign rfl) (ltn rfl) ?_
  refine wl_nil ?_
  refine wq_seq ?_
  refine wc_seq ?_
  refine wc_seq ?_
  refine wc_region ?_
  refine wl_val (r_move rfl) (ltn rfl) ?_
  refine wl_eff (e_call (r_call rfl Tryz.func130 rfl rfl) (buf_none_rep H)) (ltn rfl) ?_
  rintro _ _ ⟨rfl, rfl⟩
  refine wl_nil ?_
  refine wq_seq ?_
  refine wc_cond_f rfl ?_
  refine wc_skip ?_
  refine wq_seq ?_
  refine wc_seq ?_
  obtain ⟨ax_p, cx_p, xs_p, f_p, t_p, g1_p, g2_p, g3_p, g4_p, g5_p, g6_p, g7_p, g8_p, g9_p, g10_p, HB_p⟩ := (H).buf
  refine wc_region ?_
  refine wl_val (r_move rfl) (ltn rfl) ?_
  refine wl_val (r_nil rfl) (ltn rfl) ?_
  refine wl_val (r_load_whole Tryz.underlying178 rfl Tryz.sizeOf178 rfl rfl (HB_p).get.2) (ltn rfl) ?_
  refine wl_eff (e_allocL (l := [_, _, _, _, _, _]) HB_p Tryz.zeroValue178 rfl) (ltn rfl) ?_
  rintro _ w3 ⟨b3, rfl, H3⟩
  refine wl_eff0 (e_storePL 0 (l' := [_, _, _, _, _, _]) (us := [_, _, _, _, _, _]) H3 Tryz.sizeOf178 rfl rfl rfl (ones_cons (by first | rfl | assumption) (ones_cons (by first | rfl | exact Rd.one ((H3.f3).row_rd)) (ones_cons (by first | rfl | assumption) (ones_cons (by first | rfl | assumption) (ones_cons (by first | rfl | assumption) (ones_cons (by first | rfl | assumption) ones_nil)))))) rfl rfl) ?_
  rintro _ w4 H4
  refine wl_nil ?_
  refine wq_seq ?_
  refine wc_seq ?_
  refine wc_region ?_
  refine wl_val (r_move rfl) (ltn rfl) ?_
  refine wl_val (r_nil rfl) (ltn rfl) ?_
  refine wl_val (r_fieldA 1 Tryz.underlying178 rfl rfl Tryz.sizeOf22 (by decide) rfl (by first | exact Nat.zero_add _ | rfl)) (ltn rfl) ?_
  refine wl_val (r_load (plain_of Tryz.underlying22 rfl) rfl (cell_of_blk (H4.f2).get.2 rfl)) (ltn rfl) ?_
  refine wl_eff (e_call (r_call rfl Tryz.func136 rfl rfl) (clone_ret H4 (fun W HW => (HW.f3).row_rd) (by omega))) (ltn rfl) ?_
  rintro u5 w5 H5
  refine wl_val (r_fieldA 1 Tryz.underlying178 rfl rfl Tryz.sizeOf22 (by decide) rfl (by first | exact Nat.zero_add _ | rfl)) (ltn rfl) ?_
  refine wl_eff0 (e_storeL 1 (l' := [_, _, _, _, _, _]) H5.f2 Tryz.sizeOf22 rfl rfl (by first | rfl | exact Rd.one ((H5).row_rd)) rfl rfl) ?_
  rintro _ w6 H6
  refine wl_nil ?_
  refine wq_seq ?_
  refine wc_seq ?_
  refine wc_region ?_
  refine wl_val (r_assign rfl) (ltn rfl) ?_
  refine wl_nil ?_
  refine wq_seq ?_
  refine wc_ret ?_
  refine wq_end1 (.inl rfl) Tryz.results111 rfl ?_
  exact ⟨_, rfl, (Holds.mk_buf g1_p g2_p g3_p g4_p g5_p g6_p (by omega) (Holds.mk_buf g1_p g2_p g3_p g4_p g5_p g6_p (by omega) H6.f4.f4.f4.f4).f2.f3.f2).f2⟩
/-- What Apply answers, and what it leaves. -/
def fitsE (L : List Int) (a : Int) (dl : List Int) : Bool := decide ((dl.length : Int) ≤ L.length - a) && ((L.drop a.toNat).take dl.length == dl)
def appE (L : List Int) (a : Int) (dl il : List Int) : Int := if a < 0 ∨ L.length < a then 70 else if fitsE L a dl then replE L a (a + dl.length) il else 71
def appL (L : List Int) (a : Int) (dl il : List Int) : List Int := if appE L a dl il = 0 then replL L a (a + dl.length) il else L
def appP (L : List Int) (pt a : Int) (dl il : List Int) : Int := if appE L a dl il = 0 then replP L pt a (a + dl.length) il else pt
def appM (L : List Int) (mk a : Int) (dl il : List Int) : Int := if appE L a dl il = 0 then replM L mk a (a + dl.length) il else mk
end
end Go.Proofs.YtgmpclifphbjkaaGreatDoor
end
section
/- The kill ring's methods. -/
set_option linter.unusedSimpArgs false
set_option linter.unusedVariables false
namespace Go.Proofs.YtgmpclifphbjkaaGreatDoor
open Go.RowKit

/-- A ring's cells: whether it is made, the slots, the head, how many, the place. -/
def ringCells (s : List Value) (h n p : Nat) : Array Value := (Value.bool true :: (s ++ [.int .i64 h, .int .i64 n, .int .i64 p])).toArray
section
variable {s : List Value} {h n p : Nat}
theorem ring_size (hs : s.length = 60) : (ringCells s h n p).size = 64 := by simp [ringCells, hs]
theorem ring_0 : (ringCells s h n p)[0]? = some (.bool true) := by simp [ringCells]
theorem ring_slot (hs : s.length = 60) {i : Nat} (hi : i < 60) : (ringCells s h n p)[1 + i]? = some (s.getD i undef) := by
  simp [ringCells, Nat.add_comm 1 i, List.getElem?_append_left (show i < s.length by omega), List.getD_eq_getElem?_getD, show i < s.length by omega]
theorem ring_head (hs : s.length = 60) : (ringCells s h n p)[61]? = some (.int .i64 h) := by simp [ringCells, hs]
theorem ring_many (hs : s.length = 60) : (ringCells s h n p)[62]? = some (.int .i64 n) := by simp [ringCells, hs]
theorem ring_place (hs : s.length = 60) : (ringCells s h n p)[63]? = some (.int .i64 p) := by simp [ringCells, hs]
theorem ring_set_place (hs : s.length = 60) (x : Nat) : (ringCells s h n p).setIfInBounds 63 (.int .i64 x) = ringCells s h n x := by
  apply Array.ext'; simp [ringCells, List.set_append, hs]
end

/-- What the slots hold: entry i stands i places behind the head. -/
def Slots (I : Hp) (s : List Value) (h : Nat) (E : List (List Int)) : Prop := ∀ i, i < E.length → ImmI I .i32 (s.getD ((h + i) % 60) undef) (E.getD i [])
def slotsHP (s : List Value) (h : Nat) (E : List (List Int)) : HP := know (fun I => Slots I s h E) fun _ _ hl hk i hi => (hk i hi).mono hl
/-- A ring at p: its entries, the newest first; its place. -/
def RingRep (p : Nat) (E : List (List Int)) (place : Nat) : HP := exHP fun (x : List Value × Nat) =>
  fact (x.1.length = 60 ∧ x.2 < 60 ∧ E.length ≤ 60 ∧ (place < E.length ∨ place = 0) ∧ (∀ e ∈ E, e.length ≤ 1024) ∧ ∀ v ∈ x.1, v.oneCell' = true) • blk p (.cells (ringCells x.1 x.2 E.length place) 155 (0, 0)) • slotsHP x.1 x.2 E

section
variable {w0 w : World} {F : HP} {p place : Nat} {E : List (List Int)}
theorem Holds.ring (H : Holds w0 w (RingRep p E place • F)) : ∃ s h, s.length = 60 ∧ h < 60 ∧ E.length ≤ 60 ∧ (place < E.length ∨ place = 0) ∧ (∀ e ∈ E, e.length ≤ 1024) ∧ (∀ v ∈ s, v.oneCell' = true) ∧ Holds w0 w (blk p (.cells (ringCells s h E.length place) 155 (0, 0)) • slotsHP s h E • F) := by
  obtain ⟨⟨s, h⟩, H⟩ := H.ex_sep
  obtain ⟨⟨h1, h2, h3, h4, h5, h6⟩, H⟩ := H.flat.fact
  exact ⟨s, h, h1, h2, h3, h4, h5, h6, H.flat⟩
theorem Holds.mk_ring {s : List Value} {h : Nat} (h1 : s.length = 60) (h2 : h < 60) (h3 : E.length ≤ 60) (h4 : place < E.length ∨ place = 0) (h5 : ∀ e ∈ E, e.length ≤ 1024) (h6 : ∀ v ∈ s, v.oneCell' = true) (H : Holds w0 w (blk p (.cells (ringCells s h E.length place) 155 (0, 0)) • slotsHP s h E • F)) : Holds w0 w (RingRep p E place • F) :=
  Holds.mk_ex_sep (s, h) (Holds.deep (Holds.mk_fact ⟨h1, h2, h3, h4, h5, h6⟩ H.deep))

theorem ring_new_ret (H : Holds w0 w F) : Ret Tryz.prog 41 #[] w fun v w' => ∃ p, v = .pointer (some ⟨p, 0, none⟩) ∧ Holds w0 w' (RingRep p [] 0 • F) := by
  refine ret_enter Tryz.func41 rfl Tryz.ntmps41 (Nat.le_of_ble_eq_true rfl) ?_
  dsimp only [slots0, Nat.reduceAdd]
  refine wc_seq ?_
  refine wc_region ?_
  refine wl_val (r_assign rfl) (ltn rfl) ?_
  refine wl_nil ?_
  refine wq_seq ?_
  refine wc_seq ?_
  refine wc_region ?_
  refine wl_val (r_build (pl := #[(0, 1), (1, 60), (61, 1), (62, 1), (63, 1)]) (ringCells (List.replicate 60 (.slice none 0 0)) 0 0 0) Tryz.underlying155 Tryz.zeroValue155 (fun w => by kernel_rfl) rfl (by kernel_rfl)) (ltn rfl) ?_
  refine wl_eff (e_box H rfl) (ltn rfl) ?_
  rintro _ w1 ⟨b1, rfl, H1⟩
  refine wl_val (r_assign rfl) (ltn rfl) ?_
  refine wl_nil ?_
  refine wq_seq ?_
  refine wc_ret ?_
  refine wq_end1 (.inl rfl) Tryz.results41 rfl ?_
  refine ⟨b1, rfl, Holds.mk_ring (s := List.replicate 60 (.slice none 0 0)) (h := 0) (by simp) (by omega) (by simp) (.inr rfl) (by simp) (by intro v hv; rw [List.eq_of_mem_replicate hv]; rfl) ?_⟩
  exact Holds.swap (Holds.mk_know (fun I i hi => by simp at hi) H1)
theorem ring_none_ret (t : TypeId) {cs : Array Value} {fr : Nat × Nat} {m : Bool} (hb : w.heap[p]? = some (.cells cs t fr)) (h0 : cs[0]? = some (.bool m)) :
    Ret Tryz.prog 135 #[.pointer (some ⟨p, 0, none⟩)] w fun v w' => v = .bool (!m) ∧ w = w' := by
  refine ret_enter Tryz.func135 rfl Tryz.ntmps135 (Nat.le_of_ble_eq_true rfl) ?_
  dsimp only [slots0, Nat.reduceAdd]
  refine wc_seq ?_
  refine wc_region ?_
  refine wl_val (r_assign rfl) (ltn rfl) ?_
  refine wl_nil ?_
  refine wq_seq ?_
  refine wc_seq ?_
  refine wc_region ?_
  refine wl_val (r_move rfl) (ltn rfl) ?_
  refine wl_val (r_ptr_nil Tryz.underlying58 rfl rfl) (ltn rfl) ?_
  refine wl_split rfl (ltn rfl) (fun h => by exfalso; (try simp only [cmpS] at h); simp at h) (fun h1 => ?_)
  (try simp only [cmpS] at h1)
  refine wl_yes rfl rfl ?_
  refine wl_val (r_move rfl) (ltn rfl) ?_
  refine wl_yes rfl rfl ?_
  refine wl_val (r_nil rfl) (ltn rfl) ?_
  refine wl_yes rfl rfl ?_
  refine wl_val (r_fieldA 0 Tryz.underlying155 rfl rfl Tryz.sizeOf4 (by decide) rfl (by first | exact Nat.zero_add _ | rfl)) (ltn rfl) ?_
  refine wl_yes rfl rfl ?_
  refine wl_val (r_load (plain_of Tryz.underlying4 rfl) rfl (cell_of_blk hb h0)) (ltn rfl) ?_
  refine wl_yes rfl rfl ?_
  refine wl_val (r_not rfl) (ltn rfl) ?_
  refine wl_val (r_pick_f rfl rfl) (ltn rfl) ?_
  refine wl_val (r_assign rfl) (ltn rfl) ?_
  refine wl_nil ?_
  refine wq_seq ?_
  refine wc_ret ?_
  refine wq_end1 (.inl rfl) Tryz.results135 rfl ?_
  exact ⟨rfl, rfl⟩
theorem Holds.slots_rd {s : List Value} {h i : Nat} (H : Holds w0 w (slotsHP s h E • F)) (hi : i < E.length) : RdI w .i32 (s.getD ((h + i) % 60) undef) (E.getD i []) := let ⟨I, k, hI⟩ := H.of_know; (k i hi).rd hI

theorem ring_at_ret {s : List Value} {h n m : Nat} {t : TypeId} {fr : Nat × Nat} {k : Nat} (hs : s.length = 60) (hh : h < 60) (hk : k < 60) (hb : w.heap[p]? = some (.cells (ringCells s h n m) t fr)) :
    Ret Tryz.prog 137 #[.pointer (some ⟨p, 0, none⟩), .int .i64 k] w fun v w' => v = s.getD ((h + k) % 60) undef ∧ Drew w w' := by
  refine ret_enter Tryz.func137 rfl Tryz.ntmps137 (Nat.le_of_ble_eq_true rfl) ?_
  dsimp only [slots0, Nat.reduceAdd]
  refine wc_seq ?_
  refine wc_region ?_
  refine wl_val (r_assign rfl) (ltn rfl) ?_
  refine wl_nil ?_
  refine wq_seq ?_
  refine wc_seq ?_
  refine wd_begin (n := 13) [0, 1, 2, 3, 4, 5, 6, 7, 8, 9, 10, 11, 12] (fun W => W.heap = w.heap) (by kernel_rfl) (by kernel_rfl) rfl ?_
  have hS0 : (fun W => W.heap = w.heap) (w.drew) := rfl
  refine wd_takeT 0 rfl (by kernel_rfl) (by kernel_rfl) hS0 (fun _ => r_move rfl) (ltn rfl) ?_
  refine wd_takeT 1 rfl (by kernel_rfl) (by kernel_rfl) hS0 (fun _ => r_move rfl) (ltn rfl) ?_
  refine wd_takeT 2 rfl (by kernel_rfl) (by kernel_rfl) hS0 (fun _ => r_nil rfl) (ltn rfl) ?_
  refine wd_takeT 3 rfl (by kernel_rfl) (by kernel_rfl) hS0 (fun _ => r_fieldA 61 Tryz.underlying155 rfl rfl Tryz.sizeOf3 (by decide) rfl (by first | exact Nat.zero_add _ | rfl)) (ltn rfl) ?_
  refine wd_take 4 rfl (by kernel_rfl) (by kernel_rfl) hS0 (by decide) (fun W hW => r_load (plain_of Tryz.underlying3 rfl) rfl (cell_of_blk (by rw [hW]; exact hb) (ring_head hs))) (ltn rfl) ?_
  refine wd_takeT 5 rfl (by kernel_rfl) (by kernel_rfl) hS0 (fun _ => r_move rfl) (ltn rfl) ?_
  refine wd_takeT 6 rfl (by kernel_rfl) (by kernel_rfl) hS0 (fun _ => r_add rfl rfl (by omega)) (ltn rfl) ?_
  refine wd_takeT 7 rfl (by kernel_rfl) (by kernel_rfl) hS0 (fun _ => r_rem rfl rfl (by omega) (by  omega)) (ltn rfl) ?_
  refine wd_takeT 8 rfl (by kernel_rfl) (by kernel_rfl) hS0 (fun _ => r_nil rfl) (ltn rfl) ?_
  refine wd_takeT 9 rfl (by kernel_rfl) (by kernel_rfl) hS0 (fun _ => r_fieldA 1 Tryz.underlying155 rfl rfl Tryz.sizeOf153 (by decide) rfl (by first | exact Nat.zero_add _ | rfl)) (ltn rfl) ?_
  refine wd_takeT 10 rfl (by kernel_rfl) (by kernel_rfl) hS0 (fun _ => r_index_arr Tryz.underlying153 Tryz.sizeOf22 rfl rfl (by omega)) (ltn rfl) ?_
  refine wd_take 11 rfl (by kernel_rfl) (by kernel_rfl) hS0 (by decide) (fun W hW => r_load (plain_of Tryz.underlying22 rfl) rfl (cell_of_blk (by rw [hW]; exact hb) (by rw [show (1 + (((h : Int) + (k : Int)) % 60).toNat * 1) = 1 + (h + k) % 60 from by omega]; exact ring_slot hs (by omega)))) (ltn rfl) ?_
  refine wd_takeT 12 rfl (by kernel_rfl) (by kernel_rfl) hS0 (fun _ => r_assign rfl) (ltn rfl) ?_
  refine wd_done (by kernel_rfl) ?_
  refine wq_seq ?_
  refine wc_ret ?_
  refine wq_end1 (.inl rfl) Tryz.results137 rfl ?_
  exact ⟨rfl, ⟨1, rfl⟩⟩

theorem ring_len_ret (H : Holds w0 w (RingRep p E place • F)) : Ret Tryz.prog 80 #[.pointer (some ⟨p, 0, none⟩)] w fun v w' => v = .int .i64 E.length ∧ w = w' := by
  obtain ⟨s, h, hs, hh, hE, hp, hm, ho, H1⟩ := H.ring
  have hb := H1.get.2
  refine ret_enter Tryz.func80 rfl Tryz.ntmps80 (Nat.le_of_ble_eq_true rfl) ?_
  dsimp only [slots0, Nat.reduceAdd]
  refine wc_seq ?_
  refine wc_region ?_
  refine wl_val (r_assign rfl) (ltn rfl) ?_
  refine wl_nil ?_
  refine wq_seq ?_
  refine wc_seq ?_
  refine wc_seq ?_
  refine wc_region ?_
  refine wl_val (r_move rfl) (ltn rfl) ?_
  refine wl_eff (e_call (r_call rfl Tryz.func135 rfl rfl) (ring_none_ret _ hb ring_0)) (ltn rfl) ?_
  rintro _ _ ⟨rfl, rfl⟩
  refine wl_nil ?_
  refine wq_seq ?_
  refine wc_cond_f rfl ?_
  refine wc_skip ?_
  refine wq_seq ?_
  refine wc_seq ?_
  refine wc_region ?_
  refine wl_val (r_move rfl) (ltn rfl) ?_
  refine wl_val (r_nil rfl) (ltn rfl) ?_
  refine wl_val (r_fieldA 62 Tryz.underlying155 rfl rfl Tryz.sizeOf3 (by decide) rfl (by first | exact Nat.zero_add _ | rfl)) (ltn rfl) ?_
  refine wl_val (r_load (plain_of Tryz.underlying3 rfl) rfl (cell_of_blk hb (ring_many hs))) (ltn rfl) ?_
  refine wl_val (r_assign rfl) (ltn rfl) ?_
  refine wl_nil ?_
  refine wq_seq ?_
  refine wc_ret ?_
  refine wq_end1 (.inl rfl) Tryz.results80 rfl ?_
  exact ⟨rfl, rfl⟩

end
end Go.Proofs.YtgmpclifphbjkaaGreatDoor
end
section
/- The kill ring's methods, further: Kill, Rotate, Yank, Clone. -/
set_option linter.unusedSimpArgs false
set_option linter.unusedVariables false
namespace Go.Proofs.YtgmpclifphbjkaaGreatDoor
open Go.RowKit

/-- Kill, by the document: the answer, the entries, the place. -/
def killM (E : List (List Int)) (place : Nat) (way : Int) (l : List Int) : Int × List (List Int) × Nat :=
  if way < 0 ∨ 2 < way then (1, E, place)
  else if 1024 < l.length then (3, E, place)
  else if way ≠ 0 ∧ 0 < E.length then
    if 1024 < l.length + (E.getD 0 []).length then (3, E, place)
    else (0, (if way = 1 then E.getD 0 [] ++ l else l ++ E.getD 0 []) :: E.tail, 0)
  else if way = 0 ∧ l.length = 0 then (0, E, place)
  else (0, (l :: E).take 60, 0)

section
variable {w0 w : World} {F : HP} {p place : Nat} {E : List (List Int)} {v : Value} {l : List Int} {way : Int}
end
end Go.Proofs.YtgmpclifphbjkaaGreatDoor
end
section
/- The kill ring's methods, further: Kill as one, Rotate, Yank, Clone. -/
set_option linter.unusedSimpArgs false
set_option linter.unusedVariables false
namespace Go.Proofs.YtgmpclifphbjkaaGreatDoor
open Go.RowKit

/-- Where a rotation leads to. -/
def rotM (m place : Nat) (n : Int) : Nat := (((place : Int) + n) % (m : Int)).toNat
theorem rotM_lt {m place : Nat} {n : Int} (h : 0 < m) : rotM m place n < m := by
  unfold rotM
  have h1 := Int.emod_nonneg ((place : Int) + n) (show (m : Int) ≠ 0 by omega)
  have h2 := Int.emod_lt_of_pos ((place : Int) + n) (show (0 : Int) < m by omega)
  omega
theorem tmod_bd (a : Int) {m : Int} (h : 0 < m) : -m < a.tmod m ∧ a.tmod m < m := by
  have h2 := Int.tmod_lt_of_pos a h
  have h3 := Int.tmod_lt_of_pos (-a) h
  rw [Int.neg_tmod] at h3
  omega
theorem tmod_same (a m : Int) : a.tmod m % m = a % m := by
  rw [Int.tmod_def]
  exact Int.sub_mul_emod_self_left a m (a.tdiv m)
theorem rot_eq (m place : Nat) (n : Int) (h : 0 < m) : (((place : Int) + n.tmod m).tmod m + m).tmod m = (rotM m place n : Int) := by
  have h1 := tmod_bd ((place : Int) + n.tmod m) (show (0 : Int) < m by omega)
  have h2 := Int.emod_nonneg ((place : Int) + n) (show (m : Int) ≠ 0 by omega)
  unfold rotM
  rw [Int.toNat_of_nonneg h2, Int.tmod_eq_emod_of_nonneg (by omega), Int.add_emod_right, tmod_same, Int.add_emod, tmod_same, ← Int.add_emod]

section
variable {w0 w : World} {F : HP} {p place : Nat} {E : List (List Int)} {v : Value} {l : List Int} {way : Int}
theorem ring_rotate_bell {n : Int} (H : Holds w0 w (RingRep p [] place • F)) :
    Ret Tryz.prog 73 #[.pointer (some ⟨p, 0, none⟩), .int .i64 n] w fun v' w' => v' = .tuple #[.slice none 0 0, .int .i64 6] ∧ Holds w0 w' (RingRep p [] place • F) := by
  obtain ⟨s, h, hs, hh, hE, hp, hm, ho, H1⟩ := H.ring
  have hb := H1.get.2
  refine ret_enter Tryz.func73 rfl Tryz.ntmps73 (Nat.le_of_ble_eq_true rfl) ?_
  dsimp only [slots0, Nat.reduceAdd]
  refine wc_seq ?_
  refine wc_region ?_
  refine wl_val (r_assign rfl) (ltn rfl) ?_
  refine wl_val (r_assign rfl) (ltn rfl) ?_
  refine wl_nil ?_
  refine wq_seq ?_
  refine wc_seq ?_
  refine wc_block ?_
  refine wc_seq ?_
  refine wc_region ?_
  refine wl_val (r_move rfl) (ltn rfl) ?_
  refine wl_eff (e_call (r_call rfl Tryz.func135 rfl rfl) (ring_none_ret _ hb ring_0)) (ltn rfl) ?_
  rintro _ _ ⟨rfl, rfl⟩
  refine wl_val (r_assign rfl) (ltn rfl) ?_
  refine wl_nil ?_
  refine wq_seq ?_
  refine wc_cond_f rfl ?_
  refine wc_seq ?_
  refine wc_region ?_
  refine wl_val (r_move rfl) (ltn rfl) ?_
  refine wl_val (r_nil rfl) (ltn rfl) ?_
  refine wl_val (r_fieldA 62 Tryz.underlying155 rfl rfl Tryz.sizeOf3 (by decide) rfl (by first | exact Nat.zero_add _ | rfl)) (ltn rfl) ?_
  refine wl_val (r_load (plain_of Tryz.underlying3 rfl) rfl (cell_of_blk hb (ring_many hs))) (ltn rfl) ?_
  refine wl_val (r_eql rfl rfl) (ltn rfl) ?_
  refine wl_val (r_assign rfl) (ltn rfl) ?_
  refine wl_nil ?_
  refine wq_seq ?_
  refine wc_cond rfl (fun h1 => ?_) (fun h => by exfalso; (try simp only [cmpS] at h); first | contradiction | omega | (simp at h <;> omega))
  (try simp only [cmpS] at h1)
  refine wc_seq ?_
  refine wc_region ?_
  refine wl_val (r_assign rfl) (ltn rfl) ?_
  refine wl_val (r_assign rfl) (ltn rfl) ?_
  refine wl_nil ?_
  refine wq_seq ?_
  refine wc_ret ?_
  refine wq_block_ret ?_
  refine wq_then_ret ?_
  refine wq_end2 (.inl rfl) Tryz.results73 rfl rfl ?_
  exact ⟨rfl, H⟩
theorem ring_rotate_ret {n : Int} (H : Holds w0 w (RingRep p E place • F)) (h0 : 0 < E.length) :
    Ret Tryz.prog 73 #[.pointer (some ⟨p, 0, none⟩), .int .i64 n] w fun v' w' => ∃ u, v' = .tuple #[u, .int .i64 0] ∧
      Holds w0 w' (RowI 21 .i32 u (E.getD (rotM E.length place n) []) • RingRep p E (rotM E.length place n) • F) := by
  obtain ⟨s, h, hs, hh, hE, hp, hm, ho, H⟩ := H.ring
  have hb := H.get.2
  have hlt := rotM_lt (place := place) (n := n) h0
  have hrot := rot_eq E.length place n h0
  have hb1 := tmod_bd n (show (0 : Int) < E.length by omega)
  have hb2 := tmod_bd ((place : Int) + n.tmod E.length) (show (0 : Int) < E.length by omega)
  refine ret_enter Tryz.func73 rfl Tryz.ntmps73 (Nat.le_of_ble_eq_true rfl) ?_
  dsimp only [slots0, Nat.reduceAdd]
  refine wc_seq ?_
  refine wc_region ?_
  refine wl_val (r_assign rfl) (ltn rfl) ?_
  refine wl_val (r_assign rfl) (ltn rfl) ?_
  refine wl_nil ?_
  refine wq_seq ?_
  refine wc_seq ?_
  refine wc_block ?_
  refine wc_seq ?_
  refine wc_region ?_
  refine wl_val (r_move rfl) (ltn rfl) ?_
  refine wl_eff (e_call (r_call rfl Tryz.func135 rfl rfl) (ring_none_ret _ hb ring_0)) (ltn rfl) ?_
  rintro _ _ ⟨rfl, rfl⟩
  refine wl_val (r_assign rfl) (ltn rfl) ?_
  refine wl_nil ?_
  refine wq_seq ?_
  refine wc_cond_f rfl ?_
  refine wc_seq ?_
  refine wc_region ?_
  refine wl_val (r_move rfl) (ltn rfl) ?_
  refine wl_val (r_nil rfl) (ltn rfl) ?_
  refine wl_val (r_fieldA 62 Tryz.underlying155 rfl rfl Tryz.sizeOf3 (by decide) rfl (by first | exact Nat.zero_add _ | rfl)) (ltn rfl) ?_
  refine wl_val (r_load (plain_of Tryz.underlying3 rfl) rfl (cell_of_blk hb (ring_many hs))) (ltn rfl) ?_
  refine wl_val (r_eql rfl rfl) (ltn rfl) ?_
  refine wl_val (r_assign rfl) (ltn rfl) ?_
  refine wl_nil ?_
  refine wq_seq ?_
  refine wc_cond rfl (fun h => by exfalso; (try simp only [cmpS] at h); first | contradiction | omega | (simp at h <;> omega)) (fun h1 => ?_)
  (try simp only [cmpS] at h1)
  refine wc_skip ?_
  refine wq_block_normal ?_
  refine wq_seq ?_
  refine wc_seq ?_
  refine wd_begin (n := 30) [0, 1, 2, 3, 4, 5, 6, 7, 8, 9, 10, 11, 12, 13, 14, 15, 16, 17, 18, 19, 20, 21, 22, 23, 24, 25, 26, 27, 28, 29] (fun W => W.heap = w.heap) (by kernel_rfl) (by kernel_rfl) rfl ?_
  have hS0 : (fun W => W.heap = w.heap) (w.drew) := rfl
  have H5d := H.drew
  refine wd_takeT 0 rfl (by kernel_rfl) (by kernel_rfl) hS0 (fun _ => r_move rfl) (ltn rfl) ?_
  refine wd_takeT 1 rfl (by kernel_rfl) (by kernel_rfl) hS0 (fun _ => r_move rfl) (ltn rfl) ?_
  refine wd_takeT 2 rfl (by kernel_rfl) (by kernel_rfl) hS0 (fun _ => r_nil rfl) (ltn rfl) ?_
  refine wd_takeT 3 rfl (by kernel_rfl) (by kernel_rfl) hS0 (fun _ => r_fieldA 63 Tryz.underlying155 rfl rfl Tryz.sizeOf3 (by decide) rfl (by first | exact Nat.zero_add _ | rfl)) (ltn rfl) ?_
  refine wd_take 4 rfl (by kernel_rfl) (by kernel_rfl) hS0 (by decide) (fun W hW => r_load (plain_of Tryz.underlying3 rfl) rfl (cell_of_blk (by rw [hW]; exact hb) (ring_place hs))) (ltn rfl) ?_
  refine wd_takeT 5 rfl (by kernel_rfl) (by kernel_rfl) hS0 (fun _ => r_move rfl) (ltn rfl) ?_
  refine wd_takeT 6 rfl (by kernel_rfl) (by kernel_rfl) hS0 (fun _ => r_move rfl) (ltn rfl) ?_
  refine wd_takeT 7 rfl (by kernel_rfl) (by kernel_rfl) hS0 (fun _ => r_nil rfl) (ltn rfl) ?_
  refine wd_takeT 8 rfl (by kernel_rfl) (by kernel_rfl) hS0 (fun _ => r_fieldA 62 Tryz.underlying155 rfl rfl Tryz.sizeOf3 (by decide) rfl (by first | exact Nat.zero_add _ | rfl)) (ltn rfl) ?_
  refine wd_take 9 rfl (by kernel_rfl) (by kernel_rfl) hS0 (by decide) (fun W hW => r_load (plain_of Tryz.underlying3 rfl) rfl (cell_of_blk (by rw [hW]; exact hb) (ring_many hs))) (ltn rfl) ?_
  refine wd_takeT 10 rfl (by kernel_rfl) (by kernel_rfl) hS0 (fun _ => r_trem rfl rfl (by omega)) (ltn rfl) ?_
  refine wd_takeT 11 rfl (by kernel_rfl) (by kernel_rfl) hS0 (fun _ => r_add rfl rfl (by omega)) (ltn rfl) ?_
  refine wd_takeT 12 rfl (by kernel_rfl) (by kernel_rfl) hS0 (fun _ => r_move rfl) (ltn rfl) ?_
  refine wd_takeT 13 rfl (by kernel_rfl) (by kernel_rfl) hS0 (fun _ => r_nil rfl) (ltn rfl) ?_
  refine wd_takeT 14 rfl (by kernel_rfl) (by kernel_rfl) hS0 (fun _ => r_fieldA 62 Tryz.underlying155 rfl rfl Tryz.sizeOf3 (by decide) rfl (by first | exact Nat.zero_add _ | rfl)) (ltn rfl) ?_
  refine wd_take 15 rfl (by kernel_rfl) (by kernel_rfl) hS0 (by decide) (fun W hW => r_load (plain_of Tryz.underlying3 rfl) rfl (cell_of_blk (by rw [hW]; exact hb) (ring_many hs))) (ltn rfl) ?_
  refine wd_takeT 16 rfl (by kernel_rfl) (by kernel_rfl) hS0 (fun _ => r_trem rfl rfl (by omega)) (ltn rfl) ?_
  refine wd_takeT 17 rfl (by kernel_rfl) (by kernel_rfl) hS0 (fun _ => r_move rfl) (ltn rfl) ?_
  refine wd_takeT 18 rfl (by kernel_rfl) (by kernel_rfl) hS0 (fun _ => r_nil rfl) (ltn rfl) ?_
  refine wd_takeT 19 rfl (by kernel_rfl) (by kernel_rfl) hS0 (fun _ => r_fieldA 62 Tryz.underlying155 rfl rfl Tryz.sizeOf3 (by decide) rfl (by first | exact Nat.zero_add _ | rfl)) (ltn rfl) ?_
  refine wd_take 20 rfl (by kernel_rfl) (by kernel_rfl) hS0 (by decide) (fun W hW => r_load (plain_of Tryz.underlying3 rfl) rfl (cell_of_blk (by rw [hW]; exact hb) (ring_many hs))) (ltn rfl) ?_
  refine wd_takeT 21 rfl (by kernel_rfl) (by kernel_rfl) hS0 (fun _ => r_add rfl rfl (by omega)) (ltn rfl) ?_
  refine wd_takeT 22 rfl (by kernel_rfl) (by kernel_rfl) hS0 (fun _ => r_move rfl) (ltn rfl) ?_
  refine wd_takeT 23 rfl (by kernel_rfl) (by kernel_rfl) hS0 (fun _ => r_nil rfl) (ltn rfl) ?_
  refine wd_takeT 24 rfl (by kernel_rfl) (by kernel_rfl) hS0 (fun _ => r_fieldA 62 Tryz.underlying155 rfl rfl Tryz.sizeOf3 (by decide) rfl (by first | exact Nat.zero_add _ | rfl)) (ltn rfl) ?_
  refine wd_take 25 rfl (by kernel_rfl) (by kernel_rfl) hS0 (by decide) (fun W hW => r_load (plain_of Tryz.underlying3 rfl) rfl (cell_of_blk (by rw [hW]; exact hb) (ring_many hs))) (ltn rfl) ?_
  refine wd_takeT 26 rfl (by kernel_rfl) (by kernel_rfl) hS0 (fun _ => r_trem rfl rfl (by omega)) (ltn rfl) ?_
  refine wd_takeT 27 rfl (by kernel_rfl) (by kernel_rfl) hS0 (fun _ => r_nil rfl) (ltn rfl) ?_
  refine wd_takeT 28 rfl (by kernel_rfl) (by kernel_rfl) hS0 (fun _ => r_fieldA 63 Tryz.underlying155 rfl rfl Tryz.sizeOf3 (by decide) rfl (by first | exact Nat.zero_add _ | rfl)) (ltn rfl) ?_
  refine wd_eff0 29 rfl (by kernel_rfl) (e_store H5d Tryz.sizeOf3 rfl rfl rfl (by rw [ring_size hs]; decide)) ?_
  rintro _ w2 H2
  rw [hrot, ring_set_place hs] at H2
  refine keepE (by kernel_rfl) ?_
  refine wd_done (by kernel_rfl) ?_
  refine wq_seq ?_
  refine wc_seq ?_
  refine wc_region ?_
  refine wl_val (r_move rfl) (ltn rfl) ?_
  refine wl_val (r_move rfl) (ltn rfl) ?_
  refine wl_val (r_nil rfl) (ltn rfl) ?_
  refine wl_val (r_fieldA 63 Tryz.underlying155 rfl rfl Tryz.sizeOf3 (by decide) rfl (by first | exact Nat.zero_add _ | rfl)) (ltn rfl) ?_
  refine wl_val (r_load (plain_of Tryz.underlying3 rfl) rfl (cell_of_blk H2.get.2 (ring_place hs))) (ltn rfl) ?_
  refine wl_eff (e_call (r_call rfl Tryz.func137 rfl rfl) (ring_at_ret hs hh (by omega) H2.get.2)) (ltn rfl) ?_
  rintro _ w3 ⟨rfl, hD2⟩
  have H3 := H2.drewn hD2
  refine wl_eff (e_call (r_call rfl Tryz.func136 rfl rfl) (clone_ret H3 (fun W HW => HW.right.slots_rd (i := rotM E.length place n) hlt) (by have := hm (E.getD (rotM E.length place n) []) (by rw [List.getD_eq_getElem?_getD, List.getElem?_eq_getElem hlt]; simp); omega))) (ltn rfl) ?_
  rintro u w4 H4
  refine wl_val (r_assign rfl) (ltn rfl) ?_
  refine wl_val (r_assign rfl) (ltn rfl) ?_
  refine wl_nil ?_
  refine wq_seq ?_
  refine wc_ret ?_
  refine wq_end2 (.inl rfl) Tryz.results73 rfl rfl ?_
  exact ⟨u, rfl, (Holds.mk_ring hs hh hE (.inl hlt) hm ho H4.d3).swap⟩

theorem Holds.slots_dup {s : List Value} {h : Nat} (H : Holds w0 w (slotsHP s h E • F)) : Holds w0 w (slotsHP s h E • slotsHP s h E • F) := H.dup_know
theorem ring_ones {s : List Value} {h n p : Nat} (ho : ∀ v ∈ s, v.oneCell' = true) : ∀ v ∈ (ringCells s h n p).toList, v.oneCell' = true := by
  intro v hv
  simp [ringCells] at hv
  rcases hv with rfl | hv | rfl | rfl | rfl <;> first | rfl | exact ho v hv
theorem ring_clone_ret (H : Holds w0 w (RingRep p E place • F)) :
    Ret Tryz.prog 72 #[.pointer (some ⟨p, 0, none⟩)] w fun v' w' => ∃ q, v' = .pointer (some ⟨q, 0, none⟩) ∧ Holds w0 w' (RingRep q E place • RingRep p E place • F) := by
  obtain ⟨s, h, hs, hh, hE, hp, hm, ho, H⟩ := H.ring
  have hb := H.get.2
  refine ret_enter Tryz.func72 rfl Tryz.ntmps72 (Nat.le_of_ble_eq_true rfl) ?_
  dsimp only [slots0, Nat.reduceAdd]
  refine wc_seq ?_
  refine wc_region ?_
  refine wl_val (r_assign rfl) (ltn rfl) ?_
  refine wl_nil ?_
  refine wq_seq ?_
  refine wc_seq ?_
  refine wc_seq ?_
  refine wc_region ?_
  refine wl_val (r_move rfl) (ltn rfl) ?_
  refine wl_eff (e_call (r_call rfl Tryz.func135 rfl rfl) (ring_none_ret _ hb ring_0)) (ltn rfl) ?_
  rintro _ _ ⟨rfl, rfl⟩
  refine wl_nil ?_
  refine wq_seq ?_
  refine wc_cond_f rfl ?_
  refine wc_skip ?_
  refine wq_seq ?_
  refine wc_seq ?_
  refine wc_region ?_
  refine wl_val (r_move rfl) (ltn rfl) ?_
  refine wl_val (r_nil rfl) (ltn rfl) ?_
  refine wl_val (r_load_whole Tryz.underlying155 rfl Tryz.sizeOf155 (ring_size hs) rfl hb) (ltn rfl) ?_
  refine wl_eff (e_alloc H Tryz.zeroValue155) (ltn rfl) ?_
  rintro _ w2 ⟨b2, rfl, H2⟩
  refine wl_eff0 (e_store_whole H2 Tryz.sizeOf155 (ring_size hs) rfl rfl rfl (ring_ones ho)) ?_
  rintro _ w3 H3
  refine wl_nil ?_
  refine wq_seq ?_
  refine wc_seq ?_
  refine wc_region ?_
  refine wl_val (r_assign rfl) (ltn rfl) ?_
  refine wl_nil ?_
  refine wq_seq ?_
  refine wc_ret ?_
  refine wq_end1 (.inl rfl) Tryz.results72 rfl ?_
  exact ⟨_, rfl, Holds.mk_ring hs hh hE hp hm ho (Holds.mk_ring hs hh hE hp hm ho (H3.rot.slots_dup.r4)).swap.rot⟩
end
end Go.Proofs.YtgmpclifphbjkaaGreatDoor
end
section
/- The kill ring's Yank and Rotate, each as one law. -/
set_option linter.unusedSimpArgs false
set_option linter.unusedVariables false
namespace Go.Proofs.YtgmpclifphbjkaaGreatDoor
open Go.RowKit
section
variable {w0 w : World} {F : HP} {p place : Nat} {E : List (List Int)}
theorem ring_facts (H : Holds w0 w (RingRep p E place • F)) : E.length ≤ 60 ∧ (place < E.length ∨ place = 0) ∧ ∀ e ∈ E, e.length ≤ 1024 := by
  obtain ⟨s, h, hs, hh, hE, hpl, hE2, hs1, H1⟩ := H.ring
  exact ⟨hE, hpl, hE2⟩
theorem ring_rotate_any {n : Int} (H : Holds w0 w (RingRep p E place • F)) : Ret Tryz.prog 73 #[.pointer (some ⟨p, 0, none⟩), .int .i64 n] w fun v w' => ∃ u, v = .tuple #[u, .int .i64 (if E.length = 0 then 6 else 0)] ∧
    Holds w0 w' (RowI 21 .i32 u (if E.length = 0 then [] else E.getD (rotM E.length place n) []) • RingRep p E (if E.length = 0 then place else rotM E.length place n) • F) := by
  by_cases h0 : E.length = 0
  · obtain rfl := List.eq_nil_of_length_eq_zero h0
    simp only [List.length_nil, if_true]
    exact (ring_rotate_bell H).mono fun v w' h => ⟨_, h.1, h.2.row_nil none⟩
  · simp only [if_neg h0]
    exact (ring_rotate_ret H (by omega)).mono fun v w' h => h
end
end Go.Proofs.YtgmpclifphbjkaaGreatDoor
end
section
/- Lists of lists of numbers, the inner ones in memory that is never written any more. -/
set_option linter.unusedSimpArgs false
set_option linter.unusedVariables false
namespace Go.Proofs.YtgmpclifphbjkaaGreatDoor
open Go.RowKit
/-- Each of these slices reads so. -/
def ImmsI (I : Hp) (k : IntKind) (vs : List Value) (ls : List (List Int)) : Prop := vs.length = ls.length ∧ ∀ j, j < ls.length → ImmI I k (vs.getD j undef) (ls.getD j [])
def immsI (k : IntKind) (vs : List Value) (ls : List (List Int)) : HP := know (fun I => ImmsI I k vs ls) fun _ _ hl h => ⟨h.1, fun j hj => (h.2 j hj).mono hl⟩
/-- A slice of one's own of such slices. -/
def LL (e : TypeId) (k : IntKind) (v : Value) (ls : List (List Int)) : HP := exHP fun vs => Row e 1 v ls.length vs • immsI k vs ls
theorem getD_app_left {α : Type _} {l m : List α} {j : Nat} {d : α} (h : j < l.length) : (l ++ m).getD j d = l.getD j d := by simp [List.getD_eq_getElem?_getD, List.getElem?_append_left h]
theorem getD_app_right {α : Type _} {l m : List α} {j : Nat} {d : α} (h : l.length ≤ j) : (l ++ m).getD j d = m.getD (j - l.length) d := by simp [List.getD_eq_getElem?_getD, List.getElem?_append_right h]
theorem getD_drop {α : Type _} {l : List α} {i j : Nat} {d : α} : (l.drop i).getD j d = l.getD (i + j) d := by simp [List.getD_eq_getElem?_getD]
theorem getD_take {α : Type _} {l : List α} {i j : Nat} {d : α} (h : j < i) : (l.take i).getD j d = l.getD j d := by simp [List.getD_eq_getElem?_getD, List.getElem?_take, h]
theorem getD_mem' {α : Type _} {l : List α} {j : Nat} {d : α} (h : j < l.length) : l.getD j d ∈ l := by rw [List.getD_eq_getElem?_getD, List.getElem?_eq_getElem h]; exact List.getElem_mem h
theorem ImmsI.app {I : Hp} {k : IntKind} {vs us : List Value} {ls ms : List (List Int)} (h : ImmsI I k vs ls) (g : ImmsI I k us ms) : ImmsI I k (vs ++ us) (ls ++ ms) := by
  refine ⟨by simp [h.1, g.1], fun j hj => ?_⟩
  by_cases hl : j < ls.length
  · rw [getD_app_left (by rw [h.1]; exact hl), getD_app_left hl]; exact h.2 j hl
  · have hj' : j - ls.length < ms.length := by simp at hj; omega
    rw [getD_app_right (by rw [h.1]; omega), getD_app_right (by omega), h.1]; exact g.2 _ hj'
theorem ImmsI.drop {I : Hp} {k : IntKind} {vs : List Value} {ls : List (List Int)} (h : ImmsI I k vs ls) (i : Nat) : ImmsI I k (vs.drop i) (ls.drop i) := by
  refine ⟨by simp [h.1], fun j hj => ?_⟩
  rw [getD_drop, getD_drop]
  exact h.2 _ (by simp at hj; omega)
theorem ImmsI.take {I : Hp} {k : IntKind} {vs : List Value} {ls : List (List Int)} (h : ImmsI I k vs ls) (i : Nat) : ImmsI I k (vs.take i) (ls.take i) := by
  refine ⟨by simp [h.1], fun j hj => ?_⟩
  simp at hj
  rw [getD_take (by omega), getD_take (by omega)]
  exact h.2 _ (by omega)
theorem ImmI.one {I : Hp} {k : IntKind} {v : Value} {l : List Int} (h : ImmI I k v l) : ImmsI I k [v] [l] := ⟨rfl, fun j hj => by
  obtain rfl : j = 0 := by simp at hj; omega
  exact h⟩
theorem ImmI.cell1 {I : Hp} {k : IntKind} {v : Value} {l : List Int} (h : ImmI I k v l) : v.oneCell' = true := by obtain ⟨a, c, rfl, _⟩ := h; rfl
section
variable {w0 w : World} {F : HP} {e : TypeId} {k : IntKind} {v : Value} {vs us : List Value} {ls ms : List (List Int)} {l : List Int}
theorem Rd.upto1 {n : Nat} {xs : List Value} (hr : Rd w 1 v n xs) {i : Nat} (h : i ≤ n) : Rd w 1 (cutV 1 0 i v) i (xs.take i) := by
  have h1 := hr.cut (Nat.zero_le i) h
  simpa using h1
end
end Go.Proofs.YtgmpclifphbjkaaGreatDoor
end
section
/- Slices of structs that one reads. -/
set_option linter.unusedSimpArgs false
set_option linter.unusedVariables false
namespace Go.Proofs.YtgmpclifphbjkaaGreatDoor
open Go.RowKit
theorem flat_len {α : Type _} {enc : α → List Value} {sz : Nat} (he : ∀ a, (enc a).length = sz) (l : List α) : (l.flatMap enc).length = l.length * sz := by
  induction l with
  | nil => simp
  | cons a l ih => simp [he, ih, Nat.add_mul, Nat.add_comm]
theorem flat_elem {α : Type _} {enc : α → List Value} {sz : Nat} (he : ∀ a, (enc a).length = sz) {l : List α} {k : Nat} (hk : k < l.length) (d : α) : ((l.flatMap enc).drop (k * sz)).take sz = enc (l.getD k d) := by
  have h1 : l = l.take k ++ l.getD k d :: l.drop (k + 1) := by
    rw [List.getD_eq_getElem?_getD, List.getElem?_eq_getElem hk]
    simp
  have h2 : ((l.take k).flatMap enc).length = k * sz := by rw [flat_len he, List.length_take, Nat.min_eq_left (by omega)]
  conv => lhs; rw [h1]
  rw [List.flatMap_append, List.drop_append, h2]
  simp [h2, List.take_append, he]
/-- An element is read whole. -/
theorem r_load_elem {P : Program} {L : List (Nat × Value)} {w : World} {ty : TypeId} {x : Operand} {t : TypeId} {d : TypeDesc} {b o n c sz n' k : Nat} {xs ys : List Value} (hr : Rd w sz (.slice (some ⟨b, o, none⟩) n c) n' xs) (hk : k < n') (hu : P.underlying t = some d) (hd : isRowD d = true) (hs : ∀ w, (sizeOf t).run P w = .ok sz w)
    (hx : ev L x = some (.pointer (some ⟨b, o + (k : Int).toNat * sz, none⟩))) (hy : (xs.drop (k * sz)).take sz = ys) (hl : ys.length = sz) : Val P L (.load t x) ty w (.agg ys.toArray) w :=
  r_load_agg (by rw [hu]; rfl) (plain_row hu hd) hs hl hx (fun j u hj => by
    have hjl : j < sz := by rw [← hl]; exact (List.getElem?_eq_some_iff.1 hj).1
    rw [hr.atS hk hjl, List.getD_eq_getElem?_getD]
    rw [← hy, List.getElem?_take, if_pos hjl, List.getElem?_drop] at hj
    rw [hj]; rfl)
end Go.Proofs.YtgmpclifphbjkaaGreatDoor
end
