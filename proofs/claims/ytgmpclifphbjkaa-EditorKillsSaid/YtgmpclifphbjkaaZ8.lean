import Derived.Test.YtgmpclifphbjkaaZ7
import Derived.Test.YtgmpclifphbjkaaZ5
import Derived.Test.YtgmpclifphbjkaaZ4
import Derived.Test.YtgmpclifphbjkaaProg
/- Texts of mine, joined: LineP Fun Imm Tab Move BLive Same Apply. -/
section
/- A buffer's Move and Line. -/
set_option linter.unusedSimpArgs false
set_option linter.unusedVariables false
namespace Go.Proofs.Ytgmpclifphbjkaa
open Go.RowKit
/-- Where the point is behind a move. -/
def mvP (n : Nat) (pt x : Int) : Int := if 0 ≤ x ∧ x ≤ n then x else pt
def mvE (n : Nat) (x : Int) : Int := if 0 ≤ x ∧ x ≤ n then 0 else 70
/-- A line's cells. -/
def lineCells (v : Value) (pt mk : Int) : Array Value := #[v, .int .i64 pt, .int .i64 mk]
theorem line_ones {v : Value} {pt mk : Int} (h : v.oneCell' = true) : ∀ u ∈ (lineCells v pt mk).toList, u.oneCell' = true := by
  intro u hu
  simp [lineCells] at hu
  rcases hu with rfl | rfl | rfl
  · exact h
  · rfl
  · rfl
section
variable {w0 w : World} {F : HP} {p : Nat} {L : List Int} {pt mk x : Int} {v : Value} {l : List Int}
theorem buf_move_ret (H : Holds w0 w (BufRep p L pt mk • F)) : Ret Try.prog 31 #[.pointer (some ⟨p, 0, none⟩), .int .i64 x] w fun v w' => v = .int .i64 (mvE L.length x) ∧ Holds w0 w' (BufRep p L (mvP L.length pt x) mk • F) := by
  refine ret_enter Try.func31 rfl Try.ntmps31 (Nat.le_of_ble_eq_true rfl) ?_
  dsimp only [slots0, Nat.reduceAdd]
  refine wc_seq ?_
  refine wc_region ?_
  refine wl_val (r_assign rfl) (ltn rfl) ?_
  refine wl_nil ?_
  refine wq_seq ?_
  refine wc_seq ?_
  refine wc_block ?_
  refine wc_seq ?_
  refine wc_region ?_
  refine wl_val (r_move rfl) (ltn rfl) ?_
  refine wl_eff (e_call (r_call rfl Try.func58 rfl rfl) (buf_none_rep H)) (ltn rfl) ?_
  rintro _ _ ⟨rfl, rfl⟩
  refine wl_val (r_assign rfl) (ltn rfl) ?_
  refine wl_nil ?_
  refine wq_seq ?_
  refine wc_cond rfl (fun h1 => ?_) (fun h1 => ?_)
  · (try simp only [cmpS] at h1)
    exfalso; first | contradiction | omega
  · (try simp only [cmpS] at h1)
    try (exfalso; first | contradiction | omega)
    all_goals
      
      refine wc_seq ?_
      refine wc_region ?_
      refine wl_val (r_move rfl) (ltn rfl) ?_
      refine wl_val (r_lss rfl rfl) (ltn rfl) ?_
      refine wl_split rfl (ltn rfl) (fun h2 => ?_) (fun h2 => ?_)
      · (try simp only [cmpS] at h2)
        try (exfalso; first | contradiction | omega)
        all_goals
          refine wl_no rfl rfl rfl (ltn rfl) ?_
          refine wl_no rfl rfl rfl (ltn rfl) ?_
          refine wl_no rfl rfl rfl (ltn rfl) ?_
          refine wl_no rfl rfl rfl (ltn rfl) ?_
          refine wl_val (r_pick_t rfl rfl) (ltn rfl) ?_
          refine wl_val (r_assign rfl) (ltn rfl) ?_
          refine wl_nil ?_
          refine wq_seq ?_
          refine wc_cond_t rfl ?_
          refine wc_seq ?_
          refine wc_region ?_
          refine wl_val (r_assign rfl) (ltn rfl) ?_
          refine wl_nil ?_
          refine wq_seq ?_
          refine wc_ret ?_
          refine wq_block_ret ?_
          refine wq_then_ret ?_
          refine wq_end1 (.inl rfl) Try.results31 rfl ?_
          exact ⟨by rw [mvE, if_neg (by omega)], by rw [mvP, if_neg (by omega)]; exact H⟩
      · (try simp only [cmpS] at h2)
        try (exfalso; first | contradiction | omega)
        all_goals
          refine wl_yes rfl rfl ?_
          refine wl_val (r_move rfl) (ltn rfl) ?_
          refine wl_yes rfl rfl ?_
          refine wl_val (r_move rfl) (ltn rfl) ?_
          refine wl_yes rfl rfl ?_
          refine wl_eff (e_call (r_call rfl Try.func29 rfl rfl) (buf_len_ret H)) (ltn rfl) ?_
          rintro _ w2 ⟨rfl, hD⟩
          have HL := H.drewn hD
          refine wl_yes rfl rfl ?_
          refine wl_val (r_gtr rfl rfl) (ltn rfl) ?_
          refine wl_val (r_pick_f rfl rfl) (ltn rfl) ?_
          refine wl_val (r_assign rfl) (ltn rfl) ?_
          refine wl_nil ?_
          refine wq_seq ?_
          refine wc_cond rfl (fun h3 => ?_) (fun h3 => ?_)
          · (try simp only [cmpS] at h3)
            try (exfalso; first | contradiction | omega)
            all_goals
              
              refine wc_seq ?_
              refine wc_region ?_
              refine wl_val (r_assign rfl) (ltn rfl) ?_
              refine wl_nil ?_
              refine wq_seq ?_
              refine wc_ret ?_
              refine wq_block_ret ?_
              refine wq_then_ret ?_
              refine wq_end1 (.inl rfl) Try.results31 rfl ?_
              exact ⟨by rw [mvE, if_neg (by omega)], by rw [mvP, if_neg (by omega)]; exact HL⟩
          · (try simp only [cmpS] at h3)
            try (exfalso; first | contradiction | omega)
            all_goals
              
              refine wc_skip ?_
              refine wq_block_normal ?_
              refine wq_seq ?_
              refine wc_seq ?_
              obtain ⟨a, c, xs, f, t, h11, h12, h13, h14, h15, h16, h17, hc1, hc2, hl, HB⟩ := HL.buf
              refine wc_region ?_
              refine wl_val (r_move rfl) (ltn rfl) ?_
              refine wl_val (r_move rfl) (ltn rfl) ?_
              refine wl_val (r_nil rfl) (ltn rfl) ?_
              refine wl_val (r_fieldA 4 Try.underlying109 rfl rfl Try.sizeOf3 (by decide) rfl (by first | exact Nat.zero_add _ | rfl)) (ltn rfl) ?_
              refine wl_eff0 (e_store HB Try.sizeOf3 rfl rfl rfl (by rw [buf_size]; decide)) ?_
              rintro _ w3 H3
              rw [buf_set_point] at H3
              refine wl_nil ?_
              refine wq_seq ?_
              refine wc_seq ?_
              refine wc_region ?_
              refine wl_val (r_assign rfl) (ltn rfl) ?_
              refine wl_nil ?_
              refine wq_seq ?_
              refine wc_ret ?_
              refine wq_end1 (.inl rfl) Try.results31 rfl ?_
              exact ⟨by rw [mvE, if_pos (by omega)], by rw [mvP, if_pos (by omega)]; exact Holds.mk_buf h11 h12 h13 h14 h15 (by omega) h17 H3⟩
theorem buf_line_ret (H : Holds w0 w (BufRep p L pt mk • F)) : Ret Try.prog 32 #[.pointer (some ⟨p, 0, none⟩)] w fun v' w' => ∃ u, v' = .agg (lineCells u pt mk) ∧ Holds w0 w' (RowI 21 .i32 u L • BufRep p L pt mk • F) := by
  refine ret_enter Try.func32 rfl Try.ntmps32 (Nat.le_of_ble_eq_true rfl) ?_
  dsimp only [slots0, Nat.reduceAdd]
  refine wc_seq ?_
  refine wc_region ?_
  refine wl_eff (e_alloc H Try.zeroValue38) (ltn rfl) ?_
  rintro _ w1 ⟨b1, rfl, H1⟩
  refine wl_nil ?_
  refine wq_seq ?_
  refine wc_seq ?_
  refine wc_region ?_
  refine wl_val (r_move rfl) (ltn rfl) ?_
  refine wl_eff (e_call (r_call rfl Try.func62 rfl rfl) (buf_text_ret H1.swap)) (ltn rfl) ?_
  rintro u w2 H2
  obtain ⟨au, cu, hu, _⟩ := (H2.row_rd).form
  subst hu
  refine wl_val (r_move rfl) (ltn rfl) ?_
  refine wl_eff (e_call (r_call rfl Try.func28 rfl rfl) (buf_point_ret H2.swap)) (ltn rfl) ?_
  rintro _ _ ⟨rfl, rfl⟩
  refine wl_val (r_move rfl) (ltn rfl) ?_
  refine wl_eff (e_call (r_call rfl Try.func63 rfl rfl) (buf_mark_ret H2.swap)) (ltn rfl) ?_
  rintro _ _ ⟨rfl, rfl⟩
  refine wl_val (r_build (pl := #[(0, 1), (1, 1), (2, 1)]) (lineCells (.slice au L.length cu) pt mk) Try.underlying38 Try.zeroValue38 (fun w => by kernel_rfl) rfl (by kernel_rfl)) (ltn rfl) ?_
  refine wl_eff0 (e_store_whole (cs := lineCells (.slice au L.length cu) pt mk) H2.rot Try.sizeOf38 rfl rfl rfl rfl (line_ones rfl)) ?_
  rintro _ w5 H5
  refine wl_nil ?_
  refine wq_seq ?_
  refine wc_ret ?_
  refine wq_endC (.inl rfl) Try.results32 rfl Try.underlying38 rfl (by rw [show (Try.prog.info? 38).map (·.size) = some 3 from by kernel_rfl]; rfl) H5.get.2 ?_
  exact ⟨_, rfl, H5.right⟩
end
end Go.Proofs.Ytgmpclifphbjkaa
end
section
/- Function values; a slice of a whole array. -/
set_option linter.unusedSimpArgs false
set_option linter.unusedVariables false
namespace Go.Proofs.Ytgmpclifphbjkaa
open Go.RowKit
section
variable {P : Program} {L : List (Nat × Value)} {w0 w : World} {F : HP} {ty : TypeId}
/-- What a function value does, called with these. -/
def FnRet (P : Program) (fv : Value) (vs : List Value) (w : World) (T : Value → World → Prop) : Prop :=
  ∃ f first cap fn c, fv = .func (.func f) (List.toArray first) (List.toArray cap) ∧ P.funcs[f]? = some fn ∧ (fn.name == "runtime.NumGoroutine") = false ∧ fn.body = some c ∧ Ret P f (first ++ vs ++ cap).toArray w T
theorem e_call_fn {x : Operand} {args : List Operand} {ts : Array TypeId} {fv : Value} {vs : List Value} {T : Value → World → Prop} (hx : ev L x = some fv) (ha : evl L args = some vs) (h : FnRet P fv vs w T) :
    Eff P L (.call ⟨.value x, args.toArray, ts⟩) ty w T := by
  obtain ⟨f, first, cap, fn, c, rfl, hf, hn, hb, hr⟩ := h
  exact e_call (r_call_val hx ha hf hn hb) hr
/-- It tells, of each number, whether it holds; what one holds is left. -/
def Tells (P : Program) (w0 : World) (F : HP) (fv : Value) (g : Int → Bool) : Prop :=
  fv.oneCell' = true ∧ ∀ (G : HP) (W : World), Holds w0 W (G • F) → ∀ r, FnRet P fv [.int .i32 r] W fun v W' => v = .bool (g r) ∧ Holds w0 W' (G • F)
theorem r_slice_arr {t e s n : Nat} {x : Operand} {b o : Nat} (ht : P.underlying t = some (.array n e)) (hs : ∀ w, (sizeOf e).run P w = .ok s w) (hx : ev L x = some (.pointer (some ⟨b, o, none⟩))) :
    Val P L (.slice t x none none none) ty w (.slice (some ⟨b, o, none⟩) n n) w := fun ρ hρ d pos aft g => by
  simp [execOp, hρ _ _ hx, Instr.sliceAt, run_underlying ht, Instr.sliceBounds, Instr.sureAddr, hs, Addr.add]
end
end Go.Proofs.Ytgmpclifphbjkaa
end
section
/- Memory that is never written any more: slices of numbers in it. -/
set_option linter.unusedSimpArgs false
set_option linter.unusedVariables false
namespace Go.Proofs.Ytgmpclifphbjkaa
open Go.RowKit

/-- In what is never written any more the slice v reads as whole numbers. -/
def ImmI (I : Hp) (k : IntKind) (v : Value) (l : List Int) : Prop := ∃ a c, v = .slice a l.length c ∧ l.length ≤ c ∧ (c : Int) ≤ 9223372036854775807 ∧
  (0 < l.length → ∃ b o cs e fr, a = some ⟨b, o, none⟩ ∧ I b = some (.cells cs e fr) ∧ ∀ j, j < l.length → cs[o + j]? = some (.int k (l.getD j 0)))
theorem ImmI.mono {I I' : Hp} {k : IntKind} {v : Value} {l : List Int} (hl : Hp.le I I') (h : ImmI I k v l) : ImmI I' k v l := by
  obtain ⟨a, c, h1, h2, h3, h4⟩ := h
  exact ⟨a, c, h1, h2, h3, fun hp => let ⟨b, o, cs, e, fr, e1, e2, e3⟩ := h4 hp; ⟨b, o, cs, e, fr, e1, hl _ _ e2, e3⟩⟩
def immI (k : IntKind) (v : Value) (l : List Int) : HP := know (fun I => ImmI I k v l) fun _ _ hl h => h.mono hl

theorem RdI.mk {w : World} {k : IntKind} {v : Value} {l : List Int} {a : Option Addr} {c : Nat} (h1 : v = .slice a l.length c) (h2 : l.length ≤ c) (h3 : (c : Int) ≤ 9223372036854775807)
    (h4 : 0 < l.length → ∃ b o, a = some ⟨b, o, none⟩ ∧ ∀ j, j < l.length → w.cell? ⟨b, o + j, none⟩ = some (.int k (l.getD j 0))) : RdI w k v l := by
  refine ⟨by simp, a, c, h1, h2, h3, fun hp => ?_⟩
  obtain ⟨b, o, e, hc⟩ := h4 hp
  refine ⟨b, o, e, fun j hj => ?_⟩
  rw [hc j (by omega)]
  simp [List.getD_eq_getElem?_getD, show j < l.length by omega]
theorem ImmI.rd {w : World} {n : Nat} {I : Hp} {k : IntKind} {v : Value} {l : List Int} (h : ImmI I k v l) (hI : ∀ k o, I k = some o → n ≤ k ∧ w.heap[k]? = some o) : RdI w k v l := by
  obtain ⟨a, c, h1, h2, h3, h4⟩ := h
  exact RdI.mk h1 h2 h3 fun hp => let ⟨b, o, cs, e, fr, e1, e2, e3⟩ := h4 hp; ⟨b, o, e1, fun j hj => cell_of_blk (hI _ _ e2).2 (e3 j hj)⟩
section
variable {w0 w : World} {F : HP} {e : TypeId} {k : IntKind} {v : Value} {l : List Int}
theorem Holds.imm_rd (H : Holds w0 w (immI k v l • F)) : RdI w k v l := let ⟨I, h, hI⟩ := H.of_know; h.rd hI
theorem Holds.of_imm {b : Nat} {o : Obj} (H : Holds w0 w (imm b o • F)) : ∃ I : Hp, I b = some o ∧ True := let ⟨I, h, _⟩ := H.of_know; ⟨I, h, trivial⟩
theorem know_ent {K K' : Hp → Prop} {hK : ∀ I I', Hp.le I I' → K I → K I'} {hK' : ∀ I I', Hp.le I I' → K' I → K' I'} (h : ∀ I, K I → K' I) (B : HP) : Ent (know K hK • B) (know K' hK' • B) := fun I x ha =>
  (know_sep K' hK' B I x).2 ⟨h I ((know_sep K hK B I x).1 ha).1, ((know_sep K hK B I x).1 ha).2⟩
theorem know_two {K K' M : Hp → Prop} {hK : ∀ I I', Hp.le I I' → K I → K I'} {hK' : ∀ I I', Hp.le I I' → K' I → K' I'} {hM : ∀ I I', Hp.le I I' → M I → M I'} (h : ∀ I, K I → K' I → M I) (B : HP) : Ent (know K hK • know K' hK' • B) (know M hM • B) := fun I x ha => by
  have h1 := (know_sep K hK _ I x).1 ha
  have h2 := (know_sep K' hK' _ I x).1 h1.2
  exact (know_sep M hM B I x).2 ⟨h I h1.1 h2.1, h2.2⟩
theorem Holds.mk_know {K : Hp → Prop} {hK : ∀ I I', Hp.le I I' → K I → K I'} (h : ∀ I, K I) (H : Holds w0 w F) : Holds w0 w (know K hK • F) := H.ent fun I x ha => (know_sep K hK F I x).2 ⟨h I, ha⟩
/-- A row of one's own is never written any more. -/
theorem Holds.freezeI (H : Holds w0 w (RowI e k v l • F)) : Holds w0 w (immI k v l • F) := by
  rcases H.row_open with ⟨a, rfl, h1, h2, H1⟩ | ⟨g, o, c, cur, rfl, h2, h3, h4, h5, H1⟩
  · have hl : l = [] := by simpa using h2
    subst hl
    exact H1.add_emp.ent fun I x ha => (know_sep _ _ F I x).2 ⟨⟨a, 0, rfl, by simp, by decide, fun h => by simp at h⟩, by rw [Go.Proofs.Ytgmpclifphbjkaa.emp_sep] at ha; exact ha⟩
  · refine H1.freeze.ent (know_ent (fun I hI => ⟨_, c, rfl, h2, h3, fun _ => ⟨g, o, cur, e, (0, 0), rfl, hI, fun j hj => ?_⟩⟩) F)
    rw [h5 j (by omega)]
    simp [List.getD_eq_getElem?_getD, hj]
end
end Go.Proofs.Ytgmpclifphbjkaa
end
section
/- What a rune is, a control, how wide it is, a letter: ucell's tables. -/
set_option linter.unusedSimpArgs false
set_option linter.unusedVariables false
namespace Go.Proofs.Ytgmpclifphbjkaa
open Go.RowKit

def validM (r : Int) : Bool := decide (0 ≤ r ∧ r < 55296 ∨ 57343 < r ∧ r ≤ 1114111)
def controlM (r : Int) : Bool := decide (0 ≤ r ∧ r < 32 ∨ 127 ≤ r ∧ r ≤ 159)
def within (r : Int) (T : List (Int × Int)) : Bool := T.any fun x => decide (x.1 ≤ r ∧ r ≤ x.2)
def noneT : List (Int × Int) := [(768, 879), (1155, 1161), (1425, 1469), (1552, 1562), (1611, 1631), (3633, 3633), (3636, 3642), (3655, 3662), (6832, 6911), (7616, 7679), (8203, 8207), (8400, 8447), (12441, 12442), (65024, 65039), (65056, 65071)]
def wideT : List (Int × Int) := [(4352, 4447), (11904, 12350), (12353, 13311), (13312, 19903), (19968, 40959), (40960, 42191), (44032, 55203), (63744, 64255), (65072, 65135), (65280, 65376), (65504, 65510), (127744, 128591), (129280, 129535), (131072, 262141)]
def widthM (r : Int) : Int := if !validM r || controlM r || within r noneT then 0 else if within r wideT then 2 else 1
def letterM (r : Int) : Bool :=
  if r < 192 then decide (48 ≤ r ∧ r ≤ 57 ∨ 65 ≤ r ∧ r ≤ 90 ∨ 97 ≤ r ∧ r ≤ 122)
  else if r = 215 ∨ r = 247 ∨ r = 65533 ∨ 8192 ≤ r ∧ r ≤ 8303 ∨ 12288 ≤ r ∧ r ≤ 12351 ∨ 65280 ≤ r ∧ r ≤ 65295 then false
  else validM r && decide (0 < widthM r)

theorem Holds.cell {w0 w : World} {F : HP} (H : Holds w0 w F) {a : Addr} {v : Value} (h : w0.cell? a = some v) : w.cell? a = some v := (H.base.cell (World.block_lt_of_cell? _ _ h)).trans h
theorem two_cells {w : World} {b o : Nat} {u v : Value} (h : w.cell? ⟨b, o, none⟩ = some u) (k : w.cell? ⟨b, o + 1, none⟩ = some v) : ∀ (j : Nat) x, ([u, v] : List Value)[j]? = some x → w.cell? ⟨b, o + j, none⟩ = some x := by
  intro j x hj
  match j, hj with
  | 0, hj => cases hj; exact h
  | 1, hj => cases hj; exact k
  | j + 2, hj => simp at hj
/-- The table's cells stand in a block. -/
def tabVals (T : List (Int × Int)) : List Value := T.flatMap fun x => [.int .i32 x.1, .int .i32 x.2]
/-- The program's two tables. -/
structure Tabs (w : World) : Prop where
  tnone : Rd w 2 (.slice (some ⟨0, 0, none⟩) 15 15) 15 (tabVals noneT)
  twide : Rd w 2 (.slice (some ⟨1, 0, none⟩) 14 14) 14 (tabVals wideT)
section
variable {w0 w : World} {F : HP} {r : Int}
theorem tab_len (T : List (Int × Int)) : (tabVals T).length = T.length * 2 := by
  induction T with
  | nil => rfl
  | cons x r ih => simp only [tabVals, List.flatMap_cons, List.length_append] at *; simp [ih]; omega
theorem tab_from (T : List (Int × Int)) (k : Nat) (h : k < T.length) : (tabVals T).getD (k * 2) undef = .int .i32 (T.getD k (0, 0)).1 ∧ (tabVals T).getD (k * 2 + 1) undef = .int .i32 (T.getD k (0, 0)).2 := by
  induction T generalizing k with
  | nil => simp at h
  | cons x r ih =>
    cases k with
    | zero => exact ⟨rfl, rfl⟩
    | succ k =>
      have := ih k (by simpa using h)
      rw [show (k + 1) * 2 = k * 2 + 2 from by omega, show k * 2 + 2 + 1 = (k * 2 + 1) + 2 from by omega]
      simpa [tabVals, List.getD_eq_getElem?_getD] using this
theorem within_take {r : Int} {T : List (Int × Int)} {k : Nat} (h : k < T.length) : within r (T.take (k + 1)) = (within r (T.take k) || decide ((T.getD k (0, 0)).1 ≤ r ∧ r ≤ (T.getD k (0, 0)).2)) := by
  unfold within
  rw [List.take_succ_eq_append_getElem h, List.any_append]
  simp [List.getD_eq_getElem?_getD, h]
theorem within_yes {r : Int} {T : List (Int × Int)} {k : Nat} (h : k < T.length) (hk : (T.getD k (0, 0)).1 ≤ r ∧ r ≤ (T.getD k (0, 0)).2) : within r T = true := by
  unfold within
  rw [List.any_eq_true]
  refine ⟨T.getD k (0, 0), ?_, by simpa using hk⟩
  rw [List.getD_eq_getElem?_getD, List.getElem?_eq_getElem h]
  exact List.getElem_mem h
end
end Go.Proofs.Ytgmpclifphbjkaa
end
section
/- Where words begin and end, forward and backward. -/
set_option linter.unusedSimpArgs false
set_option linter.unusedVariables false
namespace Go.Proofs.Ytgmpclifphbjkaa
open Go.RowKit

/-- As long as it holds, forward; backward. -/
def overM (g : Int → Bool) (l : List Int) (at_ : Nat) : Nat := at_ + ((l.drop at_).takeWhile g).length
def backM (g : Int → Bool) (l : List Int) (at_ : Nat) : Nat := at_ - ((l.take at_).reverse.takeWhile g).length
theorem tw_len {g : Int → Bool} : ∀ {l : List Int} {n : Nat}, n ≤ l.length → (∀ j, j < n → g (l.getD j 0) = true) → (n = l.length ∨ g (l.getD n 0) = false) → (l.takeWhile g).length = n
  | [], n, h, _, _ => by simp at h; simp [h]
  | x :: l, 0, _, _, h => by
    rcases h with h | h
    · simp at h
    · simp at h; simp [List.takeWhile, h]
  | x :: l, n + 1, h, k, h2 => by
    have h0 := k 0 (by omega)
    simp at h0
    have ih := tw_len (l := l) (n := n) (by simpa using h) (fun j hj => by simpa using k (j + 1) (by omega)) (by simpa using h2)
    simp [List.takeWhile, h0, ih]
theorem over_eq {g : Int → Bool} {l : List Int} {i k : Nat} (h1 : i ≤ k) (h2 : k ≤ l.length) (h3 : ∀ j, i ≤ j → j < k → g (l.getD j 0) = true) (h4 : k = l.length ∨ g (l.getD k 0) = false) : overM g l i = k := by
  have := tw_len (g := g) (l := l.drop i) (n := k - i) (by simp; omega) (fun j hj => by
    have := h3 (i + j) (by omega) (by omega)
    simpa [List.getD_eq_getElem?_getD] using this) (by
      rcases h4 with h4 | h4
      · exact .inl (by simp; omega)
      · right
        simpa [List.getD_eq_getElem?_getD, show i + (k - i) = k from by omega] using h4)
  unfold overM
  omega
theorem back_eq {g : Int → Bool} {l : List Int} {i k : Nat} (h1 : k ≤ i) (h2 : i ≤ l.length) (h3 : ∀ j, k ≤ j → j < i → g (l.getD j 0) = true) (h4 : k = 0 ∨ g (l.getD (k - 1) 0) = false) : backM g l i = k := by
  have e : ∀ j, j < i → (l.take i).reverse.getD j 0 = l.getD (i - 1 - j) 0 := by
    intro j hj
    rw [List.getD_eq_getElem?_getD, List.getElem?_reverse (by simp; omega), List.length_take, Nat.min_eq_left h2, List.getElem?_take_of_lt (by omega), ← List.getD_eq_getElem?_getD]
  have := tw_len (g := g) (l := (l.take i).reverse) (n := i - k) (by simp; omega) (fun j hj => by
    rw [e j (by omega)]; exact h3 _ (by omega) (by omega)) (by
      rcases h4 with h4 | h4
      · exact .inl (by simp; omega)
      · by_cases hk : k = 0
        · exact .inl (by simp; omega)
        · right
          rw [e _ (by omega), show i - 1 - (i - k) = k - 1 from by omega]; exact h4)
  unfold backM
  omega
theorem over_bd (g : Int → Bool) (l : List Int) {i : Nat} (h : i ≤ l.length) : i ≤ overM g l i ∧ overM g l i ≤ l.length := by
  have := (List.takeWhile_sublist g (l := l.drop i)).length_le
  simp at this
  unfold overM; omega
theorem back_bd (g : Int → Bool) (l : List Int) (i : Nat) : backM g l i ≤ i := by unfold backM; omega
/-- A place of the line. -/
def withinM (n : Nat) (x : Int) : Nat := (min (max x 0) n).toNat
theorem withinM_le (n : Nat) (x : Int) : withinM n x ≤ n := by unfold withinM; omega

section
variable {w0 w : World} {F G : HP} {v fv : Value} {l : List Int} {g : Int → Bool}
theorem cells_one {v : Value} (h : v.oneCell' = true) : v.cells = #[v] := by cases v <;> simp_all [Value.cells, Value.oneCell']
def wordEndM (l : List Int) (x : Int) : Nat := overM letterM l (overM (fun r => !letterM r) l (withinM l.length x))
def wordStartM (l : List Int) (x : Int) : Nat := backM letterM l (backM (fun r => !letterM r) l (withinM l.length x))
def beginsM (r : Int) : Bool := decide (widthM r ≠ 0) || controlM r
/-- Where the next character begins; where the one ahead begins. -/
def nextM (l : List Int) (x : Int) : Nat := if withinM l.length x < l.length then overM (fun r => !beginsM r) l (withinM l.length x + 1) else l.length
theorem next_eq {l : List Int} {x : Int} {n k : Nat} (hn : withinM l.length x = n) (h : n < l.length) (h1 : n + 1 ≤ k) (h2 : k ≤ l.length) (h3 : ∀ j, n + 1 ≤ j → j < k → (!beginsM (l.getD j 0)) = true) (h4 : k = l.length ∨ beginsM (l.getD k 0) = true) : nextM l x = k := by
  rw [nextM, hn, if_pos h]
  exact over_eq h1 h2 h3 (h4.imp_right fun h5 => by rw [h5]; rfl)
def prevM (l : List Int) (x : Int) : Nat := backM (fun r => !beginsM r) l (withinM l.length x) - 1
end
end Go.Proofs.Ytgmpclifphbjkaa
end
section
/- The buffer's Insert; the answers that the document fixes. -/
set_option linter.unusedSimpArgs false
set_option linter.unusedVariables false
namespace Go.Proofs.Ytgmpclifphbjkaa
open Go.RowKit
section
variable {w0 w : World} {F : HP} {p : Nat} {L : List Int} {pt mk : Int} {v : Value} {l : List Int}
end
end Go.Proofs.Ytgmpclifphbjkaa
end
section
/- Same: whether two texts are the same. -/
set_option linter.unusedSimpArgs false
set_option linter.unusedVariables false
namespace Go.Proofs.Ytgmpclifphbjkaa
open Go.RowKit
end Go.Proofs.Ytgmpclifphbjkaa
end
section
/- Reverse, SameEdit, Apply where it changes the line. -/
set_option linter.unusedSimpArgs false
set_option linter.unusedVariables false
namespace Go.Proofs.Ytgmpclifphbjkaa
open Go.RowKit
section
variable {w0 w : World} {F : HP} {p : Nat} {L : List Int} {pt mk a : Int} {d i : Value} {dl il : List Int}
theorem equal_eq_ret (w : World) (v1 v2 : Value) (l : List Int) (h1 : RdI w .i32 v1 l) (h2 : RdI w .i32 v2 l) :
    Ret Try.prog 13 #[v1, v2] w fun v w' => v = .bool true ∧ Drew w w' := by
  have := equal_ret w v1 v2 l l h1 h2
  simpa using this
theorem apply_ok {k : Nat} (H : Holds w0 w (BufRep p L pt mk • F)) (hd : FRdI w0 F .i32 d dl) (hi : FRdI w0 F .i32 i il) (hk : k + dl.length ≤ L.length) (hdl : (L.drop k).take dl.length = dl) (hl : (L.length : Int) - dl.length + il.length ≤ 1024) :
    Ret Try.prog 35 #[.pointer (some ⟨p, 0, none⟩), .agg (edCells k d i)] w fun v w' => v = .int .i64 0 ∧
      Holds w0 w' (BufRep p (L.take k ++ il ++ L.drop (k + dl.length)) (movedP pt k (k + dl.length : Nat) il.length) (movedM mk k (k + dl.length : Nat) il.length) • F) := by
  have hL4 : L.length ≤ 1024 := by obtain ⟨a, c, xs, f, t, h1, h2, h3, h4, h5, h6, h7, hc1, hc2, hl, H1⟩ := H.buf; exact h4
  obtain ⟨ad, cd, hdv, hcd1, hcd2, _⟩ := (hd w H.right).open
  subst hdv
  refine ret_enter Try.func35 rfl Try.ntmps35 (Nat.le_of_ble_eq_true rfl) ?_
  dsimp only [slots0, Nat.reduceAdd]
  refine wc_seq ?_
  refine wc_region ?_
  refine wl_eff (e_box H rfl) (ltn rfl) ?_
  rintro _ w1 ⟨b1, rfl, H1⟩
  refine wl_val (r_assign rfl) (ltn rfl) ?_
  refine wl_nil ?_
  refine wq_seq ?_
  refine wc_seq ?_
  refine wc_block ?_
  refine wc_seq ?_
  have HB : Holds w0 w1 (blk b1 (.cells (edCells k (.slice ad dl.length cd) i) 82 (0, 0)) • BufRep p L pt mk • F) := H1
  refine wc_region ?_
  refine wl_val (r_move rfl) (ltn rfl) ?_
  refine wl_eff (e_call (r_call rfl Try.func58 rfl rfl) (buf_none_rep HB.swap)) (ltn rfl) ?_
  rintro _ _ ⟨rfl, rfl⟩
  refine wl_val (r_assign rfl) (ltn rfl) ?_
  refine wl_nil ?_
  refine wq_seq ?_
  refine wc_cond rfl (fun h1 => ?_) (fun h1 => ?_)
  · (try simp only [cmpS] at h1)
    try (exfalso; first | contradiction | omega)
    all_goals
      
      refine wc_seq ?_
      refine wc_region ?_
      refine wl_val (r_assign rfl) (ltn rfl) ?_
      refine wl_nil ?_
      refine wq_seq ?_
      refine wc_ret ?_
      refine wq_block_ret ?_
      refine wq_then_ret ?_
      refine wq_end1 (.inl rfl) Try.results35 rfl ?_
      exact ⟨rfl, HB.right.right.right.swap.right⟩
  · (try simp only [cmpS] at h1)
    try (exfalso; first | contradiction | omega)
    all_goals
      
      refine wc_seq ?_
      refine wd_begin (n := 11) [0, 1, 2, 3, 4, 5, 6, 7, 8, 9, 10] (fun W => W.heap[b1]? = some (.cells (edCells k (.slice ad dl.length cd) i) 82 (0, 0))) (by kernel_rfl) (by kernel_rfl) rfl ?_
      have hS0 : (fun W => W.heap[b1]? = some (.cells (edCells k (.slice ad dl.length cd) i) 82 (0, 0))) (w1.drew) := HB.get.2
      have H3d := HB.drew
      refine wd_takeT 0 rfl (by kernel_rfl) (by kernel_rfl) hS0 (fun _ => r_fieldA 0 Try.underlying82 rfl rfl Try.sizeOf3 (by decide) rfl (by first | exact Nat.zero_add _ | rfl)) (ltn rfl) ?_
      refine wd_take 1 rfl (by kernel_rfl) (by kernel_rfl) hS0 (by decide) (fun W hW => r_load (plain_of Try.underlying3 rfl) rfl (cell_of_blk hW rfl)) (ltn rfl) ?_
      refine wd_takeT 2 rfl (by kernel_rfl) (by kernel_rfl) hS0 (fun _ => r_lss rfl rfl) (ltn rfl) ?_
      refine wd_split 3 rfl rfl (by kernel_rfl) (by kernel_rfl) hS0 (ltn rfl) (fun h => by exfalso; (try simp only [cmpS] at h); first | contradiction | omega | (simp at h <;> omega)) (fun h2 => ?_)
      (try simp only [cmpS] at h2)
      refine wd_takeT_yes 4 rfl rfl rfl (by kernel_rfl) (by kernel_rfl) hS0 (fun _ => r_fieldA 0 Try.underlying82 rfl rfl Try.sizeOf3 (by decide) rfl (by first | exact Nat.zero_add _ | rfl)) (ltn rfl) ?_
      refine wd_take_yes 5 rfl rfl rfl (by kernel_rfl) (by kernel_rfl) hS0 (by decide) (fun W hW => r_load (plain_of Try.underlying3 rfl) rfl (cell_of_blk hW rfl)) (ltn rfl) ?_
      refine wd_takeT_yes 6 rfl rfl rfl (by kernel_rfl) (by kernel_rfl) hS0 (fun _ => r_move rfl) (ltn rfl) ?_
      refine wd_eff_yes 7 rfl rfl rfl (by kernel_rfl) (e_call (r_call rfl Try.func29 rfl rfl) (buf_len_ret H3d.swap)) (ltn rfl) ?_
      rintro _ w3 ⟨rfl, hD1⟩
      have HE1 := H3d.drewn hD1
      have hS3 : (fun W => W.heap[b1]? = some (.cells (edCells k (.slice ad dl.length cd) i) 82 (0, 0))) w3 := HE1.get.2
      refine keepS hS3 ?_
      refine wd_takeT_yes 8 rfl rfl rfl (by kernel_rfl) (by kernel_rfl) hS3 (fun _ => r_gtr rfl rfl) (ltn rfl) ?_
      refine wd_takeT 9 rfl (by kernel_rfl) (by kernel_rfl) hS3 (fun _ => r_pick_f rfl rfl) (ltn rfl) ?_
      refine wd_takeT 10 rfl (by kernel_rfl) (by kernel_rfl) hS3 (fun _ => r_assign rfl) (ltn rfl) ?_
      refine wd_done (by kernel_rfl) ?_
      refine wq_seq ?_
      refine wc_cond rfl (fun h => by exfalso; (try simp only [cmpS] at h); first | contradiction | omega | (simp at h <;> omega)) (fun h3 => ?_)
      (try simp only [cmpS] at h3)
      refine wc_seq ?_
      refine wd_begin (n := 27) [0, 1, 2, 3, 4, 5, 6, 7, 8, 9, 10, 11, 12, 13, 14, 15, 16, 17, 18, 19, 20, 21, 22, 23, 24, 25, 26] (fun W => W.heap[b1]? = some (.cells (edCells k (.slice ad dl.length cd) i) 82 (0, 0))) (by kernel_rfl) (by kernel_rfl) rfl ?_
      have hS0 : (fun W => W.heap[b1]? = some (.cells (edCells k (.slice ad dl.length cd) i) 82 (0, 0))) (w3.drew) := HE1.get.2
      have H5d := HE1.drew
      refine wd_takeT 0 rfl (by kernel_rfl) (by kernel_rfl) hS0 (fun _ => r_fieldA 1 Try.underlying82 rfl rfl Try.sizeOf22 (by decide) rfl (by first | exact Nat.zero_add _ | rfl)) (ltn rfl) ?_
      refine wd_take 1 rfl (by kernel_rfl) (by kernel_rfl) hS0 (by decide) (fun W hW => r_load (plain_of Try.underlying22 rfl) rfl (cell_of_blk hW rfl)) (ltn rfl) ?_
      refine wd_takeT 2 rfl (by kernel_rfl) (by kernel_rfl) hS0 (fun _ => r_len Try.underlying22 rfl) (ltn rfl) ?_
      refine wd_takeT 3 rfl (by kernel_rfl) (by kernel_rfl) hS0 (fun _ => r_move rfl) (ltn rfl) ?_
      refine wd_takeT 5 rfl (by kernel_rfl) (by kernel_rfl) hS0 (fun _ => r_fieldA 0 Try.underlying82 rfl rfl Try.sizeOf3 (by decide) rfl (by first | exact Nat.zero_add _ | rfl)) (ltn rfl) ?_
      refine wd_take 6 rfl (by kernel_rfl) (by kernel_rfl) hS0 (by decide) (fun W hW => r_load (plain_of Try.underlying3 rfl) rfl (cell_of_blk hW rfl)) (ltn rfl) ?_
      refine wd_eff 4 rfl (by kernel_rfl) (e_call (r_call rfl Try.func29 rfl rfl) (buf_len_ret H5d.swap)) (ltn rfl) ?_
      rintro _ w4 ⟨rfl, hD2⟩
      have HE2 := H5d.drewn hD2
      have hS4 : (fun W => W.heap[b1]? = some (.cells (edCells k (.slice ad dl.length cd) i) 82 (0, 0))) w4 := HE2.get.2
      refine keepS hS4 ?_
      refine wd_takeT 7 rfl (by kernel_rfl) (by kernel_rfl) hS4 (fun _ => r_sub rfl rfl (by omega)) (ltn rfl) ?_
      refine wd_takeT 8 rfl (by kernel_rfl) (by kernel_rfl) hS4 (fun _ => r_gtr rfl rfl) (ltn rfl) ?_
      refine wd_split 9 rfl rfl (by kernel_rfl) (by kernel_rfl) hS4 (ltn rfl) (fun h => by exfalso; (try simp only [cmpS] at h); first | contradiction | omega | (simp at h <;> omega)) (fun h4 => ?_)
      (try simp only [cmpS] at h4)
      refine wd_takeT_yes 10 rfl rfl rfl (by kernel_rfl) (by kernel_rfl) hS4 (fun _ => r_move rfl) (ltn rfl) ?_
      refine wd_takeT_yes 12 rfl rfl rfl (by kernel_rfl) (by kernel_rfl) hS4 (fun _ => r_fieldA 0 Try.underlying82 rfl rfl Try.sizeOf3 (by decide) rfl (by first | exact Nat.zero_add _ | rfl)) (ltn rfl) ?_
      refine wd_take_yes 13 rfl rfl rfl (by kernel_rfl) (by kernel_rfl) hS4 (by decide) (fun W hW => r_load (plain_of Try.underlying3 rfl) rfl (cell_of_blk hW rfl)) (ltn rfl) ?_
      refine wd_takeT_yes 14 rfl rfl rfl (by kernel_rfl) (by kernel_rfl) hS4 (fun _ => r_fieldA 0 Try.underlying82 rfl rfl Try.sizeOf3 (by decide) rfl (by first | exact Nat.zero_add _ | rfl)) (ltn rfl) ?_
      refine wd_take_yes 15 rfl rfl rfl (by kernel_rfl) (by kernel_rfl) hS4 (by decide) (fun W hW => r_load (plain_of Try.underlying3 rfl) rfl (cell_of_blk hW rfl)) (ltn rfl) ?_
      refine wd_takeT_yes 16 rfl rfl rfl (by kernel_rfl) (by kernel_rfl) hS4 (fun _ => r_fieldA 1 Try.underlying82 rfl rfl Try.sizeOf22 (by decide) rfl (by first | exact Nat.zero_add _ | rfl)) (ltn rfl) ?_
      refine wd_take_yes 17 rfl rfl rfl (by kernel_rfl) (by kernel_rfl) hS4 (by decide) (fun W hW => r_load (plain_of Try.underlying22 rfl) rfl (cell_of_blk hW rfl)) (ltn rfl) ?_
      refine wd_takeT_yes 18 rfl rfl rfl (by kernel_rfl) (by kernel_rfl) hS4 (fun _ => r_len Try.underlying22 rfl) (ltn rfl) ?_
      refine wd_takeT_yes 19 rfl rfl rfl (by kernel_rfl) (by kernel_rfl) hS4 (fun _ => r_add rfl rfl (by omega)) (ltn rfl) ?_
      refine wd_takeT_yes 21 rfl rfl rfl (by kernel_rfl) (by kernel_rfl) hS4 (fun _ => r_fieldA 1 Try.underlying82 rfl rfl Try.sizeOf22 (by decide) rfl (by first | exact Nat.zero_add _ | rfl)) (ltn rfl) ?_
      refine wd_take_yes 22 rfl rfl rfl (by kernel_rfl) (by kernel_rfl) hS4 (by decide) (fun W hW => r_load (plain_of Try.underlying22 rfl) rfl (cell_of_blk hW rfl)) (ltn rfl) ?_
      refine wd_eff_yes 11 rfl rfl rfl (by kernel_rfl) (e_call (r_call rfl Try.func62 rfl rfl) (buf_text_ret HE2.swap)) (ltn rfl) ?_
      rintro u w5 H5
      obtain ⟨au, cu, hu, hcu1, hcu2, _⟩ := (H5.row_rd).form
      subst hu
      have hS5 : (fun W => W.heap[b1]? = some (.cells (edCells k (.slice ad dl.length cd) i) 82 (0, 0))) w5 := H5.rot.get.2
      refine keepS hS5 ?_
      refine wd_takeT_yes 20 rfl rfl rfl (by kernel_rfl) (by kernel_rfl) hS5 (fun _ => r_slice Try.underlying22 Try.sizeOf21 rfl rfl rfl (by omega)) (ltn rfl) ?_
      refine wd_eff_yes 23 rfl rfl rfl (by kernel_rfl) (e_call (r_call rfl Try.func13 rfl rfl) (equal_eq_ret _ _ _ dl (by have q := RdI.cut H5.row_rd (i := k) (j := k + dl.length) (by omega) hk; rw [Nat.add_sub_cancel_left, hdl] at q; exact q) (hd _ H5.right.right.right))) (ltn rfl) ?_
      rintro _ w6 ⟨rfl, hD3⟩
      have HE3 := (H5.drewn hD3).right
      have hS6 : (fun W => W.heap[b1]? = some (.cells (edCells k (.slice ad dl.length cd) i) 82 (0, 0))) w6 := HE3.swap.get.2
      refine keepS hS6 ?_
      refine wd_takeT_yes 24 rfl rfl rfl (by kernel_rfl) (by kernel_rfl) hS6 (fun _ => r_not rfl) (ltn rfl) ?_
      refine wd_takeT 25 rfl (by kernel_rfl) (by kernel_rfl) hS6 (fun _ => r_pick_f rfl rfl) (ltn rfl) ?_
      refine wd_takeT 26 rfl (by kernel_rfl) (by kernel_rfl) hS6 (fun _ => r_assign rfl) (ltn rfl) ?_
      refine wd_done (by kernel_rfl) ?_
      refine wq_seq ?_
      refine wc_cond rfl (fun h => by exfalso; (try simp only [cmpS] at h); first | contradiction | omega | (simp at h <;> omega)) (fun h5 => ?_)
      (try simp only [cmpS] at h5)
      refine wc_skip ?_
      refine wq_block_normal ?_
      refine wq_seq ?_
      refine wc_seq ?_
      refine wc_region ?_
      refine wl_val (r_move rfl) (ltn rfl) ?_
      refine wl_val (r_fieldA 0 Try.underlying82 rfl rfl Try.sizeOf3 (by decide) rfl (by first | exact Nat.zero_add _ | rfl)) (ltn rfl) ?_
      refine wl_val (r_load (plain_of Try.underlying3 rfl) rfl (cell_of_blk HE3.swap.get.2 rfl)) (ltn rfl) ?_
      refine wl_val (r_fieldA 0 Try.underlying82 rfl rfl Try.sizeOf3 (by decide) rfl (by first | exact Nat.zero_add _ | rfl)) (ltn rfl) ?_
      refine wl_val (r_load (plain_of Try.underlying3 rfl) rfl (cell_of_blk HE3.swap.get.2 rfl)) (ltn rfl) ?_
      refine wl_val (r_fieldA 1 Try.underlying82 rfl rfl Try.sizeOf22 (by decide) rfl (by first | exact Nat.zero_add _ | rfl)) (ltn rfl) ?_
      refine wl_val (r_load (plain_of Try.underlying22 rfl) rfl (cell_of_blk HE3.swap.get.2 rfl)) (ltn rfl) ?_
      refine wl_val (r_len Try.underlying22 rfl) (ltn rfl) ?_
      refine wl_val (r_add rfl rfl (by omega)) (ltn rfl) ?_
      refine wl_val (r_fieldA 2 Try.underlying82 rfl rfl Try.sizeOf22 (by decide) rfl (by first | exact Nat.zero_add _ | rfl)) (ltn rfl) ?_
      refine wl_val (r_load (plain_of Try.underlying22 rfl) rfl (cell_of_blk HE3.swap.get.2 rfl)) (ltn rfl) ?_
      refine wl_eff (e_call (r_call rfl Try.func59 rfl rfl) (buf_replace_ok (i := k) (j := k + dl.length) HE3 hi.under ⟨by omega, hk⟩ (by omega))) (ltn rfl) ?_
      rintro _ w7 ⟨d2, s2, rfl, H7⟩
      refine wl_val (r_move rfl) (ltn rfl) ?_
      refine wl_val (r_extract rfl rfl) (ltn rfl) ?_
      refine wl_val (r_extract rfl rfl) (ltn rfl) ?_
      refine wl_eff (e_alloc H7 Try.zeroValue82) (ltn rfl) ?_
      rintro _ w8 ⟨b8, rfl, H8⟩
      refine wl_eff0 (e_store_whole (cs := edCells k d2 s2) H8 Try.sizeOf82 rfl rfl rfl rfl (ed_ones H8.swap.row_rd.one H8.rot.row_rd.one)) ?_
      rintro _ w9 H9
      refine wl_val (r_assign rfl) (ltn rfl) ?_
      refine wl_nil ?_
      refine wq_seq ?_
      refine wc_seq ?_
      refine wc_region ?_
      refine wl_val (r_move rfl) (ltn rfl) ?_
      refine wl_val (r_assign rfl) (ltn rfl) ?_
      refine wl_nil ?_
      refine wq_seq ?_
      refine wc_ret ?_
      refine wq_end1 (.inl rfl) Try.results35 rfl ?_
      exact ⟨rfl, H9.right.right.right.swap.right⟩
end
end Go.Proofs.Ytgmpclifphbjkaa
end
