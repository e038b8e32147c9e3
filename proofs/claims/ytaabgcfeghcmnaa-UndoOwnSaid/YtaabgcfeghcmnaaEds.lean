/- Lists of edits, and lists of such lists, whose texts are never written any more. -/
import Derived.Test.YtaabgcfeghcmnaaUndo2
set_option linter.unusedSimpArgs false
set_option linter.unusedVariables false
namespace Go.Proofs.Ytaabgcfeghcmnaa
open Go.RowKit
/-- An edit as it stands in memory. -/
structure BEd where
  a : Int
  d : Value
  dl : List Int
  i : Value
  il : List Int
instance : Inhabited BEd := ⟨⟨0, .slice none 0 0, [], .slice none 0 0, []⟩⟩
def BEd.enc (e : BEd) : List Value := [.int .i64 e.a, e.d, e.i]
theorem BEd.enc_len (e : BEd) : e.enc.length = 3 := rfl
def BEd.Imm (I : Hp) (e : BEd) : Prop := ImmI I .i32 e.d e.dl ∧ ImmI I .i32 e.i e.il
theorem BEd.Imm.mono {I I' : Hp} {e : BEd} (hl : Hp.le I I') (h : e.Imm I) : e.Imm I' := ⟨h.1.mono hl, h.2.mono hl⟩
/-- What it says. -/
def BEd.says (e : BEd) : Int × List Int × List Int := (e.a, e.dl, e.il)
def EdsI (I : Hp) (es : List BEd) : Prop := ∀ k, k < es.length → (es.getD k default).Imm I
theorem EdsI.mono {I I' : Hp} {es : List BEd} (hl : Hp.le I I') (h : EdsI I es) : EdsI I' es := fun k hk => (h k hk).mono hl
theorem EdsI.app {I : Hp} {es fs : List BEd} (h : EdsI I es) (g : EdsI I fs) : EdsI I (es ++ fs) := fun k hk => by
  by_cases hl : k < es.length
  · rw [getD_app_left hl]; exact h k hl
  · rw [getD_app_right (by omega)]; exact g _ (by simp at hk; omega)
theorem EdsI.one {I : Hp} {e : BEd} (h : e.Imm I) : EdsI I [e] := fun k hk => by
  obtain rfl : k = 0 := by simp at hk; omega
  exact h
def edsK (es : List BEd) : HP := know (fun I => EdsI I es) fun _ _ hl h => h.mono hl
def edK (e : BEd) : HP := know (fun I => e.Imm I) fun _ _ hl h => h.mono hl
/-- A slice of one's own of edits. -/
def EdL (v : Value) (es : List BEd) : HP := Row 24 3 v es.length (es.flatMap BEd.enc) • edsK es
/-- A slice that is never written any more. -/
def ImmR (I : Hp) (sz : Nat) (v : Value) (n : Nat) (xs : List Value) : Prop := xs.length = n * sz ∧ ∃ a c, v = .slice a n c ∧ n ≤ c ∧ (c : Int) ≤ 9223372036854775807 ∧
  (0 < n → ∃ b o cs e fr, a = some ⟨b, o, none⟩ ∧ I b = some (.cells cs e fr) ∧ ∀ j, j < n * sz → cs[o + j]? = some (xs.getD j undef))
theorem ImmR.mono {I I' : Hp} {sz n : Nat} {v : Value} {xs : List Value} (hl : Hp.le I I') (h : ImmR I sz v n xs) : ImmR I' sz v n xs := by
  obtain ⟨h0, a, c, h1, h2, h3, h4⟩ := h
  exact ⟨h0, a, c, h1, h2, h3, fun hp => let ⟨b, o, cs, e, fr, e1, e2, e3⟩ := h4 hp; ⟨b, o, cs, e, fr, e1, hl _ _ e2, e3⟩⟩
theorem ImmR.rd {w : World} {m : Nat} {I : Hp} {sz n : Nat} {v : Value} {xs : List Value} (h : ImmR I sz v n xs) (hI : ∀ k o, I k = some o → m ≤ k ∧ w.heap[k]? = some o) : Rd w sz v n xs := by
  obtain ⟨h0, a, c, h1, h2, h3, h4⟩ := h
  exact ⟨h0, a, c, h1, h2, h3, fun hp => let ⟨b, o, cs, e, fr, e1, e2, e3⟩ := h4 hp; ⟨b, o, e1, fun j hj => cell_of_blk (hI _ _ e2).2 (e3 j hj)⟩⟩
theorem ImmR.cell1 {I : Hp} {sz n : Nat} {v : Value} {xs : List Value} (h : ImmR I sz v n xs) : v.oneCell' = true := by obtain ⟨_, a, c, rfl, _⟩ := h; rfl
def ElI (I : Hp) (v : Value) (es : List BEd) : Prop := ImmR I 3 v es.length (es.flatMap BEd.enc) ∧ EdsI I es
theorem ElI.mono {I I' : Hp} {v : Value} {es : List BEd} (hl : Hp.le I I') (h : ElI I v es) : ElI I' v es := ⟨h.1.mono hl, h.2.mono hl⟩
def elK (v : Value) (es : List BEd) : HP := know (fun I => ElI I v es) fun _ _ hl h => h.mono hl
def ElsI (I : Hp) (gs : List (Value × List BEd)) : Prop := ∀ k, k < gs.length → ElI I (gs.getD k default).1 (gs.getD k default).2
theorem ElsI.mono {I I' : Hp} {gs : List (Value × List BEd)} (hl : Hp.le I I') (h : ElsI I gs) : ElsI I' gs := fun k hk => (h k hk).mono hl
theorem ElsI.app {I : Hp} {es fs : List (Value × List BEd)} (h : ElsI I es) (g : ElsI I fs) : ElsI I (es ++ fs) := fun k hk => by
  by_cases hl : k < es.length
  · rw [getD_app_left hl]; exact h k hl
  · rw [getD_app_right (by omega)]; exact g _ (by simp at hk; omega)
theorem ElsI.one {I : Hp} {v : Value} {es : List BEd} (h : ElI I v es) : ElsI I [(v, es)] := fun k hk => by
  obtain rfl : k = 0 := by simp at hk; omega
  exact h
theorem ElsI.take {I : Hp} {gs : List (Value × List BEd)} (h : ElsI I gs) (n : Nat) : ElsI I (gs.take n) := fun k hk => by
  simp at hk
  rw [getD_take (by omega)]
  exact h k (by omega)
def elsK (gs : List (Value × List BEd)) : HP := know (fun I => ElsI I gs) fun _ _ hl h => h.mono hl
/-- A slice of one's own of slices of edits that are never written any more. -/
def EdLL (v : Value) (gs : List (Value × List BEd)) : HP := Row 39 1 v gs.length (gs.map (·.1)) • elsK gs
section
variable {w0 w : World} {F : HP} {v u : Value} {es fs : List BEd} {e : BEd} {gs : List (Value × List BEd)} {a : Int} {d i : Value} {dl il : List Int}
theorem Holds.edsK_nil (H : Holds w0 w F) : Holds w0 w (edsK [] • F) := H.mk_know fun I k hk => by simp at hk
theorem Holds.elsK_nil (H : Holds w0 w F) : Holds w0 w (elsK [] • F) := H.mk_know fun I k hk => by simp at hk
theorem Holds.edL_nil (H : Holds w0 w F) (a : Option Addr) : Holds w0 w (EdL (.slice a 0 0) [] • F) := (H.edsK_nil.row_nil (e := 24) (sz := 3) a).deep
theorem Holds.edLL_nil (H : Holds w0 w F) (a : Option Addr) : Holds w0 w (EdLL (.slice a 0 0) [] • F) := (H.elsK_nil.row_nil (e := 39) (sz := 1) a).deep
theorem Holds.edL (H : Holds w0 w (EdL v es • F)) : Holds w0 w (Row 24 3 v es.length (es.flatMap BEd.enc) • edsK es • F) := H.flat
theorem Holds.edLL (H : Holds w0 w (EdLL v gs • F)) : Holds w0 w (Row 39 1 v gs.length (gs.map (·.1)) • elsK gs • F) := H.flat
/-- One more. -/
theorem Holds.edL_snoc (H : Holds w0 w (Row 24 3 v (es.length + 1) (es.flatMap BEd.enc ++ [.int .i64 a, d, i]) • immI .i32 d dl • immI .i32 i il • edsK es • F)) : Holds w0 w (EdL v (es ++ [⟨a, d, dl, i, il⟩]) • F) := by
  have h1 : Holds w0 w (immI .i32 d dl • immI .i32 i il • edsK es • Row 24 3 v (es.length + 1) (es.flatMap BEd.enc ++ [.int .i64 a, d, i]) • F) := H.of_eq (by ac_rfl)
  have h2 : Holds w0 w (edK ⟨a, d, dl, i, il⟩ • edsK es • Row 24 3 v (es.length + 1) (es.flatMap BEd.enc ++ [.int .i64 a, d, i]) • F) := h1.ent (know_two (fun I h g => ⟨h, g⟩) _)
  have h3 : Holds w0 w (edsK (es ++ [⟨a, d, dl, i, il⟩]) • Row 24 3 v (es.length + 1) (es.flatMap BEd.enc ++ [.int .i64 a, d, i]) • F) := h2.ent (know_two (fun I h g => g.app (EdsI.one h)) _)
  refine Holds.deep (h3.swap.of_eq ?_)
  rw [List.length_append, List.flatMap_append]
  simp [BEd.enc]
/-- A list's memory is never written any more. -/
theorem Holds.edL_freeze (H : Holds w0 w (EdL v es • F)) : Holds w0 w (elK v es • F) := by
  have hl := H.edL.row_len
  have H := H.edL
  rcases H.row_open with ⟨a, rfl, h1, h2, H1⟩ | ⟨g, o, c, cur, rfl, h2, h3, h4, h5, H1⟩
  · refine H1.ent (know_ent (fun I hI => ⟨⟨hl, a, 0, by rw [h1], by omega, by decide, fun h => by omega⟩, hI⟩) F)
  · exact H1.freeze.ent (know_two (fun I hI hE => ⟨⟨hl, _, c, rfl, h2, h3, fun _ => ⟨g, o, cur, _, (0, 0), rfl, hI, h5⟩⟩, hE⟩) F)
theorem Holds.elK_rd (H : Holds w0 w (elK v es • F)) : Rd w 3 v es.length (es.flatMap BEd.enc) := let ⟨I, h, hI⟩ := H.of_know; h.1.rd hI
theorem Holds.elK_d (H : Holds w0 w (elK v es • F)) {k : Nat} (hk : k < es.length) : RdI w .i32 (es.getD k default).d (es.getD k default).dl := let ⟨I, h, hI⟩ := H.of_know; (h.2 k hk).1.rd hI
theorem Holds.elK_i (H : Holds w0 w (elK v es • F)) {k : Nat} (hk : k < es.length) : RdI w .i32 (es.getD k default).i (es.getD k default).il := let ⟨I, h, hI⟩ := H.of_know; (h.2 k hk).2.rd hI
theorem Holds.elsK_get (H : Holds w0 w (elsK gs • F)) {k : Nat} (hk : k < gs.length) : Holds w0 w (elK (gs.getD k default).1 (gs.getD k default).2 • elsK gs • F) := H.dup_know.ent (know_ent (fun I h => h k hk) _)
theorem Holds.elsK_cut (H : Holds w0 w (elsK gs • F)) (n : Nat) : Holds w0 w (elsK (gs.take n) • F) := H.ent (know_ent (fun I h => h.take n) _)
theorem Holds.edLL_snoc (H : Holds w0 w (Row 39 1 v (gs.length + 1) (gs.map (·.1) ++ [u]) • elK u es • elsK gs • F)) : Holds w0 w (EdLL v (gs ++ [(u, es)]) • F) := by
  have h1 : Holds w0 w (elK u es • elsK gs • Row 39 1 v (gs.length + 1) (gs.map (·.1) ++ [u]) • F) := H.of_eq (by ac_rfl)
  have h3 : Holds w0 w (elsK (gs ++ [(u, es)]) • Row 39 1 v (gs.length + 1) (gs.map (·.1) ++ [u]) • F) := h1.ent (know_two (fun I h g => g.app (ElsI.one h)) _)
  refine Holds.deep (h3.swap.of_eq ?_)
  rw [List.length_append, List.map_append]
  rfl
theorem Holds.edL_ones (H : Holds w0 w (edsK es • F)) : ∀ x ∈ es.flatMap BEd.enc, x.oneCell' = true := by
  obtain ⟨I, h, hI⟩ := H.of_know
  intro x hx
  obtain ⟨e, he, hx⟩ := List.mem_flatMap.1 hx
  obtain ⟨k, hk, rfl⟩ := List.getElem_of_mem he
  have := h k hk
  rw [List.getD_eq_getElem?_getD, List.getElem?_eq_getElem hk] at this
  simp [BEd.enc] at hx
  rcases hx with rfl | rfl | rfl
  · rfl
  · exact this.1.cell1
  · exact this.2.cell1
end
section
variable {P : Program} {L : List (Nat × Value)} {w0 w : World} {F : HP} {ty : TypeId}
theorem fill_whole (l : List Value) : ∀ (i : Nat) (cells : Array Value), cells.size = i + l.length → (l.zipIdx i).foldl (fun cs (x : Value × Nat) => cs.setIfInBounds (0 + x.2) x.1) cells = (cells.toList.take i ++ l).toArray := by
  induction l with
  | nil => intro i cells hs; simp [List.take_of_length_le (show cells.toList.length ≤ i by simp; simp at hs; omega)]
  | cons v r ih =>
    intro i cells hs
    rw [List.zipIdx_cons, List.foldl_cons]
    rw [ih (i + 1) _ (by simp at hs ⊢; omega)]
    congr 1
    have hi : i < cells.toList.length := by simp at hs ⊢; omega
    rw [Array.toList_setIfInBounds, Nat.zero_add, List.take_succ_eq_append_getElem (by simpa using hi), List.take_set_of_le (Nat.le_refl _)]
    simp
/-- A slice literal of one struct. -/
theorem e_lit_one {t e sz : Nat} {x : Operand} {cs : Array Value} {z : Value} (H : Holds w0 w F) (ht : P.underlying t = some (.slice e)) (hs : ∀ w, (sizeOf e).run P w = .ok sz w) (hz : ∀ w, (zeroValue e).run P w = .ok z w) (hz1 : z.cells.size = sz)
    (hx : ev L x = some (.agg cs)) (hn : cs.size = sz) (h0 : 0 < sz) (hn24 : sz ≤ 16777216) :
    Eff P L (.buildSlice t 1 #[(0, x)]) ty w fun v w' => Holds w0 w' (Row e sz v 1 cs.toList • F) := by
  refine e_val (v := .slice (some ⟨w.heap.size, 0, none⟩) 1 1) (w' := w.alloc (.cells cs e)) ?_ ?_
  · intro ρ hρ d pos aft g
    simp only [execOp, Instr.buildSlice, Sem.run_bind, run_underlying ht, Result.andThen_ok, hs]
    rw [if_neg (by omega), if_neg (by omega)]
    have hf : ∀ q : Array Value, q.size = sz → Instr.fill (fun i => some (i * sz, sz)) q [(0, .agg cs)] = some cs := fun q hq => by
      simp only [Instr.fill, Value.cells, hn]
      rw [if_neg (by simp [hq])]
      have := fill_whole cs.toList 0 q (by simp [hn, hq])
      simp only [Nat.zero_mul]
      rw [← Array.foldl_toList, Array.toList_zipIdx]
      simpa using this
    have hf1 := hf ((Array.range sz).map (z.cells[· % z.cells.size]!)) (by simp)
    simp [hz, hρ _ _ hx, hf1, newRow]
  · refine (H.alloc _).row_mk (by simp [hn]) rfl (Nat.le_refl _) (by omega) (by simp [hn]) fun j hj => ?_
    rw [Nat.zero_add, List.getD_eq_getElem?_getD]
    have : j < cs.size := by omega
    simp [this]
end
end Go.Proofs.Ytaabgcfeghcmnaa
