/- Scopes; strings: an index, a cut, a range; an entry of the runtime. -/
import Derived.Test.YtgoopiakpbcgoaaMore
import Derived.Scope
import Derived.Laws.RangeString
import Derived.Lib.OthersKept
import Derived.Lib.Bytealg
set_option linter.unusedSimpArgs false
set_option linter.unusedVariables false
namespace Go.Proofs.Ytgoopiakpbcgoaa
open Go.RowKit Go.Lib
section
variable {P : Program} {N : Sh} {Q : Exit → Act → World → Prop} {L : List (Nat × Value)} {w : World}
theorem NP.noGoto (h : NP Q) : NP (Exit.noGoto Q) := fun c a w => h c a w
theorem wc_scope {c : Code} (h : WC P N c (Exit.noGoto Q) L w) (hr : N.ro = none := by rfl) : WC P N (.scope c) Q L w := fun np a ha => by
  have h1 := h np.noGoto a ha
  rw [hr] at h1 ⊢
  exact wpIn_wide.2 (wp_scope_straight (wpIn_wide.1 h1))
theorem wc_label {l : Nat} (h : WQ N Q .normal L w) : WC P N (.label l) Q L w := fun np a ha => wpIn_label (h np a ha)
theorem wq_scope_normal (h : WQ N Q .normal L w) : WQ N (Exit.noGoto Q) .normal L w := fun np a ha => h (fun c a w => np c a w) a ha
theorem wq_scope_ret (h : WQ N Q .ret L w) : WQ N (Exit.noGoto Q) .ret L w := fun np a ha => h (fun c a w => np c a w) a ha
theorem wq_scope_exit {id : Nat} (h : WQ N Q (.exit id) L w) : WQ N (Exit.noGoto Q) (.exit id) L w := fun np a ha => h (fun c a w => np c a w) a ha
end
/-- A string's byte. -/
def sb (s : ByteArray) (i : Nat) : Int := ((s.data.toList.getD i 0).toNat : Nat)
theorem sb_get {s : ByteArray} {i : Nat} (h : i < s.size) : ((s[i]'h).toNat : Int) = sb s i := by
  unfold sb
  rw [List.getD_eq_getElem?_getD, List.getElem?_eq_getElem (by rw [Array.length_toList]; exact h)]
  rfl
section
variable {P : Program} {L : List (Nat × Value)} {w w0 : World} {ty : TypeId} {x y : Operand} {F : HP}
theorem r_index_str {t : TypeId} {s : ByteArray} {k : IntKind} {i : Int} (ht : P.underlying t = some .string) (hx : ev L x = some (.string s)) (hy : ev L y = some (.int k i)) (h : 0 ≤ i ∧ i < s.size) :
    Val P L (.index t x y) ty w (.int .u8 (sb s i.toNat)) w := fun ρ hρ _ _ _ _ => by
  simp only [execOp, hρ _ _ hx, hρ _ _ hy, Sem.run_bind]
  rw [run_index_string (w := w) t s k i ht, dif_pos h, sb_get]
  rfl
theorem r_slice_from {t : TypeId} {s : ByteArray} {k : IntKind} {i : Int} (ht : P.underlying t = some .string) (hx : ev L x = some (.string s)) (hy : ev L y = some (.int k i)) (h : 0 ≤ i ∧ i ≤ (s.size : Int)) :
    Val P L (.slice t x (some y) none none) ty w (.string (s.extract i.toNat s.size)) w := fun ρ hρ _ _ _ _ => by
  simp only [execOp, hρ _ _ hx, hρ _ _ hy, Sem.run_bind, Option.map_some, Option.map_none]
  rw [run_sliceAt_string (P := P) (w := w) t _ _ _ _ ht, run_slice_string_from_if w t s k i ht, if_pos h]
  rfl
/-- An entry of the runtime that the program calls. -/
theorem r_ext {f : FuncId} {args : List Operand} {ts : Array TypeId} {vs : List Value} {fn : Func} {e : Array Value → Sem Value} {v : Value} (ha : evl L args = some vs)
    (hf : P.funcs[f]? = some fn) (hname : (fn.name == "runtime.NumGoroutine") = false) (hb : fn.body.isNone = true) (hn : Extern.findNext fn = none) (he : Extern.find fn = some e) (hr : (e vs.toArray).run P w = .ok v w) :
    Val P L (.call ⟨.value (.func f), args.toArray, ts⟩) ty w v w := fun ρ hρ _ _ _ _ => by
  have hg : ρ (.func f) = .func (.func f) #[] #[] := hρ _ _ rfl
  have hc := run_callFunc_extern hf hname hb hn he vs.toArray w
  rw [hr] at hc
  simp [execOp, resolve, invoke, evs hρ _ _ ha, hg, Deferred.ofValue]
  exact hc
theorem r_int_str {src dst : TypeId} {k : IntKind} {n : Int} (hs : P.underlying src = some (.int k)) (hd : P.underlying dst = some .string) (hx : ev L x = some (.int k n)) : Val P L (.convert src dst x) ty w (.string (Utf8.encode n)) w := fun ρ hρ _ _ _ _ => by
  simp only [execOp, hρ _ _ hx]
  simp [convert, run_underlying hs, run_underlying hd, Conv.intToString]
theorem r_as {op : Op} {v v' : Value} (h : Val P L op ty w v w) (e : v = v') : Val P L op ty w v' w := e ▸ h
/-- What 'next' yields over a string of bytes below 128. -/
def nextV (s : ByteArray) (k : Nat) : Value := if k < s.size then .tuple #[.bool true, .int .i64 k, .int .i32 (sb s k)] else .tuple #[.bool false]
theorem e_range_str {t : TypeId} {s : ByteArray} (H : Holds w0 w F) (ht : P.underlying t = some .string) (hx : ev L x = some (.string s)) : Eff P L (.range t x) ty w fun v w' => ∃ b, v = .pointer (some ⟨b, 0, none⟩) ∧ Holds w0 w' (blk b (.stringIter s 0) • F) := by
  refine e_val (v := .pointer (some ⟨w.heap.size, 0, none⟩)) (w' := w.alloc (.stringIter s 0)) ?_ ⟨_, rfl, H.alloc _⟩
  intro ρ hρ d pos aft g
  simp only [execOp, hρ _ _ hx]
  simp [Sem.run_bind, run_range_string (P := P) w t s ht, World.iter]
theorem e_next_str {s : ByteArray} {k b : Nat} (H : Holds w0 w (blk b (.stringIter s k) • F)) (hs : ∀ c ∈ s.data.toList, c.toNat < 128) (hx : ev L x = some (.pointer (some ⟨b, 0, none⟩))) :
    Eff P L (.next x true) ty w fun v w' => v = nextV s k ∧ Holds w0 w' (blk b (.stringIter s (if k < s.size then k + 1 else k)) • F) := by
  have hb := H.get.2
  by_cases h : k < s.size
  · have hlt : (s[k]'h).toNat < 128 := hs _ (Array.getElem_mem_toList (xs := s.data) h)
    refine e_val (v := nextV s k) (w' := w.iterAt b s (k + 1)) ?_ ⟨rfl, ?_⟩
    · intro ρ hρ d pos aft g
      simp only [execOp, hρ _ _ hx]
      rw [Sem.run_bind, run_next_ascii_at (P := P) w b s k ty hb h hlt]
      simp only [Result.andThen, nextV, if_pos h]
      rw [sb_get h]
      rfl
    · rw [if_pos h]
      exact H.turn rfl rfl rfl (by simp [World.iterAt]) (iterAt_heap w b s k (k + 1) hb) fun j hj _ => iterAt_other w b j s (k + 1) hj
  · refine e_val (v := nextV s k) (w' := w) ?_ ⟨rfl, by rw [if_neg h]; exact H⟩
    intro ρ hρ d pos aft g
    simp only [execOp, hρ _ _ hx]
    rw [Sem.run_bind, run_next_end_at (P := P) w b s k ty hb h]
    simp only [Result.andThen, nextV, if_neg h]
    rfl
theorem r_next0 {s : ByteArray} {k : Nat} (hx : ev L x = some (nextV s k)) : Val P L (.extract x 0) ty w (.bool (decide (k < s.size))) w := by
  unfold nextV at hx
  by_cases h : k < s.size
  · rw [if_pos h] at hx; rw [decide_eq_true h]; exact r_extract hx rfl
  · rw [if_neg h] at hx; rw [decide_eq_false h]; exact r_extract hx rfl
theorem r_next1 {s : ByteArray} {k : Nat} (h : k < s.size) (hx : ev L x = some (nextV s k)) : Val P L (.extract x 1) ty w (.int .i64 k) w := by
  unfold nextV at hx; rw [if_pos h] at hx; exact r_extract hx rfl
theorem r_next2 {s : ByteArray} {k : Nat} (h : k < s.size) (hx : ev L x = some (nextV s k)) : Val P L (.extract x 2) ty w (.int .i32 (sb s k)) w := by
  unfold nextV at hx; rw [if_pos h] at hx; exact r_extract hx rfl
end
theorem sb_lt {s : ByteArray} (hs : ∀ c ∈ s.data.toList, c.toNat < 128) (i : Nat) : 0 ≤ sb s i ∧ sb s i < 128 := by
  unfold sb
  rw [List.getD_eq_getElem?_getD]
  by_cases h : i < s.data.toList.length
  · rw [List.getElem?_eq_getElem h]
    have := hs _ (List.getElem_mem h)
    show 0 ≤ ((s.data.toList[i].toNat : Nat) : Int) ∧ ((s.data.toList[i].toNat : Nat) : Int) < 128
    omega
  · rw [List.getElem?_eq_none (by omega)]; decide
theorem enc_last {r : Int} (hv : Utf8.valid r = true) (h : 128 ≤ r) : 2 ≤ (Utf8.encode r).size ∧ (Utf8.encode r).size ≤ 4 ∧ 128 ≤ sb (Utf8.encode r) (((Utf8.encode r).size : Int) - 1).toNat ∧ sb (Utf8.encode r) (((Utf8.encode r).size : Int) - 1).toNat < 256 := by
  obtain ⟨h1, h2, h3⟩ := encode_facts r hv h
  have h4 := h3 (by omega)
  refine ⟨h1, h2, ?_⟩
  rw [show (((Utf8.encode r).size : Int) - 1).toNat = (Utf8.encode r).size - 1 by omega, ← sb_get (by omega)]
  have h5 := (Utf8.encode r)[(Utf8.encode r).size - 1].toNat_lt
  omega
/-- A byte of 128 or more stands in no text of bytes below. -/
theorem idx_none {s : ByteArray} {c : Int} (hs : ∀ x ∈ s.data.toList, x.toNat < 128) (hc : 128 ≤ c ∧ c < 256) (a e : Nat) : indexByte (s.extract a e).data.toList c.toNat.toUInt8 = -1 := by
  rw [← firstIdx_eq]
  refine firstIdx_ascii s a e _ hs ?_
  show 128 ≤ (UInt8.ofNat c.toNat).toNat
  simp; omega
end Go.Proofs.Ytgoopiakpbcgoaa
