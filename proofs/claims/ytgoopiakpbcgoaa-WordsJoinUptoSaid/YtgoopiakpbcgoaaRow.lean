/- Slices that one owns; append; literals; make; copy. -/
import Derived.Test.YtgoopiakpbcgoaaDraw
import Derived.Laws.CopyRow
set_option linter.unusedSimpArgs false
set_option linter.unusedVariables false
namespace Go.Proofs.Ytgoopiakpbcgoaa
open Go.RowKit

/-- The slice v, its row one's own: n elements of sz cells each, the cells xs. -/
def Row (e : TypeId) (sz : Nat) (v : Value) (n : Nat) (xs : List Value) : HP where
  p := fun _ h => xs.length = n * sz ∧ ((∃ a, v = .slice a 0 0 ∧ n = 0 ∧ h = Hp.none) ∨
    ∃ g o c cur, v = .slice (some ⟨g, o, none⟩) n c ∧ n ≤ c ∧ (c : Int) ≤ 9223372036854775807 ∧ o + c * sz ≤ cur.size ∧ (∀ j, j < n * sz → cur[o + j]? = some (xs.getD j undef)) ∧ h = fun k => if k = g then some (.cells cur e (0, 0)) else none)
  mono := fun _ _ _ _ h => h

section
variable {P : Program} {w0 w : World} {A F : HP} {e : TypeId} {sz n : Nat} {v : Value} {xs : List Value}

theorem Holds.row_len (H : Holds w0 w (Row e sz v n xs • F)) : xs.length = n * sz := by
  obtain ⟨I, x, ⟨a, b, _, _, h, _⟩, _⟩ := H.hp
  exact h.1
/-- What an owned row is. -/
theorem Holds.row_open (H : Holds w0 w (Row e sz v n xs • F)) : (∃ a, v = .slice a 0 0 ∧ n = 0 ∧ xs = [] ∧ Holds w0 w F) ∨
    ∃ g o c cur, v = .slice (some ⟨g, o, none⟩) n c ∧ n ≤ c ∧ (c : Int) ≤ 9223372036854775807 ∧ o + c * sz ≤ cur.size ∧ (∀ j, j < n * sz → cur[o + j]? = some (xs.getD j undef)) ∧ Holds w0 w (blk g (.cells cur e (0, 0)) • F) := by
  have hl := H.row_len
  obtain ⟨I, x, ⟨a, b, hd, e, ⟨_, h⟩, hF⟩, hD, hI, hk⟩ := H.hp
  rcases h with ⟨ad, h1, h2, h3⟩ | ⟨g, o, c, cur, h1, h2, h3, h4, h5, h6⟩
  · subst h2 h3
    refine .inl ⟨ad, h1, rfl, List.eq_nil_of_length_eq_zero (by omega), H.base, I, x, ?_, hD, hI, hk⟩
    rw [e, Hp.none_join]; exact hF
  · exact .inr ⟨g, o, c, cur, h1, h2, h3, h4, h5, H.base, I, x, ⟨a, b, hd, e, h6, hF⟩, hD, hI, hk⟩
theorem Holds.row_nil (H : Holds w0 w F) (a : Option Addr) : Holds w0 w (Row e sz (.slice a 0 0) 0 [] • F) := by
  refine H.add_emp.ent (Ent.left ?_ F)
  rintro I h rfl
  exact ⟨by simp, .inl ⟨a, rfl, rfl, rfl⟩⟩
theorem Holds.row_mk {g o c : Nat} {cur : Array Value} (H : Holds w0 w (blk g (.cells cur e (0, 0)) • F)) (hl : xs.length = n * sz) (hv : v = .slice (some ⟨g, o, none⟩) n c) (hn : n ≤ c) (hc : (c : Int) ≤ 9223372036854775807) (hs : o + c * sz ≤ cur.size)
    (hx : ∀ j, j < n * sz → cur[o + j]? = some (xs.getD j undef)) : Holds w0 w (Row e sz v n xs • F) := by
  refine H.ent (Ent.left ?_ F)
  intro I h hh
  exact ⟨hl, .inr ⟨g, o, c, cur, hv, hn, hc, hs, hx, hh⟩⟩
theorem Holds.row_rd (H : Holds w0 w (Row e sz v n xs • F)) : Rd w sz v n xs := by
  have hl := H.row_len
  rcases H.row_open with ⟨a, rfl, rfl, rfl, H1⟩ | ⟨g, o, c, cur, rfl, h2, h3, h4, h5, H1⟩
  · exact ⟨hl, a, 0, rfl, by omega, by omega, fun h => by omega⟩
  · refine ⟨hl, _, c, rfl, h2, h3, fun _ => ⟨g, o, rfl, fun j hj => cell_of_blk H1.get.2 (h5 j hj)⟩⟩
theorem Holds.row_drop (H : Holds w0 w (Row e sz v n xs • F)) : Holds w0 w F := H.right

theorem Rd.cells (h : Rd w sz v n xs) : ∃ a c, v = .slice a n c ∧ n ≤ c ∧ (c : Int) ≤ 9223372036854775807 ∧ (Builtin.firstCells sz n v).run P w = .ok xs.toArray w := by
  obtain ⟨hl, a, c, rfl, h1, h2, h3⟩ := h
  refine ⟨a, c, rfl, h1, h2, ?_⟩
  cases a with
  | none =>
    have : n = 0 := by
      rcases Nat.eq_zero_or_pos n with h | h
      · exact h
      · obtain ⟨b, o, e, _⟩ := h3 h; cases e
    subst this
    have hx : xs = [] := List.eq_nil_of_length_eq_zero (by omega)
    subst hx
    exact run_firstCells_none w sz 0 0 c
  | some a =>
    refine run_firstCells_some w sz n a n c xs hl fun j v hj => ?_
    have hj' : j < xs.length := by
      rcases Nat.lt_or_ge j xs.length with h | h
      · exact h
      · rw [List.getElem?_eq_none h] at hj; cases hj
    have hn : 0 < n := by
      rcases Nat.eq_zero_or_pos n with h | h
      · subst h; omega
      · exact h
    obtain ⟨b, o, e, hc⟩ := h3 hn
    cases e
    rw [add_at, hc j (by omega)]
    simp [List.getD_eq_getElem?_getD, hj]

/-- append, as it runs. -/
theorem run_append_grows {t ty : TypeId} {i : TypeInfo} {z : Value} (ht : P.underlying t = some (.slice e)) (hi : P.info? e = some i) (hz : i.zero = some z) (hs : i.size = sz)
    {x : Value} {m : Nat} {ys : List Value} {a1 : Option Addr} {c1 : Nat} (hv : Rd w sz (.slice a1 n c1) n xs) (hx : Rd w sz x m ys)
    (hg : c1 < n + m) (h63 : ((n + m : Nat) : Int) ≤ 9223372036854775807) (hfit : Builtin.nextslicecap (n + m) c1 * i.bytes ≤ 281474976710656) :
    (Builtin.append_ #[t, t] ty #[.slice a1 n c1, x]).run P w = .ok (.slice (some ⟨w.heap.size, 0, none⟩) (n + m) (grownCap w (n + m) c1 e))
      (w.drew.alloc (.cells (xs.toArray ++ ys.toArray ++ Builtin.zeroCells z.cells (grownCap w (n + m) c1 e - (n + m))) e)) := by
  have hn : ¬ (n + m ≤ c1) := by omega
  have h63' : ¬ (9223372036854775807 < ((n : Int) + (m : Int))) := by omega
  have h48' : ¬ (281474976710656 < Builtin.nextslicecap (n + m) c1 * i.bytes) := by omega
  have hv' : Rd w.drew sz (.slice a1 n c1) n xs := ⟨hv.len, hv.form⟩
  have hx' : Rd w.drew sz x m ys := ⟨hx.len, hx.form⟩
  obtain ⟨_, _, _, _, _, hfo⟩ := hv'.cells (P := P)
  obtain ⟨a2, c2, rfl, _, _, hf⟩ := hx'.cells (P := P)
  subst hs
  simp [Builtin.append_, run_underlying ht, sizeOf, typeInfo, zeroValue, hi, hz, Builtin.lenOf, hn, h63', h48', Question.forced, hf, hfo, newRow, grownCap]
  congr 2
  apply Array.ext'
  simp [List.append_assoc]

theorem grownCap_lt (w : World) (need old : Nat) (e : TypeId) (h : (need : Int) ≤ 9223372036854775807) : (grownCap w need old e : Int) ≤ 9223372036854775807 := by
  have h0 : grownCap w need old e = need + w.tape w.drawn (.appendCap need old e) % (2 ^ 63 - need) := rfl
  have h1 : w.tape w.drawn (.appendCap need old e) % (2 ^ 63 - need) < 2 ^ 63 - need := Nat.mod_lt _ (by omega)
  rw [h0]
  omega

/-- append onto a row of one's own. -/
theorem e_append {L : List (Nat × Value)} {ty t : TypeId} {s x : Operand} {xv : Value} {m bytes : Nat} {ys : List Value} {z : Value} (H : Holds w0 w (Row e sz v n xs • F)) (ht : P.underlying t = some (.slice e))
    (hi : (P.info? e).map (fun i => (i.zero, i.size, i.bytes)) = some (some z, sz, bytes)) (hz : z.cells.size = sz) (hsv : ev L s = some v) (hxv : ev L x = some xv) (hx : Rd w sz xv m ys) (h1 : ∀ u ∈ ys, u.oneCell' = true)
    (h63 : ((n + m : Nat) : Int) ≤ 9223372036854775807) (hb : (n + m) * bytes ≤ 140737488355328) :
    Eff P L (.call ⟨.builtin .append, #[s, x], #[t, t]⟩) ty w fun v' w' => Holds w0 w' (Row e sz v' (n + m) (xs ++ ys) • F) := by
  obtain ⟨i, hi1, hi2⟩ := Option.map_eq_some_iff.1 hi
  simp only [Prod.mk.injEq] at hi2
  obtain ⟨hz1, hs1, hb1⟩ := hi2
  subst hb1
  have hv := H.row_rd
  have hlen : (xs ++ ys).length = (n + m) * sz := by rw [List.length_append, hv.len, hx.len, Nat.add_mul]
  obtain ⟨a1, c1, rfl, hc1, hc2, _⟩ := hv.form
  by_cases hg : c1 < n + m
  · refine e_val (v := .slice (some ⟨w.heap.size, 0, none⟩) (n + m) (grownCap w (n + m) c1 e)) (w' := w.drew.alloc (.cells (xs.toArray ++ ys.toArray ++ Builtin.zeroCells z.cells (grownCap w (n + m) c1 e - (n + m))) e))
      (run_call (vs := [.slice a1 n c1, xv]) (by simp [evl, hsv, hxv]) fun _ => ?_) ?_
    · simp only [builtin, Sem.run_bind]
      rw [run_append_grows ht hi1 hz1 hs1 hv hx hg h63 (growslice_fits hg hb)]
      rfl
    · have hge := grownCap_ge w (n + m) c1 e
      refine (H.right.drew.alloc _).row_mk hlen rfl hge (grownCap_lt w _ _ _ h63) ?_ fun j hj => ?_
      · simp only [Array.size_append, List.size_toArray, size_zeroCells, hz, hv.len, hx.len, ← Nat.add_mul]
        rw [Nat.zero_add, show n + m + (grownCap w (n + m) c1 e - (n + m)) = grownCap w (n + m) c1 e from by omega]
        exact Nat.le_refl _
      · have hj' : j < (xs ++ ys).length := by omega
        have e1 : (xs.toArray ++ ys.toArray : Array Value) = (xs ++ ys).toArray := by simp
        rw [Nat.zero_add, e1, Array.getElem?_append_left (by simpa using hj'), List.getElem?_toArray, List.getD_eq_getElem?_getD, List.getElem?_eq_getElem hj']
        rfl
  · obtain ⟨a2, c2, rfl, _, _, hf⟩ := hx.cells (P := P)
    have hroom : n + m ≤ c1 := by omega
    rcases H.row_open with ⟨a, he, rfl, rfl, H1⟩ | ⟨g, o, c, cur, he, h2, h3, h4, h5, H1⟩
    · cases he
      have hm : m = 0 := by omega
      subst hm
      have hy : ys = [] := List.eq_nil_of_length_eq_zero (by have := hx.len; omega)
      subst hy
      refine e_val (v := .slice a1 0 0) (w' := w) (run_call (vs := [.slice a1 0 0, .slice a2 0 c2]) (by simp [evl, hsv, hxv]) fun _ => ?_) ?_
      · simp only [builtin, Sem.run_bind]
        have : (Builtin.append_ #[t, t] ty #[.slice a1 0 0, .slice a2 0 c2]).run P w = .ok (.slice a1 0 0) w := by
          subst hs1
          cases a1 <;> simp [Builtin.append_, run_underlying ht, sizeOf, typeInfo, hi1, Builtin.lenOf, hf, storeCells]
        rw [this]; rfl
      · simpa using H1.row_nil a1
    · cases he
      have hfit : o + n * sz + ys.length ≤ cur.size := by rw [hx.len, Nat.add_assoc, ← Nat.add_mul]; exact Nat.le_trans (Nat.add_le_add_left (Nat.mul_le_mul_right _ hroom) _) h4
      have hst := run_storeCells_at P g (o + n * sz) e ys 0 cur w H1.get.2 (by simpa using hfit) h1
      simp only [Nat.add_zero] at hst
      refine e_val (v := .slice (some ⟨g, o, none⟩) (n + m) c1) (w' := w.setRow g (cur.toList.take (o + n * sz) ++ ys ++ cur.toList.drop (o + n * sz + ys.length)).toArray) (run_call (vs := [.slice (some ⟨g, o, none⟩) n c1, .slice a2 m c2]) (by simp [evl, hsv, hxv]) fun _ => ?_) ?_
      · simp only [builtin, Sem.run_bind]
        have : (Builtin.append_ #[t, t] ty #[.slice (some ⟨g, o, none⟩) n c1, .slice a2 m c2]).run P w = .ok (.slice (some ⟨g, o, none⟩) (n + m) c1) (w.setRow g (cur.toList.take (o + n * sz) ++ ys ++ cur.toList.drop (o + n * sz + ys.length)).toArray) := by
          subst hs1
          simp [Builtin.append_, run_underlying ht, sizeOf, typeInfo, hi1, Builtin.lenOf, hf, hroom, add_at, hst]
        rw [this]; rfl
      · have H2 : Holds w0 (w.setRow g (cur.toList.take (o + n * sz) ++ ys ++ cur.toList.drop (o + n * sz + ys.length)).toArray) (blk g (.cells (cur.toList.take (o + n * sz) ++ ys ++ cur.toList.drop (o + n * sz + ys.length)).toArray e (0, 0)) • F) :=
          H1.turn rfl rfl rfl (by simp [World.setRow]) (setRow_heap _ _ _ _ _ _ H1.get.2) fun k hk _ => setRow_other _ _ _ _ hk
        have hmin : (cur.toList.take (o + n * sz)).length = o + n * sz := by simp; omega
        refine H2.row_mk hlen rfl hroom hc2 ?_ fun j hj => ?_
        · simp; omega
        · rw [List.getElem?_toArray, List.append_assoc]
          have hl := hv.len
          by_cases hjn : j < n * sz
          · rw [List.getElem?_append_left (by omega), List.getElem?_take, if_pos (by omega)]
            have := h5 j hjn
            rw [Array.getElem?_toList, this, List.getD_eq_getElem?_getD, List.getD_eq_getElem?_getD, List.getElem?_append_left (by omega)]
          · rw [List.getElem?_append_right (by omega), hmin, show o + j - (o + n * sz) = j - xs.length from by omega, List.getElem?_append_left (by have := hx.len; rw [Nat.add_mul] at hj; omega), List.getD_eq_getElem?_getD, List.getElem?_append_right (by omega),
              List.getElem?_eq_getElem (by have := hx.len; rw [Nat.add_mul] at hj; omega)]
            rfl
end
end Go.Proofs.Ytgoopiakpbcgoaa
