import Derived.Test.YtpdeedplgmbopaaGreatDoorZ2
import Derived.Laws.CopyRow
import Derived.Lib.AppendZeros
import Derived.Laws.OwnMore
import Derived.Laws.IdiomCopy
import Derived.Laws.ResultCell
import Derived.Laws.Rows
import Derived.Laws.IdiomStrings
set_option linter.unusedSimpArgs false
set_option linter.unusedVariables false
/- Texts of mine, joined, their names in short: Row Lit More LitS Build. -/
section
namespace Go.Proofs.YtpdeedplgmbopaaGreatDoor
open Go.RowKit
def Row (e : TypeId) (sz : Nat) (v : Value) (n : Nat) (xs : List Value) : HP where
  p := fun _ h => xs.length = n * sz ∧ ((∃ a, v = .slice a 0 0 ∧ n = 0 ∧ h = Hp.none) ∨
    ∃ g o c cur, v = .slice (some ⟨g, o, none⟩) n c ∧ n ≤ c ∧ (c : Int) ≤ 9223372036854775807 ∧ o + c * sz ≤ cur.size ∧ (∀ j, j < n * sz → cur[o + j]? = some (xs.getD j undef)) ∧ h = fun k => if k = g then some (.cells cur e (0, 0)) else none)
  mono := fun _ _ _ _ h => h
section
variable {P : Program} {w0 w : World} {A F : HP} {e : TypeId} {sz n : Nat} {v : Value} {xs : List Value}
theorem V.yw (H : V w0 w (Row e sz v n xs • F)) : xs.length = n * sz := by
  obtain ⟨I, x, ⟨a, b, _, _, h, _⟩, _⟩ := H.hp
  exact h.1
theorem V.uO (H : V w0 w (Row e sz v n xs • F)) : (∃ a, v = .slice a 0 0 ∧ n = 0 ∧ xs = [] ∧ V w0 w F) ∨
    ∃ g o c cur, v = .slice (some ⟨g, o, none⟩) n c ∧ n ≤ c ∧ (c : Int) ≤ 9223372036854775807 ∧ o + c * sz ≤ cur.size ∧ (∀ j, j < n * sz → cur[o + j]? = some (xs.getD j undef)) ∧ V w0 w (eP g (.cells cur e (0, 0)) • F) := by
  have hl := H.yw
  obtain ⟨I, x, ⟨a, b, hd, e, ⟨_, h⟩, hF⟩, hD, hI, hk⟩ := H.hp
  rcases h with ⟨ad, h1, h2, h3⟩ | ⟨g, o, c, cur, h1, h2, h3, h4, h5, h6⟩
  · subst h2 h3
    refine .inl ⟨ad, h1, rfl, List.eq_nil_of_length_eq_zero (by omega), H.base, I, x, ?_, hD, hI, hk⟩
    rw [e, Hp.xR]; exact hF
  · exact .inr ⟨g, o, c, cur, h1, h2, h3, h4, h5, H.base, I, x, ⟨a, b, hd, e, h6, hF⟩, hD, hI, hk⟩
theorem V.jO (H : V w0 w F) (a : Option Addr) : V w0 w (Row e sz (.slice a 0 0) 0 [] • F) := by
  refine H.Qw.GY (Qv.left ?_ F)
  rintro I h rfl
  exact ⟨by simp, .inl ⟨a, rfl, rfl, rfl⟩⟩
theorem V.Ai {g o c : Nat} {cur : Array Value} (H : V w0 w (eP g (.cells cur e (0, 0)) • F)) (hl : xs.length = n * sz) (hv : v = .slice (some ⟨g, o, none⟩) n c) (hn : n ≤ c) (hc : (c : Int) ≤ 9223372036854775807) (hs : o + c * sz ≤ cur.size)
    (hx : ∀ j, j < n * sz → cur[o + j]? = some (xs.getD j undef)) : V w0 w (Row e sz v n xs • F) := by
  refine H.GY (Qv.left ?_ F)
  intro I h hh
  exact ⟨hl, .inr ⟨g, o, c, cur, hv, hn, hc, hs, hx, hh⟩⟩
theorem V.aP (H : V w0 w (Row e sz v n xs • F)) : Rd w sz v n xs := by
  have hl := H.yw
  rcases H.uO with ⟨a, rfl, rfl, rfl, H1⟩ | ⟨g, o, c, cur, rfl, h2, h3, h4, h5, H1⟩
  · exact ⟨hl, a, 0, rfl, by omega, by omega, fun h => by omega⟩
  · refine ⟨hl, _, c, rfl, h2, h3, fun _ => ⟨g, o, rfl, fun j hj => kS H1.get.2 (h5 j hj)⟩⟩
theorem Rd.cells (h : Rd w sz v n xs) : ∃ a c, v = .slice a n c ∧ n ≤ c ∧ (c : Int) ≤ 9223372036854775807 ∧ (Builtin.firstCells sz n v).run P w = .ok xs.toArray w := by
  obtain ⟨hl, a, c, rfl, h1, h2, h3⟩ := h
  refine ⟨a, c, rfl, h1, h2, ?_⟩
  cases a with
  | none =>
    have : n = 0 := by
      rcases Nat.eq_zero_or_pos n with h | h
      · exact h
      · obtain ⟨b, o, e, _⟩ := h3 h; cases e
    subst this
    have hx : xs = [] := List.eq_nil_of_length_eq_zero (by omega)
    subst hx
    exact run_firstCells_none w sz 0 0 c
  | some a =>
    refine run_firstCells_some w sz n a n c xs hl fun j v hj => ?_
    have hj' : j < xs.length := by
      rcases Nat.lt_or_ge j xs.length with h | h
      · exact h
      · rw [List.getElem?_eq_none h] at hj; cases hj
    have hn : 0 < n := by
      rcases Nat.eq_zero_or_pos n with h | h
      · subst h; omega
      · exact h
    obtain ⟨b, o, e, hc⟩ := h3 hn
    cases e
    rw [vw, hc j (by omega)]
    simp [List.getD_eq_getElem?_getD, hj]
theorem I9 {t ty : TypeId} {i : TypeInfo} {z : Value} (ht : P.underlying t = some (.slice e)) (hi : P.info? e = some i) (hz : i.zero = some z) (hs : i.size = sz)
    {x : Value} {m : Nat} {ys : List Value} {a1 : Option Addr} {c1 : Nat} (hv : Rd w sz (.slice a1 n c1) n xs) (hx : Rd w sz x m ys)
    (hg : c1 < n + m) (h63 : ((n + m : Nat) : Int) ≤ 9223372036854775807) (hfit : Builtin.nextslicecap (n + m) c1 * i.bytes ≤ 281474976710656) :
    (Builtin.append_ #[t, t] ty #[.slice a1 n c1, x]).run P w = .ok (.slice (some ⟨w.heap.size, 0, none⟩) (n + m) (grownCap w (n + m) c1 e))
      (w.drew.alloc (.cells (xs.toArray ++ ys.toArray ++ Builtin.zeroCells z.cells (grownCap w (n + m) c1 e - (n + m))) e)) := by
  have hn : ¬ (n + m ≤ c1) := by omega
  have h63' : ¬ (9223372036854775807 < ((n : Int) + (m : Int))) := by omega
  have h48' : ¬ (281474976710656 < Builtin.nextslicecap (n + m) c1 * i.bytes) := by omega
  have hv' : Rd w.drew sz (.slice a1 n c1) n xs := ⟨hv.len, hv.form⟩
  have hx' : Rd w.drew sz x m ys := ⟨hx.len, hx.form⟩
  obtain ⟨_, _, _, _, _, hfo⟩ := hv'.cells (P := P)
  obtain ⟨a2, c2, rfl, _, _, hf⟩ := hx'.cells (P := P)
  subst hs
  simp [Builtin.append_, run_underlying ht, sizeOf, typeInfo, zeroValue, hi, hz, Builtin.lenOf, hn, h63', h48', Question.forced, hf, hfo, newRow, grownCap]
  congr 2
  apply Array.ext'
  simp [List.append_assoc]
theorem Ea (w : World) (need old : Nat) (e : TypeId) (h : (need : Int) ≤ 9223372036854775807) : (grownCap w need old e : Int) ≤ 9223372036854775807 := by
  have h0 : grownCap w need old e = need + w.tape w.drawn (.appendCap need old e) % (2 ^ 63 - need) := rfl
  have h1 : w.tape w.drawn (.appendCap need old e) % (2 ^ 63 - need) < 2 ^ 63 - need := Nat.mod_lt _ (by omega)
  rw [h0]
  omega
theorem iY {L : List (Nat × Value)} {ty t : TypeId} {s x : Operand} {xv : Value} {m bytes : Nat} {ys : List Value} {z : Value} (H : V w0 w (Row e sz v n xs • F)) (ht : P.underlying t = some (.slice e))
    (hi : (P.info? e).map (fun i => (i.zero, i.size, i.bytes)) = some (some z, sz, bytes)) (hz : z.cells.size = sz) (hsv : ev L s = some v) (hxv : ev L x = some xv) (hx : Rd w sz xv m ys) (h1 : ∀ u ∈ ys, u.oneCell' = true)
    (h63 : ((n + m : Nat) : Int) ≤ 9223372036854775807) (hb : (n + m) * bytes ≤ 140737488355328) :
    xU P L (.call ⟨.builtin .append, #[s, x], #[t, t]⟩) ty w fun v' w' => V w0 w' (Row e sz v' (n + m) (xs ++ ys) • F) := by
  obtain ⟨i, hi1, hi2⟩ := Option.map_eq_some_iff.1 hi
  simp only [Prod.mk.injEq] at hi2
  obtain ⟨hz1, hs1, hb1⟩ := hi2
  subst hb1
  have hv := H.aP
  have hlen : (xs ++ ys).length = (n + m) * sz := by rw [List.length_append, hv.len, hx.len, Nat.add_mul]
  obtain ⟨a1, c1, rfl, hc1, hc2, _⟩ := hv.form
  by_cases hg : c1 < n + m
  · refine vJ (v := .slice (some ⟨w.heap.size, 0, none⟩) (n + m) (grownCap w (n + m) c1 e)) (w' := w.drew.alloc (.cells (xs.toArray ++ ys.toArray ++ Builtin.zeroCells z.cells (grownCap w (n + m) c1 e - (n + m))) e))
      (rU (vs := [.slice a1 n c1, xv]) (by simp [FV, hsv, hxv]) fun _ => ?_) ?_
    · simp only [builtin, Sem.run_bind]
      rw [I9 ht hi1 hz1 hs1 hv hx hg h63 (growslice_fits hg hb)]
      rfl
    · have hge := grownCap_ge w (n + m) c1 e
      refine (H.right.drew.alloc _).Ai hlen rfl hge (Ea w _ _ _ h63) ?_ fun j hj => ?_
      · simp only [Array.size_append, List.size_toArray, size_zeroCells, hz, hv.len, hx.len, ← Nat.add_mul]
        rw [Nat.zero_add, show n + m + (grownCap w (n + m) c1 e - (n + m)) = grownCap w (n + m) c1 e from by omega]
        exact Nat.le_refl _
      · have hj' : j < (xs ++ ys).length := by omega
        have e1 : (xs.toArray ++ ys.toArray : Array Value) = (xs ++ ys).toArray := by simp
        rw [Nat.zero_add, e1, Array.getElem?_append_left (by simpa using hj'), List.getElem?_toArray, List.getD_eq_getElem?_getD, List.getElem?_eq_getElem hj']
        rfl
  · obtain ⟨a2, c2, rfl, _, _, hf⟩ := hx.cells (P := P)
    have hroom : n + m ≤ c1 := by omega
    rcases H.uO with ⟨a, he, rfl, rfl, H1⟩ | ⟨g, o, c, cur, he, h2, h3, h4, h5, H1⟩
    · cases he
      have hm : m = 0 := by omega
      subst hm
      have hy : ys = [] := List.eq_nil_of_length_eq_zero (by have := hx.len; omega)
      subst hy
      refine vJ (v := .slice a1 0 0) (w' := w) (rU (vs := [.slice a1 0 0, .slice a2 0 c2]) (by simp [FV, hsv, hxv]) fun _ => ?_) ?_
      · simp only [builtin, Sem.run_bind]
        have : (Builtin.append_ #[t, t] ty #[.slice a1 0 0, .slice a2 0 c2]).run P w = .ok (.slice a1 0 0) w := by
          subst hs1
          cases a1 <;> simp [Builtin.append_, run_underlying ht, sizeOf, typeInfo, hi1, Builtin.lenOf, hf, storeCells]
        rw [this]; rfl
      · simpa using H1.jO a1
    · cases he
      have hfit : o + n * sz + ys.length ≤ cur.size := by rw [hx.len, Nat.add_assoc, ← Nat.add_mul]; exact Nat.le_trans (Nat.add_le_add_left (Nat.mul_le_mul_right _ hroom) _) h4
      have hst := run_storeCells_at P g (o + n * sz) e ys 0 cur w H1.get.2 (by simpa using hfit) h1
      simp only [Nat.add_zero] at hst
      refine vJ (v := .slice (some ⟨g, o, none⟩) (n + m) c1) (w' := w.setRow g (cur.toList.take (o + n * sz) ++ ys ++ cur.toList.drop (o + n * sz + ys.length)).toArray) (rU (vs := [.slice (some ⟨g, o, none⟩) n c1, .slice a2 m c2]) (by simp [FV, hsv, hxv]) fun _ => ?_) ?_
      · simp only [builtin, Sem.run_bind]
        have : (Builtin.append_ #[t, t] ty #[.slice (some ⟨g, o, none⟩) n c1, .slice a2 m c2]).run P w = .ok (.slice (some ⟨g, o, none⟩) (n + m) c1) (w.setRow g (cur.toList.take (o + n * sz) ++ ys ++ cur.toList.drop (o + n * sz + ys.length)).toArray) := by
          subst hs1
          simp [Builtin.append_, run_underlying ht, sizeOf, typeInfo, hi1, Builtin.lenOf, hf, hroom, vw, hst]
        rw [this]; rfl
      · have H2 : V w0 (w.setRow g (cur.toList.take (o + n * sz) ++ ys ++ cur.toList.drop (o + n * sz + ys.length)).toArray) (eP g (.cells (cur.toList.take (o + n * sz) ++ ys ++ cur.toList.drop (o + n * sz + ys.length)).toArray e (0, 0)) • F) :=
          H1.turn rfl rfl rfl (by simp [World.setRow]) (setRow_heap _ _ _ _ _ _ H1.get.2) fun k hk _ => setRow_other _ _ _ _ hk
        have hmin : (cur.toList.take (o + n * sz)).length = o + n * sz := by simp; omega
        refine H2.Ai hlen rfl hroom hc2 ?_ fun j hj => ?_
        · simp; omega
        · rw [List.getElem?_toArray, List.append_assoc]
          have hl := hv.len
          by_cases hjn : j < n * sz
          · rw [List.getElem?_append_left (by omega), List.getElem?_take, if_pos (by omega)]
            have := h5 j hjn
            rw [Array.getElem?_toList, this, List.getD_eq_getElem?_getD, List.getD_eq_getElem?_getD, List.getElem?_append_left (by omega)]
          · rw [List.getElem?_append_right (by omega), hmin, show o + j - (o + n * sz) = j - xs.length from by omega, List.getElem?_append_left (by have := hx.len; rw [Nat.add_mul] at hj; omega), List.getD_eq_getElem?_getD, List.getElem?_append_right (by omega),
              List.getElem?_eq_getElem (by have := hx.len; rw [Nat.add_mul] at hj; omega)]
            rfl
end
def YN (w0 : World) (F : HP) (sz : Nat) (v : Value) (n : Nat) (xs : List Value) : Prop := ∀ W, V w0 W F → Rd W sz v n xs
def jh (w0 : World) (F : HP) (k : IntKind) (v : Value) (l : List Int) : Prop := ∀ W, V w0 W F → fJ W k v l
abbrev jw (e : TypeId) (k : IntKind) (v : Value) (l : List Int) : HP := Row e 1 v l.length (l.map (Value.int k))
theorem jh.Aj {w0 : World} {k : IntKind} {v : Value} {l : List Int} (h : fJ w0 k v l) (F : HP) : jh w0 F k v l := fun W H => V.rd H h
theorem YN.Aj {w0 : World} {sz : Nat} {v : Value} {n : Nat} {xs : List Value} (h : Rd w0 sz v n xs) (F : HP) : YN w0 F sz v n xs := fun W H => V.rd H h
theorem jh.under {w0 : World} {F A : HP} {k : IntKind} {v : Value} {l : List Int} (h : jh w0 F k v l) : jh w0 (A • F) k v l := fun W H => h W H.right
theorem YN.under {w0 : World} {F A : HP} {sz : Nat} {v : Value} {n : Nat} {xs : List Value} (h : YN w0 F sz v n xs) : YN w0 (A • F) sz v n xs := fun W H => h W H.right
theorem Hl (k : IntKind) (l : List Int) : ∀ u ∈ l.map (Value.int k), u.oneCell' = true := by
  intro u hu; obtain ⟨x, _, rfl⟩ := List.mem_map.1 hu; rfl
theorem fJ.nil (w : World) (k : IntKind) (a : Option Addr) (c : Nat) (hc : (c : Int) ≤ 9223372036854775807) : fJ w k (.slice a 0 c) [] := ⟨by simp, a, c, rfl, by simp, hc, fun h => by simp at h⟩
theorem Rd.VD {w : World} {sz : Nat} {v : Value} {n : Nat} {xs : List Value} (h : Rd w sz v n xs) : ∃ a c, v = .slice a n c := let ⟨a, c, e, _⟩ := h.form; ⟨a, c, e⟩
theorem Rd.one {w : World} {sz : Nat} {v : Value} {n : Nat} {xs : List Value} (h : Rd w sz v n xs) : v.oneCell' = true := by obtain ⟨a, c, rfl⟩ := h.VD; rfl
theorem YN.cell {w0 W : World} {F : HP} {sz n c : Nat} {a : Option Addr} {xs : List Value} (h : YN w0 F sz (.slice a n c) n xs) (H : V w0 W F) {j : Nat} (hj : j < n * sz) : ∃ b o, a = some ⟨b, o, none⟩ ∧ W.cell? ⟨b, o + j, none⟩ = some (xs.getD j undef) := by
  obtain ⟨_, a', c', e, _, _, hc⟩ := h W H
  cases e
  obtain ⟨b, o, e, hc⟩ := hc (by rcases Nat.eq_zero_or_pos n with h | h; (subst h; omega); exact h)
  exact ⟨b, o, e, hc j hj⟩
theorem jh.cell {w0 W : World} {F : HP} {k : IntKind} {n c : Nat} {a : Option Addr} {l : List Int} (h : jh w0 F k (.slice a n c) l) (H : V w0 W F) {j : Nat} (hj : j < l.length) : ∃ b o, a = some ⟨b, o, none⟩ ∧ W.cell? ⟨b, o + j, none⟩ = some (.int k (l.getD j 0)) := by
  obtain ⟨a', c', e, _, _, hc⟩ := (h W H).open
  cases e
  obtain ⟨b, o, e, hc⟩ := hc (by omega)
  exact ⟨b, o, e, hc j hj⟩
theorem fJ.cell {W : World} {k : IntKind} {n c : Nat} {a : Option Addr} {l : List Int} (h : fJ W k (.slice a n c) l) {j : Nat} (hj : j < l.length) : ∃ b o, a = some ⟨b, o, none⟩ ∧ W.cell? ⟨b, o + j, none⟩ = some (.int k (l.getD j 0)) := by
  obtain ⟨a', c', e, _, _, hc⟩ := h.open
  cases e
  obtain ⟨b, o, e, hc⟩ := hc (by omega)
  exact ⟨b, o, e, hc j hj⟩
theorem EZ {α : Type} (ls : List (List α)) {k : Nat} (h : k < ls.length) : (ls.take (k + 1)).flatten = (ls.take k).flatten ++ ls.getD k [] := by
  rw [List.take_succ_eq_append_getElem h, List.flatten_append]
  simp [List.getD_eq_getElem?_getD, h]
theorem Qy {α : Type} (ls : List (List α)) (k : Nat) : (ls.take k).flatten.length ≤ ls.flatten.length := by
  conv => rhs; rw [← List.take_append_drop k ls, List.flatten_append, List.length_append]
  omega
def evp (L : List (Nat × Value)) : List (Nat × Operand) → Option (List (Nat × Value))
  | [] => some []
  | (i, x) :: r => match ev L x with
    | some v => match evp L r with
      | some vs => some ((i, v) :: vs)
      | none => none
    | none => none
theorem Qz {L : List (Nat × Value)} {ρ : Operand → Value} (hρ : ∀ x u, ev L x = some u → ρ x = u) : ∀ (ps : List (Nat × Operand)) (vs : List (Nat × Value)), evp L ps = some vs → ps.map (fun p => (p.1, ρ p.2)) = vs
  | [], vs, h => by simp [evp] at h; simp [h]
  | (i, x) :: r, vs, h => by
    simp only [evp] at h
    cases h1 : ev L x with
    | none => simp [h1] at h
    | some v =>
      cases h2 : evp L r with
      | none => simp [h1, h2] at h
      | some us =>
        simp [h1, h2] at h
        subst h
        simp [hρ _ _ h1, Qz hρ r us h2]
def placed : Nat → List Value → List (Nat × Value)
  | _, [] => []
  | i, v :: r => (i, v) :: placed (i + 1) r
theorem E5 {v : Value} (h : v.oneCell' = true) : v.cells = #[v] := by cases v <;> simp_all [Value.cells, Value.oneCell']
theorem YO (vs : List Value) : ∀ (i : Nat) (cells : Array Value), (∀ v ∈ vs, v.oneCell' = true) → cells.size = i + vs.length →
    Instr.fill (fun i => some (i, 1)) cells (placed i vs) = some (cells.toList.take i ++ vs).toArray := by
  induction vs with
  | nil => intro i cells _ hs; simp [placed, Instr.fill, List.take_of_length_le (show cells.toList.length ≤ i by simp; simp at hs; omega)]
  | cons v r ih =>
    intro i cells h1 hs
    simp only [placed, Instr.fill]
    have hc := E5 (h1 v (by simp))
    simp only [hc, List.size_toArray, List.length_cons, List.length_nil, Nat.zero_add, ne_eq, not_true_eq_false, decide_false, Bool.false_or]
    rw [if_neg (by simp at hs ⊢; omega)]
    have : (#[v] : Array Value).zipIdx.foldl (fun cs (x : Value × Nat) => cs.setIfInBounds (i + x.2) x.1) cells = cells.setIfInBounds i v := by simp
    rw [this, ih (i + 1) _ (fun u hu => h1 u (by simp [hu])) (by simp at hs ⊢; omega)]
    congr 2
    have hi : i < cells.toList.length := by simp at hs ⊢; omega
    rw [Array.toList_setIfInBounds, List.take_succ_eq_append_getElem (by simpa using hi), List.take_set_of_le (Nat.le_refl _)]
    simp
section
variable {P : Program} {L : List (Nat × Value)} {w0 w : World} {F : HP} {ty : TypeId}
theorem XG {t e n : Nat} {ps : List (Nat × Operand)} {vs : List Value} {z : Value} (H : V w0 w F) (ht : P.underlying t = some (.slice e)) (hs : ∀ w, (sizeOf e).run P w = .ok 1 w) (hz : ∀ w, (zeroValue e).run P w = .ok z w) (hz1 : z.cells.size = 1)
    (hp : evp L ps = some (placed 0 vs)) (hn : vs.length = n) (aak : n ≤ 16777216) (h1 : ∀ v ∈ vs, v.oneCell' = true) :
    xU P L (.buildSlice t n ps.toArray) ty w fun v w' => ∃ b, v = .slice (some ⟨b, 0, none⟩) n n ∧ V w0 w' (eP b (.cells vs.toArray e (0, 0)) • F) := by
  refine vJ (v := .slice (some ⟨w.heap.size, 0, none⟩) n n) (w' := w.alloc (.cells vs.toArray e)) ?_ ⟨_, rfl, H.alloc _⟩
  intro ρ hρ d pos qK g
  have hm := Qz hρ _ _ hp
  have hm' : (ps.toArray.map fun x => (x.1, ρ x.2)).toList = placed 0 vs := by simpa using hm
  have hf : ∀ cells : Array Value, cells.size = n → Instr.fill (fun i => some (i, 1)) cells (List.map (fun x => (x.fst, ρ x.snd)) ps) = some vs.toArray := fun cells hc => by
    rw [hm, YO vs 0 cells h1 (by omega)]; simp
  simp only [execOp, Instr.buildSlice, Sem.run_bind, run_underlying ht, Result.andThen_ok, hs]
  rw [if_neg (by omega)]
  by_cases h0 : n = 0
  · subst h0
    have hf0 := hf (Array.map (fun _ => default) (Array.range 0)) (by simp)
    simp [hf0, newRow]
  · have hf1 := hf ((Array.range n).map (z.cells[· % z.cells.size]!)) (by simp)
    simp [h0, hz, hf1, newRow]
theorem lW {t e n : Nat} {ps : List (Nat × Operand)} {vs : List Value} {z : Value} (H : V w0 w F) (ht : P.underlying t = some (.slice e)) (hs : ∀ w, (sizeOf e).run P w = .ok 1 w) (hz : ∀ w, (zeroValue e).run P w = .ok z w) (hz1 : z.cells.size = 1)
    (hp : evp L ps = some (placed 0 vs)) (hn : vs.length = n) (aak : n ≤ 16777216) (h1 : ∀ v ∈ vs, v.oneCell' = true) :
    xU P L (.buildSlice t n ps.toArray) ty w fun v w' => V w0 w' (Row e 1 v n vs • F) :=
  (XG (ty := ty) H ht hs hz hz1 hp hn aak h1).mono fun v w'' ⟨b, hv, H'⟩ => by
      subst hv
      refine H'.Ai (by omega) rfl (Nat.le_refl _) (by omega) (by simp; omega) fun j hj => ?_
      rw [List.getElem?_toArray, Nat.zero_add, List.getD_eq_getElem?_getD, List.getElem?_eq_getElem (by omega)]; rfl
theorem LH {t tn e : TypeId} {k kn : IntKind} {s x : Operand} {m : Int} {bytes : Nat} (H : V w0 w F) (ht : P.underlying t = some (.slice e)) (htn : P.underlying tn = some (.int kn))
    (hi : (P.info? e).map (fun i => (i.zero, i.size, i.bytes)) = some (some (.int k 0), 1, bytes)) (hsv : ev L s = some (.slice none 0 0)) (hxv : ev L x = some (.int .i64 m)) (hm : 0 < m) (hm2 : m ≤ 9223372036854775807)
    (hb : m.toNat * bytes ≤ 281474976710656) :
    xU P L (.call ⟨.builtin .append, #[s, x], #[t, tn]⟩) ty w fun v w' => ∃ g c cur, v = .slice (some ⟨g, 0, none⟩) m.toNat c ∧ m.toNat ≤ c ∧ (c : Int) ≤ 9223372036854775807 ∧ c ≤ cur.size ∧ V w0 w' (eP g (.cells cur e (0, 0)) • F) := by
  obtain ⟨i, hi1, hi2⟩ := Option.map_eq_some_iff.1 hi
  simp only [Prod.mk.injEq] at hi2
  obtain ⟨hz1, hs1, hb1⟩ := hi2
  have e1 : (m.toNat : Int) = m := Int.toNat_of_nonneg (by omega)
  have hge := grownCap_ge w m.toNat 0 e
  refine vJ (v := .slice (some ⟨w.heap.size, 0, none⟩) m.toNat (grownCap w m.toNat 0 e)) (w' := w.drew.alloc (.cells (Builtin.zeroCells #[.int k 0] m.toNat ++ Builtin.zeroCells #[.int k 0] (grownCap w m.toNat 0 e - m.toNat)) e))
    (rU (vs := [.slice none 0 0, .int .i64 m]) (by simp [FV, hsv, hxv]) fun _ => ?_) ⟨_, _, _, rfl, hge, Ea w _ _ _ (by omega), ?_, H.drew.alloc _⟩
  · simp only [builtin, Sem.run_bind]
    have := Lib.run_append_nil_zeros (P := P) w t tn ty e i (.int k 0) .i64 kn ht htn hi1 hz1 m.toNat (by omega) (by omega) (by omega) (by rw [hb1]; exact hb)
    rw [e1] at this
    rw [this]; rfl
  · simp [size_zeroCells, Value.cells]; omega
theorem nP {t : TypeId} {fs : Array Field} {z : Value} {pl : Array (Nat × Nat)} {ps : List (Nat × Operand)} {vs : List (Nat × Value)} (cells : Array Value) (ht : P.underlying t = some (.struct fs)) (hz : ∀ w, (zeroValue t).run P w = .ok z w)
    (hpl : ∀ w, (fs.mapM fun f => do pure (f.offset, ← sizeOf f.type) : Sem (Array (Nat × Nat))).run P w = .ok pl w) (hp : evp L ps = some vs) (hf : Instr.fill (fun i => pl[i]?) z.cells vs = some cells) : Val P L (.build t ps.toArray) ty w (.agg cells) w := fun ρ hρ _ _ _ _ => by
  have hm := Qz hρ _ _ hp
  simp only [execOp, Instr.build, Sem.run_bind, hz, Result.andThen_ok, run_underlying ht, hpl]
  have : (ps.toArray.map fun x => (x.1, ρ x.2)).toList = vs := by simpa using hm
  simp only [this, hf, Sem.run_pure, Result.andThen_ok]
theorem dV {t : TypeId} {d : TypeDesc} {b n : Nat} {cs : Array Value} {et : TypeId} {fr : Nat × Nat} {x : Operand} (hu : P.underlying t = some d) (hd : (match d with | .struct _ => false | .array _ _ => false | _ => true) = false) (hs : ∀ w, (sizeOf t).run P w = .ok n w) (hn : cs.size = n)
    (hx : ev L x = some (.pointer (some ⟨b, 0, none⟩))) (hb : w.heap[b]? = some (.cells cs et fr)) : Val P L (.load t x) ty w (.agg cs) w := by
  have := CZ (ty := ty) (cs := cs.toList) (w := w) (by rw [hu]; rfl) (SI hu hd) hs (by simpa using hn) hx (fun j u hj => kS hb (by rw [Nat.zero_add]; simpa using hj))
  simpa using this
theorem iM {t : TypeId} {b n : Nat} {old cs : Array Value} {et : TypeId} {x y : Operand} (H : V w0 w (eP b (.cells old et (0, 0)) • F)) (hs : ∀ w, (sizeOf t).run P w = .ok n w) (hn : cs.size = n) (hn' : old.size = n)
    (hx : ev L x = some (.pointer (some ⟨b, 0, none⟩))) (hy : ev L y = some (.agg cs)) (h1 : ∀ v ∈ cs.toList, v.oneCell' = true) : xU P L (.store t x y) ty w fun _ w' => V w0 w' (eP b (.cells cs et (0, 0)) • F) := by
  have hst := run_storeCells_at P b 0 et cs.toList 0 old w H.get.2 (by simp; omega) h1
  have e1 : (old.toList.take (0 + 0) ++ cs.toList ++ old.toList.drop (0 + 0 + cs.toList.length)).toArray = cs := by
    apply Array.ext'
    simp
    omega
  rw [e1] at hst
  refine LC (w' := w.setRow b cs) ?_ (H.turn rfl rfl rfl (by simp [World.setRow]) (setRow_heap _ _ _ _ _ _ H.get.2) fun k hk _ => setRow_other _ _ _ _ hk)
  intro ρ hρ d pos qK g
  simp [execOp, hρ _ _ hx, hρ _ _ hy, Instr.storeAt, Instr.sureAddr, storeVar, hs, Value.cells, hn, hst]
def utf8 (l : List Int) : ByteArray := l.foldl (fun s n => s ++ Utf8.encode n) .empty
theorem lJ {t e bytes : Nat} {k : IntKind} {s x : Operand} {v xv : Value} {l m : List Int} (H : V w0 w (jw e k v l • F)) (hx : fJ w k xv m) (ht : P.underlying t = some (.slice e))
    (hi : (P.info? e).map (fun i => (i.zero, i.size, i.bytes)) = some (some (.int k 0), 1, bytes)) (hsv : ev L s = some v) (hxv : ev L x = some xv) (h63 : ((l.length + m.length : Nat) : Int) ≤ 9223372036854775807) (hb : (l.length + m.length) * bytes ≤ 140737488355328) :
    xU P L (.call ⟨.builtin .append, #[s, x], #[t, t]⟩) ty w fun v' w' => V w0 w' (jw e k v' (l ++ m) • F) :=
  (iY H ht hi rfl hsv hxv hx (Hl _ _) h63 hb).mono fun v w' H' => by
    unfold jw
    rw [List.length_append, List.map_append]
    exact H'
def DU (a : Option Addr) (l c s : Nat) : Option Addr := if c = l then a else a.map (·.add (l * s))
def sV (s : Nat) (l h : Nat) : Value → Value
  | .slice a _ c => .slice (DU a l c s) (h - l) (c - l)
  | v => v
theorem yx {t e s : TypeId} {x : Operand} {lo hi : Option Operand} {a : Option Addr} {n c : Nat} {l h : Int} (ht : P.underlying t = some (.slice e)) (hs : ∀ w, (sizeOf e).run P w = .ok s w) (hx : ev L x = some (.slice a n c))
    (hl : (match lo with | none => some (Value.int .i64 0) | some o => ev L o) = some (.int .i64 l)) (hh : (match hi with | none => some (Value.int .i64 n) | some o => ev L o) = some (.int .i64 h)) (h0 : 0 ≤ l ∧ l ≤ h ∧ h ≤ c) :
    Val P L (.slice t x lo hi none) ty w (sV s l.toNat h.toNat (.slice a n c)) w := fun ρ hρ d pos qK g => by
  have e1 : (h.toNat : Int) = h := Int.toNat_of_nonneg (by omega)
  have hx' := hρ _ _ hx
  simp only [execOp, hx', Instr.sliceAt, Sem.run_bind, run_underlying ht, Result.andThen_ok, Instr.slice, Instr.sliceBounds]
  cases hi with
  | none =>
    simp at hh
    subst hh
    cases lo with
    | none => simp at hl; subst hl; simp [hs, sV, DU]
    | some o =>
      simp only [hρ _ _ hl, Option.map_some, Option.map_none]
      simp [Instr.sliceBound, asIntOf, h0.1, h0.2.1, hs, sV, DU]
  | some o =>
    simp only [hρ _ _ hh, Option.map_some]
    cases lo with
    | none => simp at hl; subst hl; simp [Instr.sliceBound, asIntOf, h0.2.1, h0.2.2, hs, sV, DU]
    | some o' =>
      simp only [hρ _ _ hl, Option.map_some, Option.map_none]
      simp [Instr.sliceBound, asIntOf, h0.1, show 0 ≤ h from by omega, h0.2.2, e1, h0.2.1, hs, sV, DU]
theorem Pv (s h : Nat) (b o n c : Nat) : sV s 0 h (.slice (some ⟨b, o, none⟩) n c) = .slice (some ⟨b, o, none⟩) h c := by simp [sV, DU, vw]
theorem Rd.cut {v : Value} {sz n : Nat} {xs : List Value} (hr : Rd w sz v n xs) {l h : Nat} (h1 : l ≤ h) (h2 : h ≤ n) : Rd w sz (sV sz l h v) (h - l) ((xs.drop (l * sz)).take ((h - l) * sz)) := by
  obtain ⟨hl, a, c, rfl, hc1, hc2, hc⟩ := hr
  refine ⟨?_, DU a l c sz, c - l, rfl, by omega, by omega, fun hp => ?_⟩
  · rw [List.length_take, List.length_drop, hl, ← Nat.sub_mul]
    exact Nat.min_eq_left (Nat.mul_le_mul_right _ (by omega))
  · obtain ⟨b, o, rfl, hcell⟩ := hc (by omega)
    have : ¬ c = l := by omega
    refine ⟨b, o + l * sz, by simp [DU, this, vw], fun j hj => ?_⟩
    have e1 : l * sz + (h - l) * sz = h * sz := by rw [← Nat.add_mul]; congr 1; omega
    have e2 : h * sz ≤ n * sz := Nat.mul_le_mul_right _ h2
    have := hcell (l * sz + j) (by omega)
    rw [Nat.add_assoc, this, List.getD_eq_getElem?_getD, List.getD_eq_getElem?_getD, List.getElem?_take, if_pos hj, List.getElem?_drop]
theorem fJ.cut {k : IntKind} {v : Value} {l : List Int} (hr : fJ w k v l) {i j : Nat} (h1 : i ≤ j) (h2 : j ≤ l.length) : fJ w k (sV 1 i j v) ((l.drop i).take (j - i)) := by
  have h := Rd.cut hr h1 h2
  have hn : ((l.drop i).take (j - i)).length = j - i := by simp; omega
  unfold fJ
  rw [hn, List.map_take, List.map_drop]
  simpa using h
theorem fJ.upto {k : IntKind} {v : Value} {l : List Int} (hr : fJ w k v l) {j : Nat} (h : j ≤ l.length) : fJ w k (sV 1 0 j v) (l.take j) := by
  have := hr.cut (i := 0) (j := j) (by omega) h
  rwa [List.drop_zero, Nat.sub_zero] at this
theorem fJ.from {k : IntKind} {v : Value} {l : List Int} (hr : fJ w k v l) {i : Nat} (h : i ≤ l.length) : fJ w k (sV 1 i l.length v) (l.drop i) := by
  have := hr.cut (i := i) (j := l.length) h (Nat.le_refl _)
  rwa [List.take_of_length_le (by simp)] at this
theorem jh.cut {w0 : World} {F : HP} {k : IntKind} {v : Value} {l : List Int} (hr : jh w0 F k v l) {i j : Nat} (h1 : i ≤ j) (h2 : j ≤ l.length) : jh w0 F k (sV 1 i j v) ((l.drop i).take (j - i)) := fun W H => (hr W H).cut h1 h2
theorem V.aal {e sz n h : Nat} {v : Value} {xs : List Value} (H : V w0 w (Row e sz v n xs • F)) (h2 : h ≤ n) : V w0 w (Row e sz (sV sz 0 h v) h (xs.take (h * sz)) • F) := by
  have hl := H.yw
  rcases H.uO with ⟨a, rfl, rfl, rfl, H1⟩ | ⟨g, o, c, cur, rfl, h2', h3, h4, h5, H1⟩
  · have : h = 0 := by omega
    subst this
    have := H1.jO (e := e) (sz := sz) a
    simpa [sV, DU] using this
  · rw [Pv]
    have e2 : h * sz ≤ n * sz := Nat.mul_le_mul_right _ h2
    refine H1.Ai (by rw [List.length_take, hl]; exact Nat.min_eq_left e2) rfl (by omega) h3 h4 fun j hj => ?_
    rw [h5 j (by omega), List.getD_eq_getElem?_getD, List.getD_eq_getElem?_getD, List.getElem?_take, if_pos hj]
end
section
variable {P : Program} {N : Sh} {L : List (Nat × Value)} {w0 w : World} {F : HP} {ty : TypeId}
theorem QA {fn : Func} {p g : Nat} {t ct : TypeId} {cs : Array Value} {fr : Nat × Nat} {d : TypeDesc} (hr : fn.results = #[.cell p t]) (hv : look L p = some (.pointer (some ⟨g, 0, none⟩)))
    (hu : P.underlying t = some d) (hd : (match d with | .struct _ | .array _ _ => true | _ => false) = true) (hi : (P.info? t).map (·.size) = some cs.size) (hg : w.heap[g]? = some (.cells cs ct fr)) : Res P fn N L w (.agg cs) := fun a ha =>
  results_cell_row (P := P) hr a.tmps w g ct cs fr d (by rw [Array.getD_eq_getD_getElem?, ha.at_ _ _ hv]; rfl) hg hu hd hi
theorem XH {fn : Func} {p u g : Nat} {t ct : TypeId} {x : Value} {cs : Array Value} {fr : Nat × Nat} {d : TypeDesc} (hr : fn.results = #[.cell p t, .tmp u]) (hv : look L p = some (.pointer (some ⟨g, 0, none⟩))) (hx : look L u = some x)
    (hu : P.underlying t = some d) (hd : (match d with | .struct _ | .array _ _ => true | _ => false) = true) (hi : (P.info? t).map (·.size) = some cs.size) (hg : w.heap[g]? = some (.cells cs ct fr)) : Res P fn N L w (.tuple #[.agg cs, x]) := fun a ha => by
  have h1 := results_cell_tmp hr a.tmps P w
  rw [Array.getD_eq_getD_getElem?, ha.at_ _ _ hv, Array.getD_eq_getD_getElem?, ha.at_ _ _ hx] at h1
  simp only [Option.getD_some, asAddr, Sem.run_pure, Result.andThen_ok, run_loadVar_row w g ct t cs fr d hg hu hd hi] at h1
  exact h1
theorem acK {fn : Func} {e : Exit} {S : Value → World → Prop} {p g : Nat} {t ct : TypeId} {cs : Array Value} {fr : Nat × Nat} {d : TypeDesc} (he : e = .ret ∨ e = .normal) (hr : fn.results = #[.cell p t]) (hv : look L p = some (.pointer (some ⟨g, 0, none⟩)))
    (hu : P.underlying t = some d) (hd : (match d with | .struct _ | .array _ _ => true | _ => false) = true) (hi : (P.info? t).map (·.size) = some cs.size) (hg : w.heap[g]? = some (.cells cs ct fr)) (h : S (.agg cs) w) (hds : N.ds = [] := by rfl) :
    WQ N (oD P fn S) e L w := sS he (QA hr hv hu hd hi hg) h hds
theorem pX {fn : Func} {e : Exit} {S : Value → World → Prop} {p u g : Nat} {t ct : TypeId} {x : Value} {cs : Array Value} {fr : Nat × Nat} {d : TypeDesc} (he : e = .ret ∨ e = .normal) (hr : fn.results = #[.cell p t, .tmp u]) (hv : look L p = some (.pointer (some ⟨g, 0, none⟩))) (hx : look L u = some x)
    (hu : P.underlying t = some d) (hd : (match d with | .struct _ | .array _ _ => true | _ => false) = true) (hi : (P.info? t).map (·.size) = some cs.size) (hg : w.heap[g]? = some (.cells cs ct fr)) (h : S (.tuple #[.agg cs, x]) w) (hds : N.ds = [] := by rfl) :
    WQ N (oD P fn S) e L w := sS he (XH hr hv hx hu hd hi hg) h hds
def QB : TypeDesc → Bool
  | .struct _ => true
  | .array _ _ => true
  | _ => false
theorem Px {t : TypeId} {d : TypeDesc} (h : P.underlying t = some d) (hd : QB d = true) : ug P t = false := by
  unfold ug; rw [h]; cases d <;> simp_all [QB]
theorem pY {t : TypeId} {d : TypeDesc} {b n : Nat} (o : Nat) {cs : Array Value} {xs : List Value} {et : TypeId} {fr : Nat × Nat} {x : Operand} (hu : P.underlying t = some d) (hd : QB d = true) (hs : ∀ w, (sizeOf t).run P w = .ok n w)
    (hn : xs.length = n) (hx : ev L x = some (.pointer (some ⟨b, o, none⟩))) (hb : w.heap[b]? = some (.cells cs et fr)) (hxs : (cs.toList.drop o).take n = xs) : Val P L (.load t x) ty w (.agg xs.toArray) w :=
  CZ (by rw [hu]; rfl) (Px hu hd) hs hn hx (fun j u hj => kS hb (by
    rw [← hxs, List.getElem?_take] at hj
    split at hj
    · rw [List.getElem?_drop] at hj; simpa using hj
    · cases hj))
theorem gB {t : TypeId} {b : Nat} (o : Nat) {l l' : List Value} {et : TypeId} {u : Value} {x y : Operand} (H : V w0 w (eP b (.cells l.toArray et (0, 0)) • F)) (hs : ∀ w, (sizeOf t).run P w = .ok 1 w) (hx : ev L x = some (.pointer (some ⟨b, o, none⟩))) (hy : ev L y = some u) (h1 : u.oneCell' = true)
    (ho : Nat.ble (o + 1) l.length = true) (hl : l.set o u = l') : xU P L (.store t x y) ty w fun _ w' => V w0 w' (eP b (.cells l'.toArray et (0, 0)) • F) := by
  subst hl
  refine (kH H hs hx hy h1 (by have := Nat.le_of_ble_eq_true ho; simp; omega)).mono fun v w' H' => ?_
  simpa using H'
theorem dG {t : TypeId} {b n : Nat} (o : Nat) {l l' : List Value} {et : TypeId} {us : List Value} {x y : Operand} (H : V w0 w (eP b (.cells l.toArray et (0, 0)) • F)) (hs : ∀ w, (sizeOf t).run P w = .ok n w) (hx : ev L x = some (.pointer (some ⟨b, o, none⟩))) (hy : ev L y = some (.agg us.toArray)) (hn : us.length = n) (h1 : ∀ u ∈ us, u.oneCell' = true)
    (ho : Nat.ble (o + us.length) l.length = true) (hl : l.take o ++ us ++ l.drop (o + us.length) = l') : xU P L (.store t x y) ty w fun _ w' => V w0 w' (eP b (.cells l'.toArray et (0, 0)) • F) := by
  subst hl
  subst hn
  have ho' := Nat.le_of_ble_eq_true ho
  have hst := run_storeCells_at P b o et us 0 l.toArray w H.get.2 (by simpa using ho') h1
  refine LC (w' := w.setRow b (l.take o ++ us ++ l.drop (o + us.length)).toArray) ?_ (H.turn rfl rfl rfl (by simp [World.setRow]) (setRow_heap _ _ _ _ _ _ H.get.2) fun k hk _ => setRow_other _ _ _ _ hk)
  intro ρ hρ d pos qK g
  simp at hst
  simp [execOp, hρ _ _ hx, hρ _ _ hy, Instr.storeAt, Instr.sureAddr, storeVar, hs, Value.cells, hst]
theorem iR {t : TypeId} {z : Value} {l : List Value} (H : V w0 w F) (hz : ∀ w, (zeroValue t).run P w = .ok z w) (hl : z.cells = l.toArray) : xU P L (.alloc t) ty w fun v w' => ∃ b, v = .pointer (some ⟨b, 0, none⟩) ∧ V w0 w' (eP b (.cells l.toArray t (0, 0)) • F) := by
  have := Bg (L := L) (ty := ty) H hz
  rwa [hl] at this
theorem jF {t : TypeId} {v : Value} {x : Operand} {l : List Value} (H : V w0 w F) (hx : ev L x = some v) (hl : v.cells = l.toArray) : xU P L (.box t x) ty w fun u w' => ∃ b, u = .pointer (some ⟨b, 0, none⟩) ∧ V w0 w' (eP b (.cells l.toArray t (0, 0)) • F) := by
  have := XF (P := P) (t := t) (ty := ty) H hx
  rwa [hl] at this
theorem mM {t e n : Nat} {k : IntKind} {ps : List (Nat × Operand)} {l : List Int} {z : Value} (H : V w0 w F) (ht : P.underlying t = some (.slice e)) (hs : ∀ w, (sizeOf e).run P w = .ok 1 w) (hz : ∀ w, (zeroValue e).run P w = .ok z w) (hz1 : z.cells.size = 1)
    (hp : evp L ps = some (placed 0 (l.map (Value.int k)))) (hn : l.length = n) (aak : n ≤ 16777216) :
    xU P L (.buildSlice t n ps.toArray) ty w fun v w' => V w0 w' (jw e k v l • F) := by
  subst hn
  exact lW H ht hs hz hz1 hp (by simp) aak (Hl _ _)
theorem fJ.pos {k : IntKind} {a : Option Addr} {n c : Nat} {l : List Int} (h : fJ w k (.slice a n c) l) (hp : 0 < l.length) : ∃ b o, a = some ⟨b, o, none⟩ := by
  obtain ⟨a', c', e, _, _, hh⟩ := h.open
  cases e
  obtain ⟨b, o, e, _⟩ := hh hp
  exact ⟨b, o, e⟩
theorem fJ.xH {k : IntKind} {b o n c : Nat} {l : List Int} {i : Int} (h : fJ w k (.slice (some ⟨b, o, none⟩) n c) l) (hi : 0 ≤ i ∧ i < l.length) : w.cell? ⟨b, o + i.toNat * 1, none⟩ = some (.int k (l.getD i.toNat 0)) := by
  obtain ⟨a', c', e, _, _, hh⟩ := h.open
  cases e
  obtain ⟨b', o', e, hc⟩ := hh (by omega)
  cases e
  rw [Nat.mul_one]
  exact hc _ (by omega)
theorem fJ.lX {k : IntKind} {b o n c i : Nat} {l : List Int} (h : fJ w k (.slice (some ⟨b, o, none⟩) n c) l) (hi : i < l.length) : w.cell? ⟨b, o + (i : Int).toNat * 1, none⟩ = some (.int k (l.getD i 0)) := by
  have := h.xH (i := i) (by omega)
  rwa [Int.toNat_natCast] at this ⊢
theorem V.Ho {e : TypeId} {k : IntKind} (h : V w0 w F) (a : Option Addr) : V w0 w (jw e k (.slice a 0 0) [] • F) := h.jO a
theorem fJ.rW {k : IntKind} {v : Value} {l : List Int} (h : fJ w k v l) (hp : 0 < l.length) : ∃ b o c, v = .slice (some ⟨b, o, none⟩) l.length c := by
  obtain ⟨a, c, rfl, _, _, hh⟩ := h.open
  obtain ⟨b, o, rfl, _⟩ := hh hp
  exact ⟨b, o, c, rfl⟩
theorem Rd.rW {sz n : Nat} {v : Value} {xs : List Value} (h : Rd w sz v n xs) (hp : 0 < n) : ∃ b o c, v = .slice (some ⟨b, o, none⟩) n c := by
  obtain ⟨_, a, c, rfl, _, _, hh⟩ := h
  obtain ⟨b, o, rfl, _⟩ := hh hp
  exact ⟨b, o, c, rfl⟩
theorem iT {t e : TypeId} {x : Operand} {v : Value} {k : IntKind} {l : List Int} (hr : fJ w k v l) (ht : P.underlying t = some (.slice e)) (hx : ev L x = some v) {w1 : World} : Val P L (.call ⟨.builtin .len, #[x], #[t]⟩) ty w1 (.int .i64 l.length) w1 := by
  obtain ⟨a, c, rfl, _⟩ := hr.open
  exact jH ht hx
theorem kX {t e sz n : Nat} {x : Operand} {v : Value} {xs : List Value} (hr : Rd w sz v n xs) (ht : P.underlying t = some (.slice e)) (hx : ev L x = some v) {w1 : World} : Val P L (.call ⟨.builtin .len, #[x], #[t]⟩) ty w1 (.int .i64 n) w1 := by
  obtain ⟨_, a, c, rfl, _⟩ := hr
  exact jH ht hx
theorem oO {t e s n sz : Nat} {x : Operand} {lo hi : Option Operand} {v : Value} {xs : List Value} {l h : Int} (hr : Rd w sz v n xs) (ht : P.underlying t = some (.slice e)) (hs : ∀ w, (sizeOf e).run P w = .ok s w) (hx : ev L x = some v)
    (hl : (match lo with | none => some (Value.int .i64 0) | some o => ev L o) = some (.int .i64 l)) (hh : (match hi with | none => some (Value.int .i64 n) | some o => ev L o) = some (.int .i64 h)) (h0 : 0 ≤ l ∧ l ≤ h ∧ h ≤ n) {w1 : World} :
    Val P L (.slice t x lo hi none) ty w1 (sV s l.toNat h.toNat v) w1 := by
  obtain ⟨_, a, c, rfl, hc, _⟩ := hr
  exact yx ht hs hx hl hh (by omega)
theorem Rd.xJ {b o n c n' : Nat} {xs : List Value} (h : Rd w 1 (.slice (some ⟨b, o, none⟩) n c) n' xs) (hi : 0 < n') : w.cell? ⟨b, o + (0 : Int).toNat * 1, none⟩ = some (xs.getD 0 undef) := by
  obtain ⟨_, a', c', e, _, _, hh⟩ := h
  cases e
  obtain ⟨b', o', e, hc⟩ := hh (by omega)
  cases e
  exact hc 0 (by omega)
theorem fJ.xJ {k : IntKind} {b o n c : Nat} {l : List Int} (h : fJ w k (.slice (some ⟨b, o, none⟩) n c) l) (hi : 0 < l.length) : w.cell? ⟨b, o + (0 : Int).toNat * 1, none⟩ = some (.int k (l.getD 0 0)) := by
  obtain ⟨a', c', e, _, _, hh⟩ := h.open
  cases e
  obtain ⟨b', o', e, hc⟩ := hh hi
  cases e
  exact hc 0 hi
theorem Rd.pos {sz n c n' : Nat} {a : Option Addr} {xs : List Value} (h : Rd w sz (.slice a n c) n' xs) (hp : 0 < n') : ∃ b o, a = some ⟨b, o, none⟩ := by
  obtain ⟨_, a', c', e, _, _, hh⟩ := h
  cases e
  obtain ⟨b, o, e, _⟩ := hh hp
  exact ⟨b, o, e⟩
theorem Rd.lX {b o n c i n' : Nat} {xs : List Value} (h : Rd w 1 (.slice (some ⟨b, o, none⟩) n c) n' xs) (hi : i < n') : w.cell? ⟨b, o + (i : Int).toNat * 1, none⟩ = some (xs.getD i undef) := by
  obtain ⟨_, a', c', e, _, _, hh⟩ := h
  cases e
  obtain ⟨b', o', e, hc⟩ := hh (by omega)
  cases e
  rw [Nat.mul_one, Int.toNat_natCast]
  exact hc _ (by omega)
theorem Rd.xH {b o n c n' : Nat} {i : Int} {xs : List Value} (h : Rd w 1 (.slice (some ⟨b, o, none⟩) n c) n' xs) (hi : 0 ≤ i ∧ i < n') : w.cell? ⟨b, o + i.toNat * 1, none⟩ = some (xs.getD i.toNat undef) := by
  have := h.lX (i := i.toNat) (by omega)
  rwa [Int.toNat_natCast] at this
theorem Rd.atS {b o n c i n' sz off : Nat} {xs : List Value} (h : Rd w sz (.slice (some ⟨b, o, none⟩) n c) n' xs) (hi : i < n') (ho : off < sz) : w.cell? ⟨b, o + (i : Int).toNat * sz + off, none⟩ = some (xs.getD (i * sz + off) undef) := by
  have hlt : i * sz + off < n' * sz := Nat.lt_of_lt_of_le (by omega : i * sz + off < i * sz + sz) (by rw [← Nat.succ_mul]; exact Nat.mul_le_mul_right _ hi)
  obtain ⟨_, a', c', e, _, _, hh⟩ := h
  cases e
  obtain ⟨b', o', e, hc⟩ := hh (by omega)
  cases e
  rw [Int.toNat_natCast, Nat.add_assoc]
  exact hc _ hlt
theorem JE {t e bytes : Nat} {k kl kc : IntKind} {x y : Operand} {n : Int} (H : V w0 w F) (ht : P.underlying t = some (.slice e)) (hi : (P.info? e).map (fun i => (i.zero, i.size, i.bytes)) = some (some (.int k 0), 1, bytes))
    (hx : ev L x = some (.int kl n)) (hy : ev L y = some (.int kc n)) (h0 : 0 ≤ n) (hb : n.toNat * bytes ≤ 281474976710656) (h63 : n ≤ 9223372036854775807) :
    xU P L (.makeSlice t x y) ty w fun v w' => V w0 w' (jw e k v (List.replicate n.toNat 0) • F) := by
  obtain ⟨i, hi1, hi2⟩ := Option.map_eq_some_iff.1 hi
  simp only [Prod.mk.injEq] at hi2
  obtain ⟨hz1, hs1, hb1⟩ := hi2
  have hb' : (i.bytes : Int) * n ≤ 281474976710656 := by
    have h : ((i.bytes * n.toNat : Nat) : Int) ≤ 281474976710656 := by rw [hb1, Nat.mul_comm]; omega
    rw [Int.natCast_mul, Int.toNat_of_nonneg h0] at h
    exact h
  have hr := run_make (P := P) w t e i (.int k 0) ht hi1 hz1 kl kc n n h0 (Int.le_refl _) hb' h63
  refine vJ (v := .slice (some ⟨w.heap.size, 0, none⟩) n.toNat n.toNat) (w' := w.alloc (.cells (madeCells (Value.int k 0).cells (n.toNat * i.size)) e)) ?_ ?_
  · intro ρ hρ d pos qK g
    simp only [execOp, hρ _ _ hx, hρ _ _ hy]
    simp [Sem.run_bind, hr]
  · refine (H.alloc _).Ai (o := 0) (c := n.toNat) (by simp) (by simp) (by simp) (by omega) (by simp [size_madeCells, hs1]) fun j hj => ?_
    have hj' : j < n.toNat := by simpa using hj
    rw [hs1, Nat.mul_one]
    simp [madeCells, Value.cells, hj', Nat.mod_one, List.getD_eq_getElem?_getD]
def iq {α : Type _} (l : List α) (i : Nat) (ys : List α) : List α := l.take i ++ ys ++ l.drop (i + ys.length)
theorem fE {α : Type _} {l : List α} {i : Nat} {ys : List α} (h : i + ys.length ≤ l.length) : (iq l i ys).length = l.length := by simp [iq]; omega
theorem LJ (s n c : Nat) (a : Option Addr) : sV s 0 n (.slice a n c) = .slice a n c := by
  simp only [sV, DU, Nat.sub_zero, Nat.zero_mul]
  split
  · rfl
  · cases a <;> simp [Addr.add]
theorem Eb {t e ts : Nat} {k : IntKind} {x y : Operand} {v sv : Value} {l m : List Int} {i : Nat} (H : V w0 w (jw e k v l • F)) (hr : fJ w k sv m) (ht : P.underlying t = some (.slice e)) (hs : (P.info? e).map (·.size) = some 1)
    (hx : ev L x = some (sV 1 i l.length v)) (hy : ev L y = some sv) (h : i + m.length ≤ l.length) :
    xU P L (.call ⟨.builtin .copy, #[x, y], #[t, ts]⟩) ty w fun v' w' => v' = .int .i64 m.length ∧ V w0 w' (jw e k v (iq l i m) • F) := by
  have hlen := H.yw
  by_cases h0 : m.length = 0
  · obtain rfl : m = [] := List.eq_nil_of_length_eq_zero h0
    obtain ⟨a, c, hv, _⟩ := (H.aP).form
    subst hv
    obtain ⟨a2, c2, rfl, _⟩ := hr.open
    refine vJ (v := .int .i64 0) (w' := w) (rU (vs := [sV 1 i l.length (.slice a l.length c), .slice a2 0 c2]) (by simp [FV, hx, hy]) fun _ => ?_) ⟨rfl, by simpa [iq] using H⟩
    have := run_copy_none (P := P) w t ts ty e (DU a i c 1) a2 (l.length - i) (c - i) 0 c2 ht hs (by simp)
    simp only [builtin, Sem.run_bind]
    rw [show sV 1 i l.length (.slice a l.length c) = .slice (DU a i c 1) (l.length - i) (c - i) from rfl]
    simp only [List.length_nil] at *
    rw [this]
    rfl
  · rcases H.uO with ⟨a, hv, hn, hxs, H1⟩ | ⟨g, o, c, cur, hv, h2, h3, h4, h5, H1⟩
    · omega
    subst hv
    obtain ⟨a2, c2, rfl, _, _, hc⟩ := hr.open
    obtain ⟨b, o2, rfl, hcell⟩ := hc (by omega)
    have hci : ¬ c = i := by omega
    have hd : sV 1 i l.length (.slice (some ⟨g, o, none⟩) l.length c) = .slice (some ⟨g, o + i, none⟩) (l.length - i) (c - i) := by simp [sV, DU, hci, vw]
    rw [hd] at hx
    have hrun := run_copy_row (P := P) w t ts ty e g (o + i) (l.length - i) (c - i) ⟨b, o2, none⟩ m.length c2 cur e (m.map (Value.int k)) ht hs H1.get.2 (by rw [List.length_map]; exact (Nat.min_eq_left (by omega)).symm) (fun j u hj => by
      have hj' : j < m.length := by have := (List.getElem?_eq_some_iff.1 hj).1; simpa using this
      rw [vw, hcell j hj']
      simp [hj'] at hj
      rw [← hj, List.getD_eq_getElem?_getD, List.getElem?_eq_getElem hj']; rfl) (by simp; omega) (Hl _ _)
    refine vJ (v := .int .i64 m.length) (w' := w.setRow g (cur.toList.take (o + i) ++ m.map (Value.int k) ++ cur.toList.drop (o + i + (m.map (Value.int k)).length)).toArray)
      (rU (vs := [.slice (some ⟨g, o + i, none⟩) (l.length - i) (c - i), .slice (some ⟨b, o2, none⟩) m.length c2]) (by simp [FV, hx, hy]) fun _ => ?_) ⟨rfl, ?_⟩
    · simp only [builtin, Sem.run_bind]
      rw [hrun]
      simp [goInt]
    · have HT := H1.turn (w' := w.setRow g (cur.toList.take (o + i) ++ m.map (Value.int k) ++ cur.toList.drop (o + i + (m.map (Value.int k)).length)).toArray) (o' := .cells (cur.toList.take (o + i) ++ m.map (Value.int k) ++ cur.toList.drop (o + i + (m.map (Value.int k)).length)).toArray e (0, 0)) rfl rfl rfl (by simp [World.setRow]) (setRow_heap _ _ _ _ _ _ H1.get.2) fun k hk _ => setRow_other _ _ _ _ hk
      have hsp : (iq l i m).length = l.length := fE h
      unfold jw
      rw [hsp]
      refine HT.Ai (by simp [hsp]) rfl h2 h3 (by simp; omega) fun j hj => ?_
      have hj' : j < l.length := by simpa using hj
      have h5' := h5 j hj
      simp only [List.getElem?_toArray, List.length_map]
      by_cases h6 : j < i
      · rw [List.append_assoc, List.getElem?_append_left (by simp; omega), List.getElem?_take_of_lt (by omega), Array.getElem?_toList, h5']
        simp only [List.getD_eq_getElem?_getD, List.getElem?_map]
        simp only [iq, List.append_assoc]
        rw [List.getElem?_append_left (by simp; omega), List.getElem?_take_of_lt h6]
      · by_cases h7 : j < i + m.length
        · rw [List.getElem?_append_left (by simp; omega), List.getElem?_append_right (by simp; omega)]
          simp only [List.getD_eq_getElem?_getD, List.getElem?_map, iq]
          rw [List.getElem?_append_left (by simp; omega), List.getElem?_append_right (by simp; omega)]
          simp only [List.length_take, Array.length_toList, show min (o + i) cur.size = o + i from by omega, show min i l.length = i from by omega, show o + j - (o + i) = j - i from by omega]
          rw [List.getElem?_eq_getElem (by omega)]
          rfl
        · rw [List.getElem?_append_right (by simp; omega), List.getElem?_drop]
          simp only [List.getD_eq_getElem?_getD, List.getElem?_map, iq]
          rw [List.getElem?_append_right (by simp; omega), List.getElem?_drop]
          simp only [List.length_append, List.length_map, List.length_take, Array.length_toList, show min (o + i) cur.size = o + i from by omega, show min i l.length = i from by omega]
          rw [show o + i + m.length + (o + j - (o + i + m.length)) = o + j from by omega, Array.getElem?_toList, h5', show i + m.length + (j - (i + m.length)) = j from by omega]
          simp [List.getD_eq_getElem?_getD]
theorem SL {src dst e : TypeId} {x : Operand} {s : ByteArray} {l : List Int} (H : V w0 w F) (hs : P.underlying src = some .string) (hd : P.underlying dst = some (.slice e)) (he : P.underlying e = some (.int .i32)) (hx : ev L x = some (.string s))
    (hl : Conv.runesFrom s s.size 0 #[] = (l.map (Value.int .i32)).toArray) (hb : l.length ≤ 70368744177664) : xU P L (.convert src dst x) ty w fun v w' => V w0 w' (jw e .i32 v l • F) := by
  have hsz : (Conv.runesFrom s s.size 0 #[]).size = l.length := by rw [hl]; simp
  have hr := run_runes_of_string (P := P) w src dst e s hs hd he (by rw [hsz]; exact hb)
  have hge := grownCap_ge w l.length 0 e
  rw [hsz, hl] at hr
  refine vJ (v := .slice (some ⟨w.heap.size, 0, none⟩) l.length (grownCap w l.length 0 e)) (w' := w.drew.alloc (.cells ((l.map (Value.int .i32)).toArray ++ Array.replicate (grownCap w l.length 0 e - l.length) (.int .i32 0)) e)) ?_ ?_
  · intro ρ hρ d pos qK g
    simp only [execOp, hρ _ _ hx]
    simp [Sem.run_bind, hr]
  · refine (H.drew.alloc _).Ai (o := 0) (by simp) rfl hge (Ea w _ _ _ (by omega)) (by simp; omega) fun j hj => ?_
    have hj' : j < l.length := by simpa using hj
    rw [Nat.zero_add, Array.getElem?_append_left (by simpa using hj'), List.getD_eq_getElem?_getD]
    simp [hj']
end
section
variable {P : Program} {L : List (Nat × Value)} {w0 w : World} {F : HP} {ty : TypeId}
theorem VE (l : List Value) : ∀ (i : Nat) (cells : Array Value), cells.size = i + l.length → (l.zipIdx i).foldl (fun cs (x : Value × Nat) => cs.setIfInBounds (0 + x.2) x.1) cells = (cells.toList.take i ++ l).toArray := by
  induction l with
  | nil => intro i cells hs; simp [List.take_of_length_le (show cells.toList.length ≤ i by simp; simp at hs; omega)]
  | cons v r ih =>
    intro i cells hs
    rw [List.zipIdx_cons, List.foldl_cons]
    rw [ih (i + 1) _ (by simp at hs ⊢; omega)]
    congr 1
    have hi : i < cells.toList.length := by simp at hs ⊢; omega
    rw [Array.toList_setIfInBounds, Nat.zero_add, List.take_succ_eq_append_getElem (by simpa using hi), List.take_set_of_le (Nat.le_refl _)]
    simp
theorem vK {t e sz : Nat} {x : Operand} {cs : Array Value} {z : Value} (H : V w0 w F) (ht : P.underlying t = some (.slice e)) (hs : ∀ w, (sizeOf e).run P w = .ok sz w) (hz : ∀ w, (zeroValue e).run P w = .ok z w) (hz1 : z.cells.size = sz)
    (hx : ev L x = some (.agg cs)) (hn : cs.size = sz) (h0 : 0 < sz) (aak : sz ≤ 16777216) :
    xU P L (.buildSlice t 1 #[(0, x)]) ty w fun v w' => V w0 w' (Row e sz v 1 cs.toList • F) := by
  refine vJ (v := .slice (some ⟨w.heap.size, 0, none⟩) 1 1) (w' := w.alloc (.cells cs e)) ?_ ?_
  · intro ρ hρ d pos qK g
    simp only [execOp, Instr.buildSlice, Sem.run_bind, run_underlying ht, Result.andThen_ok, hs]
    rw [if_neg (by omega), if_neg (by omega)]
    have hf : ∀ q : Array Value, q.size = sz → Instr.fill (fun i => some (i * sz, sz)) q [(0, .agg cs)] = some cs := fun q hq => by
      simp only [Instr.fill, Value.cells, hn]
      rw [if_neg (by simp [hq])]
      have := VE cs.toList 0 q (by simp [hn, hq])
      simp only [Nat.zero_mul]
      rw [← Array.foldl_toList, Array.toList_zipIdx]
      simpa using this
    have hf1 := hf ((Array.range sz).map (z.cells[· % z.cells.size]!)) (by simp)
    simp [hz, hρ _ _ hx, hf1, newRow]
  · refine (H.alloc _).Ai (by simp [hn]) rfl (Nat.le_refl _) (by omega) (by simp [hn]) fun j hj => ?_
    rw [Nat.zero_add, List.getD_eq_getElem?_getD]
    have : j < cs.size := by omega
    simp [this]
theorem aam (l : List Value) : ∀ (o i : Nat) (cells : Array Value), o + i + l.length ≤ cells.size → (l.zipIdx i).foldl (fun cs (x : Value × Nat) => cs.setIfInBounds (o + x.2) x.1) cells = (cells.toList.take (o + i) ++ l ++ cells.toList.drop (o + i + l.length)).toArray := by
  induction l with
  | nil => intro o i cells hs; simp
  | cons v r ih =>
    intro o i cells hs
    rw [List.zipIdx_cons, List.foldl_cons]
    rw [ih o (i + 1) _ (by simp at hs ⊢; omega)]
    congr 1
    simp only [List.length_cons] at hs ⊢
    have hi : o + i < cells.toList.length := by rw [Array.length_toList]; omega
    rw [Array.toList_setIfInBounds, show o + (i + 1) = o + i + 1 from by omega, List.take_succ_eq_append_getElem (by simpa using hi), List.take_set_of_le (Nat.le_refl _), List.drop_set_of_lt (by omega)]
    simp
    omega
theorem QC {t e sz n n' : Nat} {x y : Operand} {b o c : Nat} {i : Int} (off : Nat) {xs : List Value} {u : Value} (H : V w0 w (Row e sz (.slice (some ⟨b, o, none⟩) n' c) n xs • F)) (hs : ∀ w, (sizeOf t).run P w = .ok 1 w)
    (hx : ev L x = some (.pointer (some ⟨b, o + i.toNat * sz + off, none⟩))) (hy : ev L y = some u) (h1 : u.oneCell' = true) (hi : i.toNat < n) (ho : off < sz) :
    xU P L (.store t x y) ty w fun _ w' => V w0 w' (Row e sz (.slice (some ⟨b, o, none⟩) n' c) n (xs.set (i.toNat * sz + off) u) • F) := by
  have hlen := H.yw
  rcases H.uO with ⟨a, hv, hn, hxs, H1⟩ | ⟨g, o', c', cur, hv, h2, h3, h4, h5, H1⟩
  · omega
  cases hv
  have hlt : i.toNat * sz + off < n * sz := Nat.lt_of_lt_of_le (by omega : i.toNat * sz + off < i.toNat * sz + sz) (by rw [← Nat.succ_mul]; exact Nat.mul_le_mul_right _ hi)
  have hle : n * sz ≤ c * sz := Nat.mul_le_mul_right _ h2
  refine (kH H1 hs hx hy h1 (by omega)).mono fun v w' H2 => ?_
  refine H2.Ai (o := o) (by simpa using hlen) rfl h2 h3 (by simp; omega) fun q hq => ?_
  rw [Array.getElem?_setIfInBounds]
  by_cases e1 : q = i.toNat * sz + off
  · subst e1
    rw [if_pos (by omega), if_pos (by omega)]
    simp [List.getD_eq_getElem?_getD, show i.toNat * sz + off < xs.length from by omega]
  · rw [if_neg (by omega), h5 q hq]
    simp only [List.getD_eq_getElem?_getD]
    rw [List.getElem?_set_ne (by omega)]
end
section
variable {w0 w : World} {F : HP}
end
inductive Cells : Nat → Nat → List (Nat × Nat) → List Value → List (Nat × Value) → List Value → Prop
  | nil {i o : Nat} : Cells i o [] [] [] []
  | one {i o : Nat} {pl : List (Nat × Nat)} {z : List Value} {vs : List (Nat × Value)} {cs : List Value} {v zv : Value} (h : v.oneCell' = true) (k : Cells (i + 1) (o + 1) pl z vs cs) : Cells i o ((o, 1) :: pl) (zv :: z) ((i, v) :: vs) (v :: cs)
  | agg {i o m : Nat} {pl : List (Nat × Nat)} {z : List Value} {vs : List (Nat × Value)} {cs us zs : List Value} (hm : us.length = m) (hz : zs.length = m) (k : Cells (i + 1) (o + m) pl z vs cs) : Cells i o ((o, m) :: pl) (zs ++ z) ((i, .agg us.toArray) :: vs) (us ++ cs)
  | zero {i o m : Nat} {pl : List (Nat × Nat)} {z : List Value} {vs : List (Nat × Value)} {cs zs : List Value} (hz : zs.length = m) (k : Cells (i + 1) (o + m) pl z vs cs) : Cells i o ((o, m) :: pl) (zs ++ z) vs (zs ++ cs)
theorem VF {v : Value} (h : v.oneCell' = true) : v.cells = #[v] := by cases v <;> simp_all [Value.cells, Value.oneCell']
theorem Py {pl : Array (Nat × Nat)} {i o m : Nat} {v : Value} {vs : List (Nat × Value)} {pre zs us z : List Value} {R : Option (Array Value)} (hp : pl[i]? = some (o, m)) (ho : pre.length = o) (hv : v.cells = us.toArray) (hm : us.length = m) (hz : zs.length = m)
    (h : Instr.fill (fun i => pl[i]?) (pre ++ us ++ z).toArray vs = R) : Instr.fill (fun i => pl[i]?) (pre ++ (zs ++ z)).toArray ((i, v) :: vs) = R := by
  simp only [Instr.fill]
  rw [hp]
  dsimp only
  rw [hv, if_neg (by simp; omega)]
  have hfr := aam us o 0 (pre ++ (zs ++ z)).toArray (by simp; omega)
  simp only [Nat.add_zero] at hfr
  rw [← Array.foldl_toList, Array.toList_zipIdx]
  simp only [List.toList_toArray] at hfr ⊢
  rw [show (us.zipIdx.foldl (fun cs (x : Value × Nat) => cs.setIfInBounds (o + x.2) x.1) (pre ++ (zs ++ z)).toArray) = _ from hfr]
  rw [← h]
  congr 2
  subst ho
  rw [List.take_left, ← List.append_assoc pre zs z, show pre.length + us.length = (pre ++ zs).length from by simp; omega, List.drop_left]
theorem VG {i o : Nat} {pl : List (Nat × Nat)} {z cs : List Value} {vs : List (Nat × Value)} (h : Cells i o pl z vs cs) : ∀ {pp : List (Nat × Nat)} {pre : List Value}, pp.length = i → pre.length = o →
    Instr.fill (fun j => (pp ++ pl).toArray[j]?) (pre ++ z).toArray vs = some (pre ++ cs).toArray := by
  induction h with
  | nil => intro pp pre _ _; rfl
  | @one i o pl z vs cs v zv h k ih =>
    intro pp pre h1 h2
    refine Py (zs := [zv]) (us := [v]) (o := o) (m := 1) (by simp [← h1]) h2 (VF h) rfl rfl ?_
    have := ih (pp := pp ++ [(o, 1)]) (pre := pre ++ [v]) (by simp; omega) (by simp; omega)
    simpa using this
  | @agg i o m pl z vs cs us zs hm hz k ih =>
    intro pp pre h1 h2
    refine Py (zs := zs) (us := us) (o := o) (m := m) (by simp [← h1]) h2 rfl hm hz ?_
    have := ih (pp := pp ++ [(o, m)]) (pre := pre ++ us) (by simp; omega) (by simp; omega)
    simpa using this
  | @zero i o m pl z vs cs zs hz k ih =>
    intro pp pre h1 h2
    have := ih (pp := pp ++ [(o, m)]) (pre := pre ++ zs) (by simp; omega) (by simp; omega)
    simpa using this
section
variable {P : Program} {L : List (Nat × Value)} {w : World} {ty : TypeId}
theorem fU {t : TypeId} {fs : Array Field} {z : Value} {zl : List Value} {pl : List (Nat × Nat)} {ps : List (Nat × Operand)} {vs : List (Nat × Value)} {cs : List Value} (cells : List Value) (ht : P.underlying t = some (.struct fs)) (hz : ∀ w, (zeroValue t).run P w = .ok z w) (hzl : z.cells = zl.toArray)
    (hpl : ∀ w, (fs.mapM fun f => do pure (f.offset, ← sizeOf f.type) : Sem (Array (Nat × Nat))).run P w = .ok pl.toArray w) (hp : evp L ps = some vs) (hC : Cells 0 0 pl zl vs cs) (hcs : cs = cells) : Val P L (.build t ps.toArray) ty w (.agg cells.toArray) w := by
  subst hcs
  exact nP cs.toArray ht hz hpl hp (by rw [hzl]; exact VG hC (pp := []) (pre := []) rfl rfl)
end
end Go.Proofs.YtpdeedplgmbopaaGreatDoor
end
