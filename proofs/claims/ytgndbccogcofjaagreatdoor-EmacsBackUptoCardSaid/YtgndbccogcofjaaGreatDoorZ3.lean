import Derived.Test.YtgndbccogcofjaaGreatDoorZ2
import Derived.Laws.CopyRow
import Derived.Lib.AppendZeros
import Derived.ProofKit
import Derived.HandedShaped
import Derived.LaidMore
import Derived.OpenShut
import Derived.Stop.Joined
import Derived.Test.YtgndbccogcofjaaGreatDoorRows
set_option linter.unusedSimpArgs false
set_option linter.unusedVariables false
/- Texts of mine, joined, their names in short: Row Lit Lift Own. -/
section
namespace Go.Proofs.YtgndbccogcofjaaGreatDoor
open Go.RowKit
def Row (e : TypeId) (sz : Nat) (v : Value) (n : Nat) (xs : List Value) : HP where
  p := fun _ h => xs.length = n * sz ∧ ((∃ a, v = .slice a 0 0 ∧ n = 0 ∧ h = Hp.none) ∨
    ∃ g o c cur, v = .slice (some ⟨g, o, none⟩) n c ∧ n ≤ c ∧ (c : Int) ≤ 9223372036854775807 ∧ o + c * sz ≤ cur.size ∧ (∀ j, j < n * sz → cur[o + j]? = some (xs.getD j undef)) ∧ h = fun k => if k = g then some (.cells cur e (0, 0)) else none)
  mono := fun _ _ _ _ h => h
section
variable {P : Program} {w0 w : World} {A F : HP} {e : TypeId} {sz n : Nat} {v : Value} {xs : List Value}
theorem aB.zh (H : aB w0 w (Row e sz v n xs • F)) : xs.length = n * sz := by
  obtain ⟨I, x, ⟨a, b, _, _, h, _⟩, _⟩ := H.hp
  exact h.1
theorem aB.uz (H : aB w0 w (Row e sz v n xs • F)) : (∃ a, v = .slice a 0 0 ∧ n = 0 ∧ xs = [] ∧ aB w0 w F) ∨
    ∃ g o c cur, v = .slice (some ⟨g, o, none⟩) n c ∧ n ≤ c ∧ (c : Int) ≤ 9223372036854775807 ∧ o + c * sz ≤ cur.size ∧ (∀ j, j < n * sz → cur[o + j]? = some (xs.getD j undef)) ∧ aB w0 w (dH g (.cells cur e (0, 0)) • F) := by
  have hl := H.zh
  obtain ⟨I, x, ⟨a, b, hd, e, ⟨_, h⟩, hF⟩, hD, hI, hk⟩ := H.hp
  rcases h with ⟨ad, h1, h2, h3⟩ | ⟨g, o, c, cur, h1, h2, h3, h4, h5, h6⟩
  · subst h2 h3
    refine .inl ⟨ad, h1, rfl, List.eq_nil_of_length_eq_zero (by omega), H.base, I, x, ?_, hD, hI, hk⟩
    rw [e, Hp.pF]; exact hF
  · exact .inr ⟨g, o, c, cur, h1, h2, h3, h4, h5, H.base, I, x, ⟨a, b, hd, e, h6, hF⟩, hD, hI, hk⟩
theorem aB.jf (H : aB w0 w F) (a : Option Addr) : aB w0 w (Row e sz (.slice a 0 0) 0 [] • F) := by
  refine H.BZ.ES (GI.left ?_ F)
  rintro I h rfl
  exact ⟨by simp, .inl ⟨a, rfl, rfl, rfl⟩⟩
theorem aB.vJ {g o c : Nat} {cur : Array Value} (H : aB w0 w (dH g (.cells cur e (0, 0)) • F)) (hl : xs.length = n * sz) (hv : v = .slice (some ⟨g, o, none⟩) n c) (hn : n ≤ c) (hc : (c : Int) ≤ 9223372036854775807) (hs : o + c * sz ≤ cur.size)
    (hx : ∀ j, j < n * sz → cur[o + j]? = some (xs.getD j undef)) : aB w0 w (Row e sz v n xs • F) := by
  refine H.ES (GI.left ?_ F)
  intro I h hh
  exact ⟨hl, .inr ⟨g, o, c, cur, hv, hn, hc, hs, hx, hh⟩⟩
theorem aB.aS (H : aB w0 w (Row e sz v n xs • F)) : Rd w sz v n xs := by
  have hl := H.zh
  rcases H.uz with ⟨a, rfl, rfl, rfl, H1⟩ | ⟨g, o, c, cur, rfl, h2, h3, h4, h5, H1⟩
  · exact ⟨hl, a, 0, rfl, by omega, by omega, fun h => by omega⟩
  · refine ⟨hl, _, c, rfl, h2, h3, fun _ => ⟨g, o, rfl, fun j hj => gK H1.get.2 (h5 j hj)⟩⟩
theorem Rd.cells (h : Rd w sz v n xs) : ∃ a c, v = .slice a n c ∧ n ≤ c ∧ (c : Int) ≤ 9223372036854775807 ∧ (Builtin.firstCells sz n v).run P w = .ok xs.toArray w := by
  obtain ⟨hl, a, c, rfl, h1, h2, h3⟩ := h
  refine ⟨a, c, rfl, h1, h2, ?_⟩
  cases a with
  | none =>
    have : n = 0 := by
      rcases Nat.eq_zero_or_pos n with h | h
      · exact h
      · obtain ⟨b, o, e, _⟩ := h3 h; cases e
    subst this
    have hx : xs = [] := List.eq_nil_of_length_eq_zero (by omega)
    subst hx
    exact run_firstCells_none w sz 0 0 c
  | some a =>
    refine run_firstCells_some w sz n a n c xs hl fun j v hj => ?_
    have hj' : j < xs.length := by
      rcases Nat.lt_or_ge j xs.length with h | h
      · exact h
      · rw [List.getElem?_eq_none h] at hj; cases hj
    have hn : 0 < n := by
      rcases Nat.eq_zero_or_pos n with h | h
      · subst h; omega
      · exact h
    obtain ⟨b, o, e, hc⟩ := h3 hn
    cases e
    rw [qP, hc j (by omega)]
    simp [List.getD_eq_getElem?_getD, hj]
theorem Ac {t ty : TypeId} {i : TypeInfo} {z : Value} (ht : P.underlying t = some (.slice e)) (hi : P.info? e = some i) (hz : i.zero = some z) (hs : i.size = sz)
    {x : Value} {m : Nat} {ys : List Value} {a1 : Option Addr} {c1 : Nat} (hv : Rd w sz (.slice a1 n c1) n xs) (hx : Rd w sz x m ys)
    (hg : c1 < n + m) (h63 : ((n + m : Nat) : Int) ≤ 9223372036854775807) (hfit : Builtin.nextslicecap (n + m) c1 * i.bytes ≤ 281474976710656) :
    (Builtin.append_ #[t, t] ty #[.slice a1 n c1, x]).run P w = .ok (.slice (some ⟨w.heap.size, 0, none⟩) (n + m) (grownCap w (n + m) c1 e))
      (w.drew.alloc (.cells (xs.toArray ++ ys.toArray ++ Builtin.zeroCells z.cells (grownCap w (n + m) c1 e - (n + m))) e)) := by
  have hn : ¬ (n + m ≤ c1) := by omega
  have h63' : ¬ (9223372036854775807 < ((n : Int) + (m : Int))) := by omega
  have h48' : ¬ (281474976710656 < Builtin.nextslicecap (n + m) c1 * i.bytes) := by omega
  have hv' : Rd w.drew sz (.slice a1 n c1) n xs := ⟨hv.len, hv.form⟩
  have hx' : Rd w.drew sz x m ys := ⟨hx.len, hx.form⟩
  obtain ⟨_, _, _, _, _, hfo⟩ := hv'.cells (P := P)
  obtain ⟨a2, c2, rfl, _, _, hf⟩ := hx'.cells (P := P)
  subst hs
  simp [Builtin.append_, run_underlying ht, sizeOf, typeInfo, zeroValue, hi, hz, Builtin.lenOf, hn, h63', h48', Question.forced, hf, hfo, newRow, grownCap]
  congr 2
  apply Array.ext'
  simp [List.append_assoc]
theorem wL (w : World) (need old : Nat) (e : TypeId) (h : (need : Int) ≤ 9223372036854775807) : (grownCap w need old e : Int) ≤ 9223372036854775807 := by
  have h0 : grownCap w need old e = need + w.tape w.drawn (.appendCap need old e) % (2 ^ 63 - need) := rfl
  have h1 : w.tape w.drawn (.appendCap need old e) % (2 ^ 63 - need) < 2 ^ 63 - need := Nat.mod_lt _ (by omega)
  rw [h0]
  omega
theorem iR {L : List (Nat × Value)} {ty t : TypeId} {s x : Operand} {xv : Value} {m bytes : Nat} {ys : List Value} {z : Value} (H : aB w0 w (Row e sz v n xs • F)) (ht : P.underlying t = some (.slice e))
    (hi : (P.info? e).map (fun i => (i.zero, i.size, i.bytes)) = some (some z, sz, bytes)) (hz : z.cells.size = sz) (hsv : ev L s = some v) (hxv : ev L x = some xv) (hx : Rd w sz xv m ys) (h1 : ∀ u ∈ ys, u.oneCell' = true)
    (h63 : ((n + m : Nat) : Int) ≤ 9223372036854775807) (hb : (n + m) * bytes ≤ 140737488355328) :
    rM P L (.call ⟨.builtin .append, #[s, x], #[t, t]⟩) ty w fun v' w' => aB w0 w' (Row e sz v' (n + m) (xs ++ ys) • F) := by
  obtain ⟨i, hi1, hi2⟩ := Option.map_eq_some_iff.1 hi
  simp only [Prod.mk.injEq] at hi2
  obtain ⟨hz1, hs1, hb1⟩ := hi2
  subst hb1
  have hv := H.aS
  have hlen : (xs ++ ys).length = (n + m) * sz := by rw [List.length_append, hv.len, hx.len, Nat.add_mul]
  obtain ⟨a1, c1, rfl, hc1, hc2, _⟩ := hv.form
  by_cases hg : c1 < n + m
  · refine oW (v := .slice (some ⟨w.heap.size, 0, none⟩) (n + m) (grownCap w (n + m) c1 e)) (w' := w.drew.alloc (.cells (xs.toArray ++ ys.toArray ++ Builtin.zeroCells z.cells (grownCap w (n + m) c1 e - (n + m))) e))
      (kZ (vs := [.slice a1 n c1, xv]) (by simp [yZ, hsv, hxv]) fun _ => ?_) ?_
    · simp only [builtin, Sem.run_bind]
      rw [Ac ht hi1 hz1 hs1 hv hx hg h63 (growslice_fits hg hb)]
      rfl
    · have hge := grownCap_ge w (n + m) c1 e
      refine (H.right.drew.alloc _).vJ hlen rfl hge (wL w _ _ _ h63) ?_ fun j hj => ?_
      · simp only [Array.size_append, List.size_toArray, size_zeroCells, hz, hv.len, hx.len, ← Nat.add_mul]
        rw [Nat.zero_add, show n + m + (grownCap w (n + m) c1 e - (n + m)) = grownCap w (n + m) c1 e from by omega]
        exact Nat.le_refl _
      · have hj' : j < (xs ++ ys).length := by omega
        have e1 : (xs.toArray ++ ys.toArray : Array Value) = (xs ++ ys).toArray := by simp
        rw [Nat.zero_add, e1, Array.getElem?_append_left (by simpa using hj'), List.getElem?_toArray, List.getD_eq_getElem?_getD, List.getElem?_eq_getElem hj']
        rfl
  · obtain ⟨a2, c2, rfl, _, _, hf⟩ := hx.cells (P := P)
    have hroom : n + m ≤ c1 := by omega
    rcases H.uz with ⟨a, he, rfl, rfl, H1⟩ | ⟨g, o, c, cur, he, h2, h3, h4, h5, H1⟩
    · cases he
      have hm : m = 0 := by omega
      subst hm
      have hy : ys = [] := List.eq_nil_of_length_eq_zero (by have := hx.len; omega)
      subst hy
      refine oW (v := .slice a1 0 0) (w' := w) (kZ (vs := [.slice a1 0 0, .slice a2 0 c2]) (by simp [yZ, hsv, hxv]) fun _ => ?_) ?_
      · simp only [builtin, Sem.run_bind]
        have : (Builtin.append_ #[t, t] ty #[.slice a1 0 0, .slice a2 0 c2]).run P w = .ok (.slice a1 0 0) w := by
          subst hs1
          cases a1 <;> simp [Builtin.append_, run_underlying ht, sizeOf, typeInfo, hi1, Builtin.lenOf, hf, storeCells]
        rw [this]; rfl
      · simpa using H1.jf a1
    · cases he
      have hfit : o + n * sz + ys.length ≤ cur.size := by rw [hx.len, Nat.add_assoc, ← Nat.add_mul]; exact Nat.le_trans (Nat.add_le_add_left (Nat.mul_le_mul_right _ hroom) _) h4
      have hst := run_storeCells_at P g (o + n * sz) e ys 0 cur w H1.get.2 (by simpa using hfit) h1
      simp only [Nat.add_zero] at hst
      refine oW (v := .slice (some ⟨g, o, none⟩) (n + m) c1) (w' := w.setRow g (cur.toList.take (o + n * sz) ++ ys ++ cur.toList.drop (o + n * sz + ys.length)).toArray) (kZ (vs := [.slice (some ⟨g, o, none⟩) n c1, .slice a2 m c2]) (by simp [yZ, hsv, hxv]) fun _ => ?_) ?_
      · simp only [builtin, Sem.run_bind]
        have : (Builtin.append_ #[t, t] ty #[.slice (some ⟨g, o, none⟩) n c1, .slice a2 m c2]).run P w = .ok (.slice (some ⟨g, o, none⟩) (n + m) c1) (w.setRow g (cur.toList.take (o + n * sz) ++ ys ++ cur.toList.drop (o + n * sz + ys.length)).toArray) := by
          subst hs1
          simp [Builtin.append_, run_underlying ht, sizeOf, typeInfo, hi1, Builtin.lenOf, hf, hroom, qP, hst]
        rw [this]; rfl
      · have H2 : aB w0 (w.setRow g (cur.toList.take (o + n * sz) ++ ys ++ cur.toList.drop (o + n * sz + ys.length)).toArray) (dH g (.cells (cur.toList.take (o + n * sz) ++ ys ++ cur.toList.drop (o + n * sz + ys.length)).toArray e (0, 0)) • F) :=
          H1.turn rfl rfl rfl (by simp [World.setRow]) (setRow_heap _ _ _ _ _ _ H1.get.2) fun k hk _ => setRow_other _ _ _ _ hk
        have hmin : (cur.toList.take (o + n * sz)).length = o + n * sz := by simp; omega
        refine H2.vJ hlen rfl hroom hc2 ?_ fun j hj => ?_
        · simp; omega
        · rw [List.getElem?_toArray, List.append_assoc]
          have hl := hv.len
          by_cases hjn : j < n * sz
          · rw [List.getElem?_append_left (by omega), List.getElem?_take, if_pos (by omega)]
            have := h5 j hjn
            rw [Array.getElem?_toList, this, List.getD_eq_getElem?_getD, List.getD_eq_getElem?_getD, List.getElem?_append_left (by omega)]
          · rw [List.getElem?_append_right (by omega), hmin, show o + j - (o + n * sz) = j - xs.length from by omega, List.getElem?_append_left (by have := hx.len; rw [Nat.add_mul] at hj; omega), List.getD_eq_getElem?_getD, List.getElem?_append_right (by omega),
              List.getElem?_eq_getElem (by have := hx.len; rw [Nat.add_mul] at hj; omega)]
            rfl
end
end Go.Proofs.YtgndbccogcofjaaGreatDoor
end
section
namespace Go.Proofs.YtgndbccogcofjaaGreatDoor
open Go.RowKit
def KF (w0 : World) (F : HP) (sz : Nat) (v : Value) (n : Nat) (xs : List Value) : Prop := ∀ W, aB w0 W F → Rd W sz v n xs
def iI (w0 : World) (F : HP) (k : IntKind) (v : Value) (l : List Int) : Prop := ∀ W, aB w0 W F → iw W k v l
abbrev gW (e : TypeId) (k : IntKind) (v : Value) (l : List Int) : HP := Row e 1 v l.length (l.map (Value.int k))
theorem iI.Ja {w0 : World} {k : IntKind} {v : Value} {l : List Int} (h : iw w0 k v l) (F : HP) : iI w0 F k v l := fun W H => aB.rd H h
theorem KF.Ja {w0 : World} {sz : Nat} {v : Value} {n : Nat} {xs : List Value} (h : Rd w0 sz v n xs) (F : HP) : KF w0 F sz v n xs := fun W H => aB.rd H h
theorem iI.under {w0 : World} {F A : HP} {k : IntKind} {v : Value} {l : List Int} (h : iI w0 F k v l) : iI w0 (A • F) k v l := fun W H => h W H.right
theorem KF.under {w0 : World} {F A : HP} {sz : Nat} {v : Value} {n : Nat} {xs : List Value} (h : KF w0 F sz v n xs) : KF w0 (A • F) sz v n xs := fun W H => h W H.right
theorem CY (k : IntKind) (l : List Int) : ∀ u ∈ l.map (Value.int k), u.oneCell' = true := by
  intro u hu; obtain ⟨x, _, rfl⟩ := List.mem_map.1 hu; rfl
theorem iw.nil (w : World) (k : IntKind) (a : Option Addr) (c : Nat) (hc : (c : Int) ≤ 9223372036854775807) : iw w k (.slice a 0 c) [] := ⟨by simp, a, c, rfl, by simp, hc, fun h => by simp at h⟩
theorem Rd.KR {w : World} {sz : Nat} {v : Value} {n : Nat} {xs : List Value} (h : Rd w sz v n xs) : ∃ a c, v = .slice a n c := let ⟨a, c, e, _⟩ := h.form; ⟨a, c, e⟩
theorem Rd.one {w : World} {sz : Nat} {v : Value} {n : Nat} {xs : List Value} (h : Rd w sz v n xs) : v.oneCell' = true := by obtain ⟨a, c, rfl⟩ := h.KR; rfl
theorem KF.cell {w0 W : World} {F : HP} {sz n c : Nat} {a : Option Addr} {xs : List Value} (h : KF w0 F sz (.slice a n c) n xs) (H : aB w0 W F) {j : Nat} (hj : j < n * sz) : ∃ b o, a = some ⟨b, o, none⟩ ∧ W.cell? ⟨b, o + j, none⟩ = some (xs.getD j undef) := by
  obtain ⟨_, a', c', e, _, _, hc⟩ := h W H
  cases e
  obtain ⟨b, o, e, hc⟩ := hc (by rcases Nat.eq_zero_or_pos n with h | h; (subst h; omega); exact h)
  exact ⟨b, o, e, hc j hj⟩
theorem iI.cell {w0 W : World} {F : HP} {k : IntKind} {n c : Nat} {a : Option Addr} {l : List Int} (h : iI w0 F k (.slice a n c) l) (H : aB w0 W F) {j : Nat} (hj : j < l.length) : ∃ b o, a = some ⟨b, o, none⟩ ∧ W.cell? ⟨b, o + j, none⟩ = some (.int k (l.getD j 0)) := by
  obtain ⟨a', c', e, _, _, hc⟩ := (h W H).open
  cases e
  obtain ⟨b, o, e, hc⟩ := hc (by omega)
  exact ⟨b, o, e, hc j hj⟩
theorem iw.cell {W : World} {k : IntKind} {n c : Nat} {a : Option Addr} {l : List Int} (h : iw W k (.slice a n c) l) {j : Nat} (hj : j < l.length) : ∃ b o, a = some ⟨b, o, none⟩ ∧ W.cell? ⟨b, o + j, none⟩ = some (.int k (l.getD j 0)) := by
  obtain ⟨a', c', e, _, _, hc⟩ := h.open
  cases e
  obtain ⟨b, o, e, hc⟩ := hc (by omega)
  exact ⟨b, o, e, hc j hj⟩
theorem xC {α : Type} (ls : List (List α)) {k : Nat} (h : k < ls.length) : (ls.take (k + 1)).flatten = (ls.take k).flatten ++ ls.getD k [] := by
  rw [List.take_succ_eq_append_getElem h, List.flatten_append]
  simp [List.getD_eq_getElem?_getD, h]
theorem GN {α : Type} (ls : List (List α)) (k : Nat) : (ls.take k).flatten.length ≤ ls.flatten.length := by
  conv => rhs; rw [← List.take_append_drop k ls, List.flatten_append, List.length_append]
  omega
def RV (L : List (Nat × Value)) : List (Nat × Operand) → Option (List (Nat × Value))
  | [] => some []
  | (i, x) :: r => match ev L x with
    | some v => match RV L r with
      | some vs => some ((i, v) :: vs)
      | none => none
    | none => none
theorem GR {L : List (Nat × Value)} {ρ : Operand → Value} (hρ : ∀ x u, ev L x = some u → ρ x = u) : ∀ (ps : List (Nat × Operand)) (vs : List (Nat × Value)), RV L ps = some vs → ps.map (fun p => (p.1, ρ p.2)) = vs
  | [], vs, h => by simp [RV] at h; simp [h]
  | (i, x) :: r, vs, h => by
    simp only [RV] at h
    cases h1 : ev L x with
    | none => simp [h1] at h
    | some v =>
      cases h2 : RV L r with
      | none => simp [h1, h2] at h
      | some us =>
        simp [h1, h2] at h
        subst h
        simp [hρ _ _ h1, GR hρ r us h2]
def placed : Nat → List Value → List (Nat × Value)
  | _, [] => []
  | i, v :: r => (i, v) :: placed (i + 1) r
theorem Ad {v : Value} (h : v.oneCell' = true) : v.cells = #[v] := by cases v <;> simp_all [Value.cells, Value.oneCell']
theorem Oo (vs : List Value) : ∀ (i : Nat) (cells : Array Value), (∀ v ∈ vs, v.oneCell' = true) → cells.size = i + vs.length →
    Instr.fill (fun i => some (i, 1)) cells (placed i vs) = some (cells.toList.take i ++ vs).toArray := by
  induction vs with
  | nil => intro i cells _ hs; simp [placed, Instr.fill, List.take_of_length_le (show cells.toList.length ≤ i by simp; simp at hs; omega)]
  | cons v r ih =>
    intro i cells h1 hs
    simp only [placed, Instr.fill]
    have hc := Ad (h1 v (by simp))
    simp only [hc, List.size_toArray, List.length_cons, List.length_nil, Nat.zero_add, ne_eq, not_true_eq_false, decide_false, Bool.false_or]
    rw [if_neg (by simp at hs ⊢; omega)]
    have : (#[v] : Array Value).zipIdx.foldl (fun cs (x : Value × Nat) => cs.setIfInBounds (i + x.2) x.1) cells = cells.setIfInBounds i v := by simp
    rw [this, ih (i + 1) _ (fun u hu => h1 u (by simp [hu])) (by simp at hs ⊢; omega)]
    congr 2
    have hi : i < cells.toList.length := by simp at hs ⊢; omega
    rw [Array.toList_setIfInBounds, List.take_succ_eq_append_getElem (by simpa using hi), List.take_set_of_le (Nat.le_refl _)]
    simp
section
variable {P : Program} {L : List (Nat × Value)} {w0 w : World} {F : HP} {ty : TypeId}
theorem MS {t e n : Nat} {ps : List (Nat × Operand)} {vs : List Value} {z : Value} (H : aB w0 w F) (ht : P.underlying t = some (.slice e)) (hs : ∀ w, (sizeOf e).run P w = .ok 1 w) (hz : ∀ w, (zeroValue e).run P w = .ok z w) (hz1 : z.cells.size = 1)
    (hp : RV L ps = some (placed 0 vs)) (hn : vs.length = n) (PL : n ≤ 16777216) (h1 : ∀ v ∈ vs, v.oneCell' = true) :
    rM P L (.buildSlice t n ps.toArray) ty w fun v w' => ∃ b, v = .slice (some ⟨b, 0, none⟩) n n ∧ aB w0 w' (dH b (.cells vs.toArray e (0, 0)) • F) := by
  refine oW (v := .slice (some ⟨w.heap.size, 0, none⟩) n n) (w' := w.alloc (.cells vs.toArray e)) ?_ ⟨_, rfl, H.alloc _⟩
  intro ρ hρ d pos mJ g
  have hm := GR hρ _ _ hp
  have hm' : (ps.toArray.map fun x => (x.1, ρ x.2)).toList = placed 0 vs := by simpa using hm
  have hf : ∀ cells : Array Value, cells.size = n → Instr.fill (fun i => some (i, 1)) cells (List.map (fun x => (x.fst, ρ x.snd)) ps) = some vs.toArray := fun cells hc => by
    rw [hm, Oo vs 0 cells h1 (by omega)]; simp
  simp only [execOp, Instr.buildSlice, Sem.run_bind, run_underlying ht, Result.andThen_ok, hs]
  rw [if_neg (by omega)]
  by_cases h0 : n = 0
  · subst h0
    have hf0 := hf (Array.map (fun _ => default) (Array.range 0)) (by simp)
    simp [hf0, newRow]
  · have hf1 := hf ((Array.range n).map (z.cells[· % z.cells.size]!)) (by simp)
    simp [h0, hz, hf1, newRow]
theorem pG {t e n : Nat} {ps : List (Nat × Operand)} {vs : List Value} {z : Value} (H : aB w0 w F) (ht : P.underlying t = some (.slice e)) (hs : ∀ w, (sizeOf e).run P w = .ok 1 w) (hz : ∀ w, (zeroValue e).run P w = .ok z w) (hz1 : z.cells.size = 1)
    (hp : RV L ps = some (placed 0 vs)) (hn : vs.length = n) (PL : n ≤ 16777216) (h1 : ∀ v ∈ vs, v.oneCell' = true) :
    rM P L (.buildSlice t n ps.toArray) ty w fun v w' => aB w0 w' (Row e 1 v n vs • F) :=
  (MS (ty := ty) H ht hs hz hz1 hp hn PL h1).mono fun v w'' ⟨b, hv, H'⟩ => by
      subst hv
      refine H'.vJ (by omega) rfl (Nat.le_refl _) (by omega) (by simp; omega) fun j hj => ?_
      rw [List.getElem?_toArray, Nat.zero_add, List.getD_eq_getElem?_getD, List.getElem?_eq_getElem (by omega)]; rfl
theorem CZ {t tn e : TypeId} {k kn : IntKind} {s x : Operand} {m : Int} {bytes : Nat} (H : aB w0 w F) (ht : P.underlying t = some (.slice e)) (htn : P.underlying tn = some (.int kn))
    (hi : (P.info? e).map (fun i => (i.zero, i.size, i.bytes)) = some (some (.int k 0), 1, bytes)) (hsv : ev L s = some (.slice none 0 0)) (hxv : ev L x = some (.int .i64 m)) (hm : 0 < m) (hm2 : m ≤ 9223372036854775807)
    (hb : m.toNat * bytes ≤ 281474976710656) :
    rM P L (.call ⟨.builtin .append, #[s, x], #[t, tn]⟩) ty w fun v w' => ∃ g c cur, v = .slice (some ⟨g, 0, none⟩) m.toNat c ∧ m.toNat ≤ c ∧ (c : Int) ≤ 9223372036854775807 ∧ c ≤ cur.size ∧ aB w0 w' (dH g (.cells cur e (0, 0)) • F) := by
  obtain ⟨i, hi1, hi2⟩ := Option.map_eq_some_iff.1 hi
  simp only [Prod.mk.injEq] at hi2
  obtain ⟨hz1, hs1, hb1⟩ := hi2
  have e1 : (m.toNat : Int) = m := Int.toNat_of_nonneg (by omega)
  have hge := grownCap_ge w m.toNat 0 e
  refine oW (v := .slice (some ⟨w.heap.size, 0, none⟩) m.toNat (grownCap w m.toNat 0 e)) (w' := w.drew.alloc (.cells (Builtin.zeroCells #[.int k 0] m.toNat ++ Builtin.zeroCells #[.int k 0] (grownCap w m.toNat 0 e - m.toNat)) e))
    (kZ (vs := [.slice none 0 0, .int .i64 m]) (by simp [yZ, hsv, hxv]) fun _ => ?_) ⟨_, _, _, rfl, hge, wL w _ _ _ (by omega), ?_, H.drew.alloc _⟩
  · simp only [builtin, Sem.run_bind]
    have := Lib.run_append_nil_zeros (P := P) w t tn ty e i (.int k 0) .i64 kn ht htn hi1 hz1 m.toNat (by omega) (by omega) (by omega) (by rw [hb1]; exact hb)
    rw [e1] at this
    rw [this]; rfl
  · simp [size_zeroCells, Value.cells]; omega
theorem fF {t : TypeId} {fs : Array Field} {z : Value} {pl : Array (Nat × Nat)} {ps : List (Nat × Operand)} {vs : List (Nat × Value)} (cells : Array Value) (ht : P.underlying t = some (.struct fs)) (hz : ∀ w, (zeroValue t).run P w = .ok z w)
    (hpl : ∀ w, (fs.mapM fun f => do pure (f.offset, ← sizeOf f.type) : Sem (Array (Nat × Nat))).run P w = .ok pl w) (hp : RV L ps = some vs) (hf : Instr.fill (fun i => pl[i]?) z.cells vs = some cells) : Val P L (.build t ps.toArray) ty w (.agg cells) w := fun ρ hρ _ _ _ _ => by
  have hm := GR hρ _ _ hp
  simp only [execOp, Instr.build, Sem.run_bind, hz, Result.andThen_ok, run_underlying ht, hpl]
  have : (ps.toArray.map fun x => (x.1, ρ x.2)).toList = vs := by simpa using hm
  simp only [this, hf, Sem.run_pure, Result.andThen_ok]
theorem dn {t : TypeId} {d : TypeDesc} {b n : Nat} {cs : Array Value} {et : TypeId} {fr : Nat × Nat} {x : Operand} (hu : P.underlying t = some d) (hd : (match d with | .struct _ => false | .array _ _ => false | _ => true) = false) (hs : ∀ w, (sizeOf t).run P w = .ok n w) (hn : cs.size = n)
    (hx : ev L x = some (.pointer (some ⟨b, 0, none⟩))) (hb : w.heap[b]? = some (.cells cs et fr)) : Val P L (.load t x) ty w (.agg cs) w := by
  have := vI (ty := ty) (cs := cs.toList) (w := w) (by rw [hu]; rfl) (I7 hu hd) hs (by simpa using hn) hx (fun j u hj => gK hb (by rw [Nat.zero_add]; simpa using hj))
  simpa using this
theorem dI {t : TypeId} {b n : Nat} {old cs : Array Value} {et : TypeId} {x y : Operand} (H : aB w0 w (dH b (.cells old et (0, 0)) • F)) (hs : ∀ w, (sizeOf t).run P w = .ok n w) (hn : cs.size = n) (hn' : old.size = n)
    (hx : ev L x = some (.pointer (some ⟨b, 0, none⟩))) (hy : ev L y = some (.agg cs)) (h1 : ∀ v ∈ cs.toList, v.oneCell' = true) : rM P L (.store t x y) ty w fun _ w' => aB w0 w' (dH b (.cells cs et (0, 0)) • F) := by
  have hst := run_storeCells_at P b 0 et cs.toList 0 old w H.get.2 (by simp; omega) h1
  have e1 : (old.toList.take (0 + 0) ++ cs.toList ++ old.toList.drop (0 + 0 + cs.toList.length)).toArray = cs := by
    apply Array.ext'
    simp
    omega
  rw [e1] at hst
  refine CO (w' := w.setRow b cs) ?_ (H.turn rfl rfl rfl (by simp [World.setRow]) (setRow_heap _ _ _ _ _ _ H.get.2) fun k hk _ => setRow_other _ _ _ _ hk)
  intro ρ hρ d pos mJ g
  simp [execOp, hρ _ _ hx, hρ _ _ hy, Instr.storeAt, Instr.sureAddr, storeVar, hs, Value.cells, hn, hst]
def utf8 (l : List Int) : ByteArray := l.foldl (fun s n => s ++ Utf8.encode n) .empty
theorem AZ {src dst e : TypeId} {x : Operand} {v : Value} {l : List Int} (hs : P.underlying src = some (.slice e)) (hd : P.underlying dst = some .string) (he : P.underlying e = some (.int .i32)) (hx : ev L x = some v) (hr : iw w .i32 v l) :
    Val P L (.convert src dst x) ty w (.string (utf8 l)) w := fun ρ hρ _ _ _ _ => by
  obtain ⟨a, c, rfl, _, _, hc⟩ := Rd.cells (P := P) hr
  have loop : ∀ (f : Value → ByteArray → Sem (ForInStep ByteArray)), (∀ n s, f (.int .i32 n) s = pure (ForInStep.yield (s ++ Utf8.encode n))) → ∀ (l : List Int) (s : ByteArray), (forIn (m := Sem) (l.map (Value.int .i32)).toArray s f).run P w = .ok (l.foldl (fun s n => s ++ Utf8.encode n) s) w := by
    intro f hf l
    induction l with
    | nil => intro s; rfl
    | cons x l ih => intro s; simp [hf] at ih ⊢; try exact ih _
  have h1 : (Conv.runesToString (.slice a l.length c)).run P w = .ok (.string (utf8 l)) w := by
    unfold Conv.runesToString
    cases a with
    | none =>
      have : l = [] := by
        cases l with
        | nil => rfl
        | cons x l =>
          obtain ⟨_, _, e, _, _, hh⟩ := hr.open
          cases e
          obtain ⟨_, _, e, _⟩ := hh (by simp)
          cases e
      subst this; rfl
    | some a =>
      have h2 : (loadCells a l.length).run P w = .ok (l.map (Value.int .i32)).toArray w := by simpa [Builtin.firstCells] using hc
      simp only [Sem.run_bind, h2, Result.andThen_ok]
      rw [loop]
      · rfl
      · intro n s; rfl
  simp [execOp, hρ _ _ hx, convert, run_underlying hs, run_underlying hd, run_underlying he, h1]
theorem kR {t e bytes : Nat} {k : IntKind} {s x : Operand} {v xv : Value} {l m : List Int} (H : aB w0 w (gW e k v l • F)) (hx : iw w k xv m) (ht : P.underlying t = some (.slice e))
    (hi : (P.info? e).map (fun i => (i.zero, i.size, i.bytes)) = some (some (.int k 0), 1, bytes)) (hsv : ev L s = some v) (hxv : ev L x = some xv) (h63 : ((l.length + m.length : Nat) : Int) ≤ 9223372036854775807) (hb : (l.length + m.length) * bytes ≤ 140737488355328) :
    rM P L (.call ⟨.builtin .append, #[s, x], #[t, t]⟩) ty w fun v' w' => aB w0 w' (gW e k v' (l ++ m) • F) :=
  (iR H ht hi rfl hsv hxv hx (CY _ _) h63 hb).mono fun v w' H' => by
    unfold gW
    rw [List.length_append, List.map_append]
    exact H'
def Ae (a : Option Addr) (l c s : Nat) : Option Addr := if c = l then a else a.map (·.add (l * s))
def ni (s : Nat) (l h : Nat) : Value → Value
  | .slice a _ c => .slice (Ae a l c s) (h - l) (c - l)
  | v => v
theorem qg {t e s : TypeId} {x : Operand} {lo hi : Option Operand} {a : Option Addr} {n c : Nat} {l h : Int} (ht : P.underlying t = some (.slice e)) (hs : ∀ w, (sizeOf e).run P w = .ok s w) (hx : ev L x = some (.slice a n c))
    (hl : (match lo with | none => some (Value.int .i64 0) | some o => ev L o) = some (.int .i64 l)) (hh : (match hi with | none => some (Value.int .i64 n) | some o => ev L o) = some (.int .i64 h)) (h0 : 0 ≤ l ∧ l ≤ h ∧ h ≤ c) :
    Val P L (.slice t x lo hi none) ty w (ni s l.toNat h.toNat (.slice a n c)) w := fun ρ hρ d pos mJ g => by
  have e1 : (h.toNat : Int) = h := Int.toNat_of_nonneg (by omega)
  have hx' := hρ _ _ hx
  simp only [execOp, hx', Instr.sliceAt, Sem.run_bind, run_underlying ht, Result.andThen_ok, Instr.slice, Instr.sliceBounds]
  cases hi with
  | none =>
    simp at hh
    subst hh
    cases lo with
    | none => simp at hl; subst hl; simp [hs, ni, Ae]
    | some o =>
      simp only [hρ _ _ hl, Option.map_some, Option.map_none]
      simp [Instr.sliceBound, asIntOf, h0.1, h0.2.1, hs, ni, Ae]
  | some o =>
    simp only [hρ _ _ hh, Option.map_some]
    cases lo with
    | none => simp at hl; subst hl; simp [Instr.sliceBound, asIntOf, h0.2.1, h0.2.2, hs, ni, Ae]
    | some o' =>
      simp only [hρ _ _ hl, Option.map_some, Option.map_none]
      simp [Instr.sliceBound, asIntOf, h0.1, show 0 ≤ h from by omega, h0.2.2, e1, h0.2.1, hs, ni, Ae]
theorem FQ (s h : Nat) (b o n c : Nat) : ni s 0 h (.slice (some ⟨b, o, none⟩) n c) = .slice (some ⟨b, o, none⟩) h c := by simp [ni, Ae, qP]
theorem Rd.cut {v : Value} {sz n : Nat} {xs : List Value} (hr : Rd w sz v n xs) {l h : Nat} (h1 : l ≤ h) (h2 : h ≤ n) : Rd w sz (ni sz l h v) (h - l) ((xs.drop (l * sz)).take ((h - l) * sz)) := by
  obtain ⟨hl, a, c, rfl, hc1, hc2, hc⟩ := hr
  refine ⟨?_, Ae a l c sz, c - l, rfl, by omega, by omega, fun hp => ?_⟩
  · rw [List.length_take, List.length_drop, hl, ← Nat.sub_mul]
    exact Nat.min_eq_left (Nat.mul_le_mul_right _ (by omega))
  · obtain ⟨b, o, rfl, hcell⟩ := hc (by omega)
    have : ¬ c = l := by omega
    refine ⟨b, o + l * sz, by simp [Ae, this, qP], fun j hj => ?_⟩
    have e1 : l * sz + (h - l) * sz = h * sz := by rw [← Nat.add_mul]; congr 1; omega
    have e2 : h * sz ≤ n * sz := Nat.mul_le_mul_right _ h2
    have := hcell (l * sz + j) (by omega)
    rw [Nat.add_assoc, this, List.getD_eq_getElem?_getD, List.getD_eq_getElem?_getD, List.getElem?_take, if_pos hj, List.getElem?_drop]
theorem iw.cut {k : IntKind} {v : Value} {l : List Int} (hr : iw w k v l) {i j : Nat} (h1 : i ≤ j) (h2 : j ≤ l.length) : iw w k (ni 1 i j v) ((l.drop i).take (j - i)) := by
  have h := Rd.cut hr h1 h2
  have hn : ((l.drop i).take (j - i)).length = j - i := by simp; omega
  unfold iw
  rw [hn, List.map_take, List.map_drop]
  simpa using h
theorem iw.upto {k : IntKind} {v : Value} {l : List Int} (hr : iw w k v l) {j : Nat} (h : j ≤ l.length) : iw w k (ni 1 0 j v) (l.take j) := by
  have := hr.cut (i := 0) (j := j) (by omega) h
  rwa [List.drop_zero, Nat.sub_zero] at this
theorem iw.from {k : IntKind} {v : Value} {l : List Int} (hr : iw w k v l) {i : Nat} (h : i ≤ l.length) : iw w k (ni 1 i l.length v) (l.drop i) := by
  have := hr.cut (i := i) (j := l.length) h (Nat.le_refl _)
  rwa [List.take_of_length_le (by simp)] at this
theorem iI.cut {w0 : World} {F : HP} {k : IntKind} {v : Value} {l : List Int} (hr : iI w0 F k v l) {i j : Nat} (h1 : i ≤ j) (h2 : j ≤ l.length) : iI w0 F k (ni 1 i j v) ((l.drop i).take (j - i)) := fun W H => (hr W H).cut h1 h2
theorem aB.PN {e sz n h : Nat} {v : Value} {xs : List Value} (H : aB w0 w (Row e sz v n xs • F)) (h2 : h ≤ n) : aB w0 w (Row e sz (ni sz 0 h v) h (xs.take (h * sz)) • F) := by
  have hl := H.zh
  rcases H.uz with ⟨a, rfl, rfl, rfl, H1⟩ | ⟨g, o, c, cur, rfl, h2', h3, h4, h5, H1⟩
  · have : h = 0 := by omega
    subst this
    have := H1.jf (e := e) (sz := sz) a
    simpa [ni, Ae] using this
  · rw [FQ]
    have e2 : h * sz ≤ n * sz := Nat.mul_le_mul_right _ h2
    refine H1.vJ (by rw [List.length_take, hl]; exact Nat.min_eq_left e2) rfl (by omega) h3 h4 fun j hj => ?_
    rw [h5 j (by omega), List.getD_eq_getElem?_getD, List.getD_eq_getElem?_getD, List.getElem?_take, if_pos hj]
end
end Go.Proofs.YtgndbccogcofjaaGreatDoor
end
section
namespace Go.Proofs.YtgndbccogcofjaaGreatDoor
open Go.ChangeShapes Go.WideShapes Go.ChangeAt Go.RowKit
section
variable {H : Type} {enc : TypeId × Value → H} {P : Program} {W : World} {B : Nat}
def A8 (B : Nat) (enc : TypeId × Value → H) (P : Program) (W : World) (t : TypeId) (cs : List Value) : Prop :=
  ∃ fuel d p, DataW.trod enc P W 0 (fun _ => true) true fuel t cs = some (d, p) ∧ ∀ n ∈ d.weights P t, n ≤ B
abbrev In (enc : TypeId × Value → H) (P : Program) (W : World) (t : TypeId) (cs : List Value) : Prop := A8 reachBytes enc P W t cs
theorem A8.bool {t : TypeId} {cs : List Value} (ht : P.underlying t = some .bool) (h : A8 B enc P W t cs) : ∃ b, cs = [.bool b] := by
  obtain ⟨fuel, d, p, h1, -⟩ := h; obtain ⟨b, e, -⟩ := DataW.trod_bool ht h1; exact ⟨b, e⟩
theorem A8.int {t : TypeId} {cs : List Value} {k : IntKind} (ht : P.underlying t = some (.int k)) (h : A8 B enc P W t cs) : ∃ n, cs = [.int k n] ∧ (Lit.int k n).wf = true := by
  obtain ⟨fuel, d, p, h1, -⟩ := h; obtain ⟨n, e, -, hw⟩ := DataW.trod_int ht h1; exact ⟨n, e, hw⟩
theorem A8.string {t : TypeId} {cs : List Value} (ht : P.underlying t = some .string) (h : A8 B enc P W t cs) : ∃ s : ByteArray, cs = [.string s] ∧ s.size ≤ B := by
  obtain ⟨fuel, d, p, h1, hw⟩ := h; obtain ⟨s, e, hx, hm⟩ := DataW.trod_string ht h1
  simp only [Prod.mk.injEq] at hx
  obtain ⟨rfl, -⟩ := hx
  have h2 := hw s.data.toList.length (by simp only [DataW.weights, List.mem_singleton])
  rw [Array.length_toList] at h2
  exact ⟨s, e, h2⟩
theorem BI {ts : List TypeId} {ds : List (DataW H)} {j : Nat} {t : TypeId} {d : DataW H} (ht : ts[j]? = some t) (hd : ds[j]? = some d) (h : ∀ n ∈ DataW.weightsEach P ts ds, n ≤ B) : ∀ n ∈ d.weights P t, n ≤ B :=
  fun n hn => h n (DataW.weights_mem_each ht hd n hn)
theorem C9 {e : TypeId} {ds : List (DataW H)} {d : DataW H} (hd : d ∈ ds) (h : ∀ n ∈ DataW.weightsAll P e ds, n ≤ B) : ∀ n ∈ d.weights P e, n ≤ B := by
  intro n hn
  induction ds with
  | nil => cases hd
  | cons x r ih =>
    simp only [DataW.weightsAll, List.mem_append] at h
    rcases List.mem_cons.1 hd with rfl | hd
    · exact h n (.inl hn)
    · exact ih hd fun n hn => h n (.inr hn)
theorem A8.struct {t : TypeId} {fs : Array Field} {cs : List Value} (ht : P.underlying t = some (.struct fs)) (h : A8 B enc P W t cs) :
    cs.length = P.cellsOf t ∧ ∀ (i : Nat) (f : Field), fs[i]? = some f → A8 B enc P W f.type ((cs.drop f.offset).take (P.cellsOf f.type)) := by
  obtain ⟨fuel, d, p, h1, hw⟩ := h
  obtain ⟨xs, n, -, hx, hl, hl2, hf⟩ := DataW.trod_struct ht h1
  simp only [Prod.mk.injEq] at hx
  obtain ⟨rfl, -⟩ := hx
  refine ⟨hl, fun i f hi => ?_⟩
  have hlt : i < xs.length := by rw [hl2]; exact (Array.getElem?_eq_some_iff.1 hi).1
  refine ⟨n, xs[i].1, xs[i].2, by rw [hf i f hi, List.getElem?_eq_getElem hlt], ?_⟩
  simp only [DataW.weights, ht] at hw
  exact BI (ts := fs.toList.map (·.type)) (ds := xs.map (·.1)) (j := i) (by simp [hi]) (by simp [List.getElem?_eq_getElem hlt]) hw
theorem A8.slice {t e : TypeId} {cs : List Value} (ht : P.underlying t = some (.slice e)) (hz : 0 < P.cellsOf e) (h : A8 B enc P W t cs) :
    ∃ v n xs, cs = [v] ∧ Rd W (P.cellsOf e) v n xs ∧ n * P.bytesOf e ≤ B ∧ ∀ k, k < n → A8 B enc P W e ((xs.drop (k * P.cellsOf e)).take (P.cellsOf e)) := by
  obtain ⟨fuel, d, p, h1, hw⟩ := h
  rcases DataW.trod_slice ht h1 with ⟨rfl, hx⟩ | ⟨a, len, cap, elems, rest, n, -, rfl, hx, -, hl, hm, hel, hget, -⟩
  · exact ⟨_, 0, [], rfl, ⟨by simp, none, 0, rfl, by simp, by decide, fun h => absurd h (by decide)⟩, by simp, fun k hk => absurd hk (by omega)⟩
  simp only [Prod.mk.injEq] at hx
  obtain ⟨rfl, -⟩ := hx
  simp only [DataW.weights, ht, List.mem_cons, List.mem_append] at hw
  have h2 := hw _ (.inl rfl)
  simp only [List.length_map] at h2
  have key : ∀ i, i < len → ∃ cs, W.cells? 0 (a.add (i * P.cellsOf e)) (P.cellsOf e) = some cs ∧ A8 B enc P W e cs := by
    intro i hi
    have h3 := hget i hi
    have hi2 : i < elems.length := by omega
    rw [List.getElem?_eq_getElem hi2] at h3
    obtain ⟨cs, e1, e2⟩ := Option.bind_eq_some_iff.1 h3
    exact ⟨cs, e1, n, elems[i].1, elems[i].2, e2, fun m hm => C9 (ds := elems.map (·.1)) (List.mem_map.2 ⟨elems[i], List.getElem_mem hi2, rfl⟩) (fun n hn => hw n (.inr (.inl hn))) m hm⟩
  obtain ⟨C, hC⟩ : ∃ C : Nat → List Value, ∀ i, i < len → W.cells? 0 (a.add (i * P.cellsOf e)) (P.cellsOf e) = some (C i) ∧ A8 B enc P W e (C i) := by
    classical
    exact ⟨fun i => if hi : i < len then Classical.choose (key i hi) else [], fun i hi => by simp only [dif_pos hi]; exact Classical.choose_spec (key i hi)⟩
  have spot : 0 < len → a.spot = none := by
    intro hp
    obtain ⟨-, -, hc⟩ := World.cells?_some (hC 0 hp).1
    have h3 := hc 0 hz
    have hlen := (World.cells?_some (hC 0 hp).1).2.1
    rw [List.getElem?_eq_getElem (by omega)] at h3
    simp only [Nat.zero_mul, Addr.add, if_true] at h3
    unfold World.cell? at h3
    cases hs : a.spot with
    | none => rfl
    | some q => rw [hs] at h3; split at h3 <;> simp at h3
  let xs : List Value := (List.range len).flatMap C
  have hlC : ∀ i, i < len → (C i).length = P.cellsOf e := fun i hi => (World.cells?_some (hC i hi).1).2.1
  have PO : ∀ m, m ≤ len → ((List.range m).flatMap C).length = m * P.cellsOf e := by
    intro m hm
    induction m with
    | zero => simp
    | succ m ih => rw [List.range_succ, List.flatMap_append, List.length_append, ih (by omega)]; simp [hlC m (by omega), Nat.succ_mul]
  have hcut : ∀ k, k < len → ((xs.drop (k * P.cellsOf e)).take (P.cellsOf e)) = C k := by
    intro k hk
    show ((((List.range len).flatMap C).drop (k * P.cellsOf e)).take (P.cellsOf e)) = C k
    have e1 : List.range len = List.range k ++ [k] ++ (List.range (len - (k + 1))).map ((k + 1) + ·) := by
      have := @List.range_add (k + 1) (len - (k + 1))
      rw [show k + 1 + (len - (k + 1)) = len by omega] at this
      rw [this, List.range_succ]
    have hk1 := PO k (by omega)
    have hck := hlC k hk
    rw [e1, List.flatMap_append, List.flatMap_append, List.append_assoc]
    rw [List.drop_append, hk1]
    simp [hk1, List.take_append, hck]
  refine ⟨_, len, xs, rfl, ⟨PO len (Nat.le_refl _), some a, cap, rfl, hl, by unfold maxLen at hm; omega, fun hp => ⟨a.block, a.off, ?_, fun j hj => ?_⟩⟩, ?_, fun k hk => ?_⟩
  · have := spot hp; cases a; simp_all
  · have hk : j / P.cellsOf e < len := Nat.div_lt_of_lt_mul (by rw [Nat.mul_comm]; exact hj)
    have hr : j % P.cellsOf e < P.cellsOf e := Nat.mod_lt _ hz
    have hc := (World.cells?_some (hC _ hk).1).2.2 _ hr
    have e0 : a = ⟨a.block, a.off, none⟩ := by have := spot hp; cases a; simp_all
    have ej : j / P.cellsOf e * P.cellsOf e + j % P.cellsOf e = j := by rw [Nat.mul_comm]; exact Nat.div_add_mod ..
    rw [e0, qP, qP, Nat.add_assoc, ej] at hc
    rw [hc, ← hcut _ hk, List.getElem?_take_of_lt hr, List.getElem?_drop, ej, List.getD_eq_getElem?_getD, List.getElem?_eq_getElem (by show j < ((List.range len).flatMap C).length; rw [PO len (Nat.le_refl _)]; exact hj)]
    rfl
  · have : len * P.bytesOf e ≤ (elems.length + rest.length) * P.bytesOf e := Nat.mul_le_mul_right _ (by omega)
    omega
  · rw [hcut k hk]; exact (hC k hk).2
theorem A8.ints {t e : TypeId} {k : IntKind} {cs : List Value} (ht : P.underlying t = some (.slice e)) (he : P.underlying e = some (.int k)) (hc : P.cellsOf e = 1) (h : A8 B enc P W t cs) :
    ∃ v l, cs = [v] ∧ iw W k v l ∧ l.length * P.bytesOf e ≤ B ∧ ∀ n ∈ l, (Lit.int k n).wf = true := by
  obtain ⟨v, n, xs, e1, h1, h2, h3⟩ := h.slice ht (by omega)
  rw [hc] at h1 h3
  have hx : ∀ i, i < n → ∃ m, xs[i]? = some (.int k m) ∧ (Lit.int k m).wf = true := by
    intro i hi
    obtain ⟨m, e2, hw⟩ := (h3 i hi).int he
    have hl := h1.len
    refine ⟨m, ?_, hw⟩
    have := congrArg (fun l => l[0]?) e2
    simpa [List.getElem?_take, List.getElem?_drop] using this
  let l := xs.map fun | .int _ m => m | _ => 0
  have hl : l.length = n := by simp only [l, List.length_map]; have := h1.len; omega
  have hxs : xs = l.map (Value.int k) := by
    apply List.ext_getElem?
    intro i
    by_cases hi : i < n
    · obtain ⟨m, e2, -⟩ := hx i hi
      simp [l, e2]
    · have : xs.length ≤ i := by have := h1.len; omega
      simp [l, List.getElem?_eq_none this]
  refine ⟨v, l, e1, by rw [iw, hl, ← hxs]; exact h1, by rw [hl]; exact h2, fun m hm => ?_⟩
  obtain ⟨i, hi⟩ := List.getElem?_of_mem hm
  have hi2 : i < n := by have := (List.getElem?_eq_some_iff.1 hi).1; omega
  obtain ⟨m', e2, hw⟩ := hx i hi2
  simp only [l, List.getElem?_map, e2, Option.map_some, Option.some.injEq] at hi
  subst hi
  exact hw
theorem SG {α : Type _} [Inhabited α] {n : Nat} {p : Nat → α → Prop} (h : ∀ k, k < n → ∃ l, p k l) (d : α) : ∃ ls : List α, ls.length = n ∧ ∀ k, k < n → p k (ls.getD k d) := by
  induction n with
  | zero => exact ⟨[], rfl, fun k hk => absurd hk (by omega)⟩
  | succ n ih =>
    obtain ⟨ls, h1, h2⟩ := ih fun k hk => h k (by omega)
    obtain ⟨l, hl⟩ := h n (by omega)
    refine ⟨ls ++ [l], by simp [h1], fun k hk => ?_⟩
    by_cases hkn : k < n
    · rw [List.getD_eq_getElem?_getD, List.getElem?_append_left (by omega), ← List.getD_eq_getElem?_getD]; exact h2 k hkn
    · obtain rfl : k = n := by omega
      rw [List.getD_eq_getElem?_getD, List.getElem?_append_right (by omega), h1, Nat.sub_self]; exact hl
theorem A8.row {t e q : TypeId} {k : IntKind} {cs : List Value} (ht : P.underlying t = some (.slice e)) (he : P.underlying e = some (.slice q)) (hq : P.underlying q = some (.int k)) (ce : P.cellsOf e = 1) (cq : P.cellsOf q = 1) (h : A8 B enc P W t cs) :
    ∃ (v : Value) (vs : List Value) (ls : List (List Int)), cs = [v] ∧ Rd W 1 v ls.length vs ∧ ls.length * P.bytesOf e ≤ B ∧ ∀ j, j < ls.length → iw W k (vs.getD j undef) (ls.getD j []) ∧ (ls.getD j []).length * P.bytesOf q ≤ B ∧ ∀ n ∈ ls.getD j [], (Lit.int k n).wf = true := by
  obtain ⟨v, n, vs, e1, h1, h2, h3⟩ := h.slice ht (by omega)
  rw [ce] at h1 h3
  obtain ⟨ls, rfl, hls⟩ := SG (n := n) (p := fun j l => iw W k (vs.getD j undef) l ∧ l.length * P.bytesOf q ≤ B ∧ ∀ n ∈ l, (Lit.int k n).wf = true) (fun j hj => by
    obtain ⟨u, l, e3, g4, hb4, hw⟩ := (h3 j hj).ints he hq cq
    obtain rfl : vs.getD j undef = u := by
      have := congrArg (fun l => l[0]?) e3
      simp [List.getElem?_drop] at this
      rw [List.getD_eq_getElem?_getD, this]; rfl
    exact ⟨l, g4, hb4, hw⟩) []
  exact ⟨v, vs, ls, e1, h1, h2, hls⟩
theorem Ba : ∀ {ts : List TypeId} {vs : List Value} {ds : List (DataW H)} {p : List MemPlace}, DataW.TrodAll enc P W 0 (fun _ => true) true ts vs ds p → (∀ n ∈ DataW.weightsEach P ts ds, n ≤ B) →
    vs.length = ts.length ∧ ds.length = ts.length ∧ ∀ (j : Nat) t v, ts[j]? = some t → vs[j]? = some v → A8 B enc P W t v.cells.toList
  | [], _, _, _, h, _ => by obtain ⟨rfl, rfl, rfl⟩ := trodAll_nil h; simp
  | t :: ts, _, _, _, h, hw => by
    obtain ⟨v, vs1, d, ds1, a, b, rfl, rfl, rfl, ⟨fuel, h1⟩, h2⟩ := trodAll_cons h
    simp only [DataW.weightsEach, List.mem_append] at hw
    obtain ⟨i1, i2, i3⟩ := Ba h2 fun n hn => hw n (.inr hn)
    refine ⟨by simp [i1], by simp [i2], fun j t' v' ht hv => ?_⟩
    cases j with
    | zero =>
      simp only [List.getElem?_cons_zero, Option.some.injEq] at ht hv
      subst ht; subst hv
      exact ⟨fuel, d, a, h1, fun n hn => hw n (.inl hn)⟩
    | succ j => exact i3 j t' v' (by simpa using ht) (by simpa using hv)
def uD (B : Nat) (enc : TypeId × Value → H) (P : Program) (W : World) : List TypeId → List Value → Prop
  | [], [] => True
  | t :: ts, v :: vs => (∃ base, Value.okWide P W .any base t v) ∧ A8 B enc P W t v.cells.toList ∧ uD B enc P W ts vs
  | _, _ => False
abbrev Ins (enc : TypeId × Value → H) (P : Program) (W : World) (ts : List TypeId) (vs : List Value) : Prop := uD reachBytes enc P W ts vs
theorem uD.mk : ∀ {ts : List TypeId} {vs : List Value}, vs.length = ts.length → (∀ (j : Nat) t v, ts[j]? = some t → vs[j]? = some v → (∃ base, Value.okWide P W .any base t v) ∧ A8 B enc P W t v.cells.toList) → uD B enc P W ts vs
  | [], [], _, _ => trivial
  | t :: ts, v :: vs, h, k => ⟨(k 0 t v rfl rfl).1, (k 0 t v rfl rfl).2, uD.mk (by simpa using h) fun j t' v' ht hv => k (j + 1) t' v' (by simpa using ht) (by simpa using hv)⟩
  | [], _ :: _, h, _ => by simp at h
  | _ :: _, [], h, _ => by simp at h
theorem uD.nil {args : Array Value} (h : uD B enc P W [] args.toList) : args = #[] := by rcases args with ⟨_ | ⟨_, _⟩⟩ <;> simp_all [uD]
theorem uD.cons {t : TypeId} {ts : List TypeId} {vs : List Value} (h : uD B enc P W (t :: ts) vs) : ∃ v vs', vs = v :: vs' ∧ (∃ base, Value.okWide P W .any base t v) ∧ A8 B enc P W t v.cells.toList ∧ uD B enc P W ts vs' := by
  cases vs with
  | nil => exact h.elim
  | cons v vs' => exact ⟨v, vs', rfl, h⟩
theorem uD.nil' {vs : List Value} (h : uD B enc P W [] vs) : vs = [] := by cases vs with | nil => rfl | cons _ _ => exact h.elim
theorem uD.one {args : Array Value} {t : TypeId} (h : uD B enc P W [t] args.toList) : ∃ v, args = #[v] ∧ (∃ base, Value.okWide P W .any base t v) ∧ A8 B enc P W t v.cells.toList := by
  obtain ⟨v, vs, e, h1, h2, h3⟩ := h.cons; obtain rfl := h3.nil'; exact ⟨v, by cases args; simp_all, h1, h2⟩
theorem uD.two {args : Array Value} {t t' : TypeId} (h : uD B enc P W [t, t'] args.toList) : ∃ v v', args = #[v, v'] ∧ ((∃ base, Value.okWide P W .any base t v) ∧ A8 B enc P W t v.cells.toList) ∧ ((∃ base, Value.okWide P W .any base t' v') ∧ A8 B enc P W t' v'.cells.toList) := by
  obtain ⟨v, vs, e, h1, h2, h3⟩ := h.cons; obtain ⟨v', vs', rfl, h1', h2', h3'⟩ := h3.cons; obtain rfl := h3'.nil'
  exact ⟨v, v', by cases args; simp_all, ⟨h1, h2⟩, ⟨h1', h2'⟩⟩
theorem Bc {base : Nat} {sp : Nat → Bool} {held : Bool} : ∀ {ts : List TypeId} {vs : List Value} {ds : List (DataW H)} {p : List MemPlace}, DataW.TrodAll enc P W base sp held ts vs ds p → vs.length = ts.length ∧ ds.length = ts.length
  | [], _, _, _, h => by obtain ⟨rfl, rfl, rfl⟩ := trodAll_nil h; simp
  | t :: ts, _, _, _, h => by
    obtain ⟨v, vs1, d, ds1, a, b, rfl, rfl, rfl, _, h2⟩ := trodAll_cons h
    obtain ⟨i1, i2⟩ := Bc h2
    simp [i1, i2]
theorem zi (hl : laidOutB P = true) {W' : World} (hb : Below W.heap.size W W') : ∀ {ts : List TypeId} {vs : List Value} {ds : List (DataW H)} {p : List MemPlace}, (∀ t ∈ ts, P.readableRec t = true ∧ t < P.types.size) →
    DataW.TrodAll enc P W 0 (fun _ => true) true ts vs ds p → (∀ x ∈ p, x.block < W.heap.size) → DataW.TrodAll enc P W' 0 (fun b => decide (b < W.heap.size)) true ts vs ds p
  | [], _, _, _, _, h, _ => by obtain ⟨rfl, rfl, rfl⟩ := trodAll_nil h; exact trodAll_mk0
  | t :: ts, _, _, _, ht, h, hp => by
    obtain ⟨v, vs1, d, ds1, a, b, rfl, rfl, rfl, h1, h2⟩ := trodAll_cons h
    have hq := ht t (by simp)
    exact ⟨a, b, Below.trod hl hq.1 hq.2 h1 hb (fun x hx => hp x (by simp [hx])), zi hl hb (fun t' h' => ht t' (by simp [h'])) h2 (fun x hx => hp x (by simp [hx])), rfl⟩
end
theorem SH {α : Type _} {l : List α} (h : l.length = 2) : ∃ a b, l = [a, b] := by match l, h with | [a, b], _ => exact ⟨a, b, rfl⟩
theorem PS {H : Type} {enc : TypeId × Value → H} {P : Program} {fn : Func} {s : ChangeSpec} {tb : TypeId} {ts : List TypeId} (laid : laidOutB P = true) (hpn : fn.params.toList = ts) (hres : fn.resultTypes = #[tb]) (htb : P.underlying tb = some .bool) (hvars : s.vars = [])
    (hts : ts.all (fun t => P.readableRec t && decide (t < P.types.size)) = true) (hspec : ∀ ds : List (DataW H), ds.length = ts.length → s.fn H ds = { results := [.lit (.bool true)], args := ds })
    {W W' : World} {args : Array Value} {ds gs : List (DataW H)} {before : List MemPlace} (hW : DataW.Whole enc P fn.params.toList s.vars false W args.toList ds gs before) (hb : Below W.heap.size W W') :
    s.post enc P fn false true false false W args (.bool true) W' := by
  have hW' := hW
  obtain ⟨p, q, hA, hV, rfl, hfz, hnd⟩ := hW
  rw [hvars] at hV
  obtain ⟨rfl, rfl⟩ : gs = [] ∧ q = [] := by cases gs <;> simp_all [DataW.TrodVars]
  have hn2 : ds.length = ts.length := by rw [← hpn]; exact (Bc hA).2
  have hlt : ∀ x ∈ p, x.block < W.heap.size := fun x hx => by simpa using hW'.lt x (by simpa using hx)
  have hl := hspec ds hn2
  refine ⟨ds, [], p ++ [], [], p, [], hW', ?_, ?_, ?_, hb.frame _, fun h => by cases h⟩
  · rw [hres, List.append_nil, hl]
    exact trodAll_mk1 (shut_bool htb true)
  · rw [List.append_nil, hl]
    exact zi laid hb (fun t ht => by simpa using List.all_eq_true.1 hts t (by rw [← hpn]; exact ht)) hA hlt
  · rw [hvars, List.append_nil, hl]
    rfl
end Go.Proofs.YtgndbccogcofjaaGreatDoor
end
section
namespace Go.Proofs.YtgndbccogcofjaaGreatDoor
theorem own : ownKnob Tryz.prog.godebug = none := by kernel_rfl
theorem laid : laidOutB Tryz.prog = true := by kernel_rfl
end Go.Proofs.YtgndbccogcofjaaGreatDoor
end
