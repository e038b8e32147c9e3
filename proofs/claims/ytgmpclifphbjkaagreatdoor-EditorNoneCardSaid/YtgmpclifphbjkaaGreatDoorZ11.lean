import Derived.Test.YtgmpclifphbjkaaGreatDoorZ4
import Derived.Maps.RangeRun
import Derived.Test.YtgmpclifphbjkaaGreatDoorZ10
/- Texts of mine, joined: Map UGroups. -/
section
/- Maps: what one holds; a look-up, a store, a range. -/
set_option linter.unusedSimpArgs false
set_option linter.unusedVariables false
namespace Go.Proofs.YtgmpclifphbjkaaGreatDoor
open Go.RowKit Go.MapKept
/-- A kind of keys. -/
structure Key (α : Type) where
  mkKey ::
  d : TypeDesc
  mk : α → Value
  key : ∀ a, IsKey d (mk a)
  inj : ∀ a b, mk a = mk b → a = b
  onto : ∀ v, IsKey d v → ∃ a, mk a = v
def kInt (k : IntKind) : Key Int := ⟨.int k, .int k, fun _ => rfl, fun _ _ h => by cases h; rfl, fun v h => by
  cases v <;> simp [IsKey] at h
  subst h
  exact ⟨_, rfl⟩⟩
abbrev kI64 : Key Int := kInt .i64
abbrev kI32 : Key Int := kInt .i32
def kStr : Key ByteArray := ⟨.string, .string, fun _ => trivial, fun _ _ h => by cases h; rfl, fun v h => by
  cases v <;> simp [IsKey] at h
  exact ⟨_, rfl⟩⟩
section
variable {α : Type} {K : Key α} {f : α → Option Value} {es : Array MapEntry} {clock : Nat}
/-- A map holds f. -/
def MapIs (K : Key α) (f : α → Option Value) (es : Array MapEntry) (clock : Nat) : Prop :=
  Stamped es clock ∧ (∀ x ∈ es.toList, IsKey K.d x.key) ∧ ∀ a v, f a = some v ↔ ∃ x ∈ es.toList, x.key = K.mk a ∧ x.val = v
def MapRep (K : Key α) (b : Nat) (f : α → Option Value) : HP := exHP fun (x : Array MapEntry × Nat) => fact (MapIs K f x.1 x.2) • blk b (.map x.1 x.2)
def upd [DecidableEq α] {β : Type} (f : α → Option β) (a : α) (v : β) : α → Option β := fun x => if x = a then some v else f x
theorem MapIs.same (h : MapIs K f es clock) {x y : MapEntry} (hx : x ∈ es.toList) (hy : y ∈ es.toList) (e : x.key = y.key) : x = y := by
  have hn := h.1.2.2
  rw [List.Nodup, List.pairwise_map] at hn
  exact entry_eq_of_key' hn hx hy e
where
  entry_eq_of_key' : ∀ {l : List MapEntry}, l.Pairwise (fun x y => x.key ≠ y.key) → ∀ {x y : MapEntry}, x ∈ l → y ∈ l → x.key = y.key → x = y
    | [], _, _, _, hx, _, _ => by cases hx
    | z :: l, hp, x, y, hx, hy, e => by
      rw [List.pairwise_cons] at hp
      rcases List.mem_cons.1 hx with hx1 | hx1
      · rcases List.mem_cons.1 hy with hy1 | hy1
        · rw [hx1, hy1]
        · exact absurd (by rw [← hx1]; exact e) (hp.1 _ hy1)
      · rcases List.mem_cons.1 hy with hy1 | hy1
        · exact absurd (by rw [← hy1]; exact e.symm) (hp.1 _ hx1)
        · exact entry_eq_of_key' hp.2 hx1 hy1 e
theorem born_eq : ∀ {l : List MapEntry}, (l.map (·.born)).Nodup → ∀ {x y : MapEntry}, x ∈ l → y ∈ l → x.born = y.born → x = y
  | [], _, _, _, hx, _, _ => by cases hx
  | z :: l, hp, x, y, hx, hy, e => by
    rw [List.map_cons, List.nodup_cons] at hp
    rcases List.mem_cons.1 hx with hx1 | hx1
    · rcases List.mem_cons.1 hy with hy1 | hy1
      · rw [hx1, hy1]
      · exact absurd (List.mem_map.2 ⟨y, hy1, by rw [← hx1]; exact e.symm⟩) hp.1
    · rcases List.mem_cons.1 hy with hy1 | hy1
      · exact absurd (List.mem_map.2 ⟨x, hx1, by rw [← hy1]; exact e⟩) hp.1
      · exact born_eq hp.2 hx1 hy1 e
theorem MapIs.find (h : MapIs K f es clock) (a : α) : (Instr.findNow K.d (K.mk a) es.toList 0 = some none ∧ f a = none ∧ ∀ x ∈ es.toList, x.key ≠ K.mk a) ∨
    ∃ j e, Instr.findNow K.d (K.mk a) es.toList 0 = some (some (j, e.val)) ∧ es.toList[j]? = some e ∧ e.key = K.mk a ∧ f a = some e.val := by
  rcases findNow_spec (K.key a) es.toList 0 h.2.1 with ⟨h1, h2⟩ | ⟨j, e, h1, h2, h3⟩
  · refine .inl ⟨h1, ?_, h2⟩
    cases hf : f a with
    | none => rfl
    | some v =>
      obtain ⟨x, hx, hk, _⟩ := (h.2.2 a v).1 hf
      exact absurd hk (h2 x hx)
  · refine .inr ⟨j, e, by simpa using h1, h2, h3, (h.2.2 a e.val).2 ⟨e, List.mem_of_getElem? h2, h3, rfl⟩⟩
theorem mapIs_empty (K : Key α) : MapIs K (fun _ => none) #[] 0 := ⟨stamped_empty 0, by simp, by simp⟩
end
section
variable {α : Type} {K : Key α} {f : α → Option Value} {es : Array MapEntry} {clock : Nat} {P : Program} {L : List (Nat × Value)} {w w0 : World} {ty : TypeId} {x y z : Operand} {F : HP} {b it n : Nat} {a : α} {S : List α}
theorem Holds.map (H : Holds w0 w (MapRep K b f • F)) : ∃ es clock, MapIs K f es clock ∧ Holds w0 w (blk b (.map es clock) • F) := by
  obtain ⟨⟨es, clock⟩, H⟩ := H.ex_sep
  obtain ⟨h, H⟩ := H.flat.fact
  exact ⟨es, clock, h, H⟩
theorem Holds.mk_map (h : MapIs K f es clock) (H : Holds w0 w (blk b (.map es clock) • F)) : Holds w0 w (MapRep K b f • F) := Holds.mk_ex_sep (es, clock) (Holds.deep (Holds.mk_fact h H))
theorem run_look {t kt et : TypeId} {zv : Value} (ok : Bool) (h : MapIs K f es clock) (hb : w.heap[b]? = some (.map es clock)) (ht : P.underlying t = some (.map kt et)) (hk : P.underlying kt = some K.d) (hz : (zeroValue et).run P w = .ok zv w) :
    (Instr.lookup t (.map (some b)) (K.mk a) ok).run P w = .ok (if ok then .tuple #[(f a).getD zv, .bool (f a).isSome] else (f a).getD zv) w := by
  rcases h.find a with ⟨h1, h2, _⟩ | ⟨j, e, h1, h2, h3, h4⟩
  · simp [Instr.lookup, run_underlying ht, MapKept.run_getObj_map hb, MapKept.run_checkKey hk (K.key a), MapKept.run_findKey hk h1, hz, Result.andThen, h2]
  · simp [Instr.lookup, run_underlying ht, MapKept.run_getObj_map hb, MapKept.run_checkKey hk (K.key a), MapKept.run_findKey hk h1, Result.andThen, h4]
/-- A look-up. -/
theorem r_lookup {t kt et : TypeId} {zv : Value} (H : Holds w0 w (MapRep K b f • F)) (ht : P.underlying t = some (.map kt et)) (hk : P.underlying kt = some K.d) (hz : ∀ w, (zeroValue et).run P w = .ok zv w)
    (hx : ev L x = some (.map (some b))) (hy : ev L y = some (K.mk a)) : Val P L (.lookup t x y false) ty w ((f a).getD zv) w := fun ρ hρ _ _ _ _ => by
  obtain ⟨es, clock, h, H⟩ := H.map
  simp only [execOp, hρ _ _ hx, hρ _ _ hy, Sem.run_bind]
  rw [run_look false h H.get.2 ht hk (hz w)]
  rfl
theorem r_lookup_ok {t kt et : TypeId} {zv : Value} (H : Holds w0 w (MapRep K b f • F)) (ht : P.underlying t = some (.map kt et)) (hk : P.underlying kt = some K.d) (hz : ∀ w, (zeroValue et).run P w = .ok zv w)
    (hx : ev L x = some (.map (some b))) (hy : ev L y = some (K.mk a)) : Val P L (.lookup t x y true) ty w (.tuple #[(f a).getD zv, .bool (f a).isSome]) w := fun ρ hρ _ _ _ _ => by
  obtain ⟨es, clock, h, H⟩ := H.map
  simp only [execOp, hρ _ _ hx, hρ _ _ hy, Sem.run_bind]
  rw [run_look true h H.get.2 ht hk (hz w)]
  rfl
theorem e_makeMap {t : TypeId} (K : Key α) (H : Holds w0 w F) : Eff P L (.makeMap t none) ty w fun v w' => ∃ b, v = .map (some b) ∧ Holds w0 w' (MapRep K b (fun _ => none) • F) := by
  refine e_val (v := .map (some w.heap.size)) (w' := w.alloc (.map #[] 0)) ?_ ⟨_, rfl, Holds.mk_map (mapIs_empty K) (H.alloc _)⟩
  intro ρ hρ d pos aft g
  simp only [execOp, Sem.run_bind, Option.map_none]
  rfl
theorem set_turn {o : Obj} {b : Nat} (h : w.heap[b]? = some o) (o' : Obj) : ({ w with heap := w.heap.setIfInBounds b o' } : World).heap[b]? = some o' ∧ ∀ k, k ≠ b → ({ w with heap := w.heap.setIfInBounds b o' } : World).heap[k]? = w.heap[k]? := by
  have hlt := lt_of_block h
  exact ⟨by simp [hlt], fun k hk => by simp [Ne.symm hk]⟩
theorem Holds.setB {o : Obj} (H : Holds w0 w (blk b o • F)) (o' : Obj) : Holds w0 (ChangeMaps.setBlock w b o') (blk b o' • F) :=
  Holds.turn (w := w) (w' := ChangeMaps.setBlock w b o') H rfl rfl rfl (by simp [ChangeMaps.setBlock]) (set_turn H.get.2 o').1 fun k hk _ => (set_turn H.get.2 o').2 k hk
theorem e_mapUpdate [DecidableEq α] {t kt et : TypeId} {v : Value} (H : Holds w0 w (MapRep K b f • F)) (ht : P.underlying t = some (.map kt et)) (hk : P.underlying kt = some K.d)
    (hx : ev L x = some (.map (some b))) (hy : ev L y = some (K.mk a)) (hz : ev L z = some v) : Eff P L (.mapUpdate t x y z) ty w fun _ w' => Holds w0 w' (MapRep K b (upd f a v) • F) := by
  obtain ⟨es, clock, h, H⟩ := H.map
  have hb := H.get.2
  rcases h.find a with ⟨h1, h2, h3⟩ | ⟨j, e, h1, h2, h3, h4⟩
  · have hrun : (Instr.mapUpdate t (.map (some b)) (K.mk a) v).run P w = .ok () (ChangeMaps.setBlock w b (.map (es.push { key := K.mk a, val := v, born := clock }) (clock + 1))) := by
      simp [ChangeMaps.setBlock, Instr.mapUpdate, run_underlying ht, MapKept.run_getObj_map hb, MapKept.run_checkKey hk (K.key a), MapKept.run_findKey hk h1, MapKept.run_setObj_map _ hb, Result.andThen]
    refine e_skip (w' := ChangeMaps.setBlock w b (.map (es.push { key := K.mk a, val := v, born := clock }) (clock + 1))) (fun ρ hρ d pos aft g => ?_) (Holds.mk_map (es := es.push { key := K.mk a, val := v, born := clock }) (clock := clock + 1) ⟨stamped_push h.1 h3, ?_, ?_⟩ (H.setB _))
    · simp only [execOp, hρ _ _ hx, hρ _ _ hy, hρ _ _ hz, Sem.run_bind]
      rw [hrun]; rfl
    · intro q hq
      simp only [Array.toList_push, List.mem_append, List.mem_singleton] at hq
      rcases hq with hq | rfl
      · exact h.2.1 q hq
      · exact K.key a
    · intro c u
      simp only [Array.toList_push, List.mem_append, List.mem_singleton, upd]
      by_cases hc : c = a
      · subst hc
        rw [if_pos rfl]
        constructor
        · intro hu; cases hu; exact ⟨_, .inr rfl, rfl, rfl⟩
        · rintro ⟨q, hq | rfl, hqk, hqv⟩
          · exact absurd hqk (h3 q hq)
          · rw [← hqv]
      · rw [if_neg hc, h.2.2 c u]
        constructor
        · rintro ⟨q, hq, hqk, hqv⟩; exact ⟨q, .inl hq, hqk, hqv⟩
        · rintro ⟨q, hq | rfl, hqk, hqv⟩
          · exact ⟨q, hq, hqk, hqv⟩
          · exact absurd (K.inj _ _ hqk).symm hc
  · have hj : es[j]? = some e := by simpa using h2
    have hrun : (Instr.mapUpdate t (.map (some b)) (K.mk a) v).run P w = .ok () (ChangeMaps.setBlock w b (.map (es.modify j fun e => { e with key := K.mk a, val := v }) clock)) := by
      simp [ChangeMaps.setBlock, Instr.mapUpdate, run_underlying ht, MapKept.run_getObj_map hb, MapKept.run_checkKey hk (K.key a), MapKept.run_findKey hk h1, hj, h3, MapKept.run_keyThatStays (K.key a), MapKept.run_setObj_map _ hb, Result.andThen]
    have hkey : ∀ e', es[j]? = some e' → ({ e' with key := K.mk a, val := v } : MapEntry).key = e'.key := fun e' he' => by rw [hj] at he'; cases he'; exact h3.symm
    have hst : Stamped (es.modify j fun e => { e with key := K.mk a, val := v }) clock := stamped_modify h.1 _ _ (fun _ _ => rfl) (fun e' _ he' => hkey e' he')
    have hmem : ∀ q, q ∈ (es.modify j fun e => { e with key := K.mk a, val := v }).toList ↔ (q = { e with key := K.mk a, val := v } ∨ q ∈ es.toList ∧ q.key ≠ K.mk a) := by
      intro q
      have hee : e ∈ es.toList := List.mem_of_getElem? h2
      constructor
      · intro hq
        obtain ⟨i, hi⟩ := List.getElem?_of_mem hq
        rw [Array.getElem?_toList, Array.getElem?_modify] at hi
        by_cases hij : j = i
        · subst hij
          rw [if_pos rfl, hj] at hi
          exact .inl (by simpa using hi.symm)
        · rw [if_neg hij] at hi
          have hqm : q ∈ es.toList := Array.mem_toList_iff.2 (Array.mem_of_getElem? hi)
          refine .inr ⟨hqm, fun hqk => ?_⟩
          have he : q = e := h.same hqm hee (hqk.trans h3.symm)
          subst he
          have hn := h.1.2.1
          have h5 : (es.toList.map (·.born))[i]? = some q.born := by rw [List.getElem?_map, Array.getElem?_toList, hi]; rfl
          have h6 : (es.toList.map (·.born))[j]? = some q.born := by rw [List.getElem?_map, h2]; rfl
          have hlt : i < (es.toList.map (·.born)).length := (List.getElem?_eq_some_iff.1 h5).1
          have hlt2 : j < (es.toList.map (·.born)).length := (List.getElem?_eq_some_iff.1 h6).1
          exact hij ((List.getElem?_inj hlt2 hn).1 (h6.trans h5.symm))
      · rintro (rfl | ⟨hq, hqk⟩)
        · apply List.mem_of_getElem? (i := j)
          rw [Array.getElem?_toList, Array.getElem?_modify, if_pos rfl, hj]; rfl
        · obtain ⟨i, hi⟩ := List.getElem?_of_mem hq
          have hij : j ≠ i := by
            rintro rfl
            rw [h2] at hi; cases hi
            exact hqk h3
          apply List.mem_of_getElem? (i := i)
          rw [Array.getElem?_toList, Array.getElem?_modify, if_neg hij]
          rwa [Array.getElem?_toList] at hi
    refine e_skip (w' := ChangeMaps.setBlock w b (.map (es.modify j fun e => { e with key := K.mk a, val := v }) clock)) (fun ρ hρ d pos aft g => ?_) (Holds.mk_map (es := es.modify j fun e => { e with key := K.mk a, val := v }) (clock := clock) ⟨hst, isKey_modify h.2.1 _ _ hkey, ?_⟩ (H.setB _))
    · simp only [execOp, hρ _ _ hx, hρ _ _ hy, hρ _ _ hz, Sem.run_bind]
      rw [hrun]; rfl
    · intro c u
      simp only [hmem, upd]
      by_cases hc : c = a
      · subst hc
        rw [if_pos rfl]
        constructor
        · intro hu; cases hu; exact ⟨_, .inl rfl, rfl, rfl⟩
        · rintro ⟨q, rfl | ⟨hq, hqn⟩, hqk, hqv⟩
          · rw [← hqv]
          · exact absurd hqk hqn
      · rw [if_neg hc, h.2.2 c u]
        constructor
        · rintro ⟨q, hq, hqk, hqv⟩
          exact ⟨q, .inr ⟨hq, fun hqa => hc (K.inj _ _ (hqk.symm.trans hqa))⟩, hqk, hqv⟩
        · rintro ⟨q, rfl | ⟨hq, hqn⟩, hqk, hqv⟩
          · exact absurd (K.inj _ _ hqk).symm hc
          · exact ⟨q, hq, hqk, hqv⟩
/-- An iterator over a map: the keys that it has handed out, how many are left. -/
def ItIs (K : Key α) (f : α → Option Value) (es : Array MapEntry) (clock : Nat) (seen : Array Nat) (S : List α) (n : Nat) : Prop :=
  MapIs K f es clock ∧ (∃ xs : List MapEntry, (∀ x ∈ xs, x ∈ es.toList) ∧ seen.toList = xs.map (·.born) ∧ xs.map (·.key) = S.map K.mk) ∧ (leftOf es seen).size = n
def MapIt (K : Key α) (b it : Nat) (f : α → Option Value) (S : List α) (n : Nat) : HP := exHP fun (x : Array MapEntry × Nat × Array Nat) => fact (ItIs K f x.1 x.2.1 x.2.2 S n) • blk it (.mapIter (some b) x.2.1 x.2.2 x.2.1) • blk b (.map x.1 x.2.1)
theorem Holds.mapIt (H : Holds w0 w (MapIt K b it f S n • F)) : ∃ es clock seen, ItIs K f es clock seen S n ∧ Holds w0 w (blk it (.mapIter (some b) clock seen clock) • blk b (.map es clock) • F) := by
  obtain ⟨⟨es, clock, seen⟩, H⟩ := H.ex_sep
  obtain ⟨h, H⟩ := H.flat.fact
  exact ⟨es, clock, seen, h, H.flat⟩
theorem Holds.mk_mapIt {seen : Array Nat} (h : ItIs K f es clock seen S n) (H : Holds w0 w (blk it (.mapIter (some b) clock seen clock) • blk b (.map es clock) • F)) : Holds w0 w (MapIt K b it f S n • F) :=
  Holds.mk_ex_sep (es, clock, seen) (Holds.deep (Holds.mk_fact h (H.of_eq (by ac_rfl))))
theorem Holds.mapIt_map (H : Holds w0 w (MapIt K b it f S n • F)) : Holds w0 w (MapRep K b f • F) := by
  obtain ⟨es, clock, seen, h, H⟩ := H.mapIt
  exact Holds.mk_map h.1 H.right
theorem e_range_map {t kt et : TypeId} (H : Holds w0 w (MapRep K b f • F)) (ht : P.underlying t = some (.map kt et)) (hx : ev L x = some (.map (some b))) :
    Eff P L (.range t x) ty w fun v w' => ∃ it n, v = .pointer (some ⟨it, 0, none⟩) ∧ Holds w0 w' (MapIt K b it f [] n • F) := by
  obtain ⟨es, clock, h, H⟩ := H.map
  refine e_val (v := .pointer (some ⟨w.heap.size, 0, none⟩)) (w' := w.alloc (.mapIter (some b) clock #[] clock)) ?_ ⟨_, _, rfl, Holds.mk_mapIt ⟨h, ⟨[], by simp, rfl, rfl⟩, rfl⟩ (H.alloc _)⟩
  intro ρ hρ d pos aft g
  simp only [execOp, hρ _ _ hx, Sem.run_bind]
  rw [run_range_map w t kt et b es clock ht H.get.2]
  rfl
/-- What 'next' yields. -/
def nxV (K : Key α) : Option (α × Value) → Value
  | some (a, u) => .tuple #[.bool true, K.mk a, u]
  | none => .tuple #[.bool false]
def NxOk (f : α → Option Value) (S : List α) (n : Nat) (S' : List α) (n' : Nat) : Option (α × Value) → Prop
  | some (a, u) => f a = some u ∧ a ∉ S ∧ n' < n ∧ S' = S ++ [a]
  | none => S' = S ∧ n' = n ∧ ∀ a u, f a = some u → a ∈ S
theorem left_lt {es : Array MapEntry} {seen : Array Nat} {e : MapEntry} (he : e ∈ (leftOf es seen).toList) : (leftOf es (seen.push e.born)).size < (leftOf es seen).size := by
  unfold leftOf at *
  rw [Array.toList_filter, List.mem_filter] at he
  have e1 : ∀ q : MapEntry → Bool, (es.filter q).size = (es.toList.filter q).length := fun q => by rw [← Array.toList_filter, Array.length_toList]
  rw [e1, e1]
  refine filter_lt _ _ (fun x hx => ?_) e he.2 ?_ es.toList he.1
  · simp only [Bool.not_eq_true', Array.contains_push, Bool.or_eq_false_iff] at hx ⊢
    exact hx.1
  · simp
theorem e_next_map (H : Holds w0 w (MapIt K b it f S n • F)) (hx : ev L x = some (.pointer (some ⟨it, 0, none⟩))) :
    Eff P L (.next x false) ty w fun v w' => ∃ o S' n', v = nxV K o ∧ NxOk f S n S' n' o ∧ Holds w0 w' (MapIt K b it f S' n' • F) := by
  obtain ⟨es, clock, seen, ⟨hm, ⟨xs, hxs, hse, hS⟩, hn⟩, H⟩ := H.mapIt
  have hr := H.get.2
  have hb := H.swap.get.2
  rcases run_next_at (P := P) w ty it b clock clock seen es clock hr hb hm.1.1 (Nat.le_refl _) with ⟨h0, hrun⟩ | ⟨e, he, w1, hw1, hrun⟩
  · refine e_val (v := nxV K none) (w' := w) (fun ρ hρ d pos aft g => ?_) ⟨none, S, n, rfl, ⟨rfl, rfl, fun a u ha => ?_⟩, Holds.mk_mapIt ⟨hm, ⟨xs, hxs, hse, hS⟩, hn⟩ H⟩
    · simp only [execOp, hρ _ _ hx, Sem.run_bind]
      rw [hrun]; rfl
    · obtain ⟨y, hy, hyk, _⟩ := (hm.2.2 a u).1 ha
      have hys : seen.contains y.born = true := by
        cases hc : seen.contains y.born with
        | true => rfl
        | false =>
          have hyl : y ∈ (leftOf es seen).toList := by unfold leftOf; rw [Array.toList_filter, List.mem_filter]; exact ⟨hy, by rw [hc]; rfl⟩
          have := List.length_pos_of_mem hyl
          rw [Array.length_toList] at this
          omega
      have hys' : y.born ∈ seen.toList := by simpa using hys
      rw [hse] at hys'
      obtain ⟨q, hq, hqb⟩ := List.mem_map.1 hys'
      have hqy : q = y := born_eq hm.1.2.1 (hxs q hq) hy hqb
      subst hqy
      have : K.mk a ∈ S.map K.mk := by rw [← hS]; exact List.mem_map.2 ⟨q, hq, hyk⟩
      obtain ⟨c, hc, hce⟩ := List.mem_map.1 this
      rw [← K.inj _ _ hce]; exact hc
  · have hel : e ∈ es.toList ∧ seen.contains e.born = false := by
      have := he
      unfold leftOf at this
      rw [Array.toList_filter, List.mem_filter] at this
      exact ⟨this.1, by simpa using this.2⟩
    obtain ⟨a, ha⟩ := K.onto e.key (hm.2.1 e hel.1)
    have hfa : f a = some e.val := (hm.2.2 a e.val).2 ⟨e, hel.1, ha.symm, rfl⟩
    have hns : a ∉ S := fun hs => by
      have : K.mk a ∈ S.map K.mk := List.mem_map.2 ⟨a, hs, rfl⟩
      rw [← hS] at this
      obtain ⟨q, hq, hqk⟩ := List.mem_map.1 this
      have hqe : q = e := hm.same (hxs q hq) hel.1 (hqk.trans ha)
      subst hqe
      have h9 : q.born ∈ seen.toList := by rw [hse]; exact List.mem_map.2 ⟨q, hq, rfl⟩
      have h8 : seen.contains q.born = true := by simpa using h9
      rw [hel.2] at h8; cases h8
    have hval : Val P L (.next x false) ty w (nxV K (some (a, e.val))) (ChangeMaps.setBlock w1 it (.mapIter (some b) clock (seen.push e.born) clock)) := fun ρ hρ d pos aft g => by
      simp only [execOp, hρ _ _ hx, Sem.run_bind]
      rw [hrun]
      simp only [nxV, ha]
      rfl
    have hheap : w1.heap = w.heap := by rcases hw1 with rfl | rfl <;> rfl
    have hr1 : w1.heap[it]? = some (.mapIter (some b) clock seen clock) := by rw [hheap]; exact hr
    refine e_val hval ⟨some (a, e.val), S ++ [a], (leftOf es (seen.push e.born)).size, rfl, ⟨hfa, hns, by rw [← hn]; exact left_lt he, rfl⟩, Holds.mk_mapIt (seen := seen.push e.born) ⟨hm, ⟨xs ++ [e], ?_, ?_, ?_⟩, rfl⟩ (Holds.setB (w := w1) (o := .mapIter (some b) clock seen clock) ?_ _)⟩
    · intro q hq
      rcases List.mem_append.1 hq with hq | hq
      · exact hxs q hq
      · rw [List.mem_singleton.1 hq]; exact hel.1
    · rw [Array.toList_push, hse, List.map_append]; rfl
    · rw [List.map_append, List.map_append, hS]; simp [ha]
    · rcases hw1 with rfl | rfl
      · exact H
      · exact H.drew
theorem r_nx0 {o : Option (α × Value)} (hx : ev L x = some (nxV K o)) : Val P L (.extract x 0) ty w (.bool o.isSome) w := by
  cases o with
  | none => exact r_extract hx rfl
  | some p => obtain ⟨a, u⟩ := p; exact r_extract hx rfl
/-- The round's key and element. -/
theorem r_entry {u : Value} (H : Holds w0 w (MapIt K b it f (S ++ [a]) n • F)) (hf : f a = some u) (hx : ev L x = some (.pointer (some ⟨it, 0, none⟩))) : Val P L (.entry x) ty w (.tuple #[K.mk a, u]) w := by
  obtain ⟨es, clock, seen, ⟨hm, ⟨xs, hxs, hse, hS⟩, hn⟩, H⟩ := H.mapIt
  intro ρ hρ d pos aft g
  have hne : xs ≠ [] := by
    rintro rfl
    have := congrArg List.length hS
    simp at this
  obtain ⟨ys, e, rfl⟩ : ∃ ys e, xs = ys ++ [e] := ⟨xs.dropLast, xs.getLast hne, (List.dropLast_concat_getLast hne).symm⟩
  have he : e ∈ es.toList := hxs e (by simp)
  have hk : e.key = K.mk a := by
    rw [List.map_append, List.map_append] at hS
    have := List.append_inj_right' hS rfl
    simpa using this
  have hv : e.val = u := by
    have h9 := (hm.2.2 a e.val).2 ⟨e, he, hk, rfl⟩
    rw [hf] at h9; cases h9; rfl
  have hsp : seen = (ys.map (·.born)).toArray.push e.born := by
    apply Array.ext'
    rw [hse]; simp
  have hr := H.get.2
  rw [hsp] at hr
  simp only [execOp, hρ _ _ hx, Sem.run_bind]
  rw [run_entry_at w it b clock _ es clock e hr H.swap.get.2 he hm.1.2.1, hk, hv]
  rfl
end
end Go.Proofs.YtgmpclifphbjkaaGreatDoor
end
section
/- Lists of edits: the groups that are told, the last one first. -/
set_option linter.unusedSimpArgs false
set_option linter.unusedVariables false
namespace Go.Proofs.YtgmpclifphbjkaaGreatDoor
open Go.RowKit
/-- So many of the groups, the last one first, as a slice of slices in a variable. -/
def grpHP (c : Nat) (G : List (List EdA)) (N : List EdA) (k : Nat) : HP := exHP fun (x : Value × List (Value × List BEd)) => fact (x.2.map (fun g => g.2.map BEd.says) = nowG N ++ G.reverse.take k) • blk c (.cells #[x.1] 167 (0, 0)) • EdLL x.1 x.2
theorem rev_succ {G : List (List EdA)} {k : Nat} (hk : k < G.length) : G.reverse.take (k + 1) = G.reverse.take k ++ [G.getD (G.length - (k + 1)) []] := by
  rw [List.take_succ_eq_append_getElem (by simpa using hk)]
  congr 1
  rw [List.getElem_reverse, List.getD_eq_getElem?_getD, List.getElem?_eq_getElem (by omega)]
  have e : G.length - 1 - k = G.length - (k + 1) := by omega
  simp only [Option.getD_some, e]
section
variable {w0 w : World} {F : HP} {p c k : Nat} {G : List (List EdA)} {N : List EdA} {op : Int} {v u : Value} {es fs : List BEd} {gs hs : List (Value × List BEd)}
theorem Holds.grp_open (H : Holds w0 w (grpHP c G N k • F)) : ∃ u hs, hs.map (fun g => g.2.map BEd.says) = nowG N ++ G.reverse.take k ∧ hs.length ≤ G.length + 1 ∧ Holds w0 w (blk c (.cells #[u] 167 (0, 0)) • Row 64 1 u hs.length (hs.map (·.1)) • elsK hs • F) := by
  obtain ⟨⟨u, hs⟩, H⟩ := H.ex_sep
  obtain ⟨h, H⟩ := H.flat.fact
  refine ⟨u, hs, h, ?_, (H.flat.swap.edLL).f3⟩
  have := congrArg List.length h
  have := nowG_len N
  simp only [List.length_map, List.length_append, List.length_take, List.length_reverse] at *
  omega
theorem Holds.mk_grp (h : hs.map (fun g => g.2.map BEd.says) = nowG N ++ G.reverse.take k) (H : Holds w0 w (blk c (.cells #[u] 167 (0, 0)) • EdLL u hs • F)) : Holds w0 w (grpHP c G N k • F) :=
  Holds.mk_ex_sep (u, hs) (Holds.deep (Holds.mk_fact h H.deep))
theorem back2_ret (H : Holds w0 w F) (hv : v.oneCell' = true) : Ret Tryz.prog 168 #[v] w fun v' w' => ∃ b, v' = .func (.func 195) #[] #[.pointer (some ⟨b, 0, none⟩)] ∧ Holds w0 w' (blk b (.cells #[v] 167 (0, 0)) • F) := by
  refine ret_enter Tryz.func168 rfl Tryz.ntmps168 (Nat.le_of_ble_eq_true rfl) ?_
  dsimp only [slots0, Nat.reduceAdd]
  refine wc_seq ?_
  refine wc_region ?_
  refine wl_eff (e_boxL (l := [_]) H rfl (by first | rfl | exact one_cells (by first | rfl | assumption))) (ltn rfl) ?_
  rintro _ w1 ⟨b1, rfl, H1⟩
  refine wl_val (r_assign rfl) (ltn rfl) ?_
  refine wl_nil ?_
  refine wq_seq ?_
  refine wc_seq ?_
  refine wc_region ?_
  refine wl_val (r_makeFunc rfl rfl) (ltn rfl) ?_
  refine wl_val (r_assign rfl) (ltn rfl) ?_
  refine wl_nil ?_
  refine wq_seq ?_
  refine wc_ret ?_
  refine wq_end1 (.inl rfl) Tryz.results168 rfl ?_
  exact ⟨_, rfl, H1⟩
theorem back2_iter (b : Nat) : Iter Tryz.prog w0 (.func (.func 195) #[] #[.pointer (some ⟨b, 0, none⟩)]) (blk b (.cells #[v] 167 (0, 0)) • Row 64 1 v gs.length (gs.map (·.1)) • elsK gs) gs.length
    (fun k vs A => ∃ gl ges, gs.getD (gs.length - (k + 1)) default = (gl, ges) ∧ vs = [.int .i64 ((gs.length - (k + 1) : Nat) : Int), gl] ∧ A = elK gl ges) := by
  intro l J X w hy H
  refine ⟨195, [], [.pointer (some ⟨b, 0, none⟩)], _, _, rfl, Tryz.func195, rfl, rfl, ?_⟩
  have H1 : Holds w0 w (blk b (.cells #[v] 167 (0, 0)) • Row 64 1 v gs.length (gs.map (·.1)) • elsK gs • J 0) := H.of_eq (by ac_rfl)
  obtain ⟨a, c, hv, hc1, hc2, _⟩ := (H1.swap.row_rd).form
  subst hv
  simp only [List.nil_append, List.cons_append]
  refine ret_enter Tryz.func195 rfl Tryz.ntmps195 (Nat.le_of_ble_eq_true rfl) ?_
  dsimp only [slots0, Nat.reduceAdd]
  refine wc_seq ?_
  refine wc_region ?_
  refine wl_val (r_load (plain_of Tryz.underlying167 rfl) rfl (cell_of_blk (H1).get.2 rfl)) (ltn rfl) ?_
  refine wl_val (r_lenS ((H1.f2).row_rd) Tryz.underlying167 rfl) (ltn rfl) ?_
  refine wl_val (r_sub rfl rfl (by omega)) (ltn rfl) ?_
  refine wl_val (r_assign rfl) (ltn rfl) ?_
  refine wl_nil ?_
  refine wq_seq ?_
  refine wc_block ?_
  refine wc_loop [(0, _), (1, _)] (fun (k : Nat) => [(3, .int .i64 ((k : Int) - 1))]) (fun (k : Nat) W => k ≤ gs.length ∧ Holds w0 W (blk b (.cells #[.slice a gs.length c] 167 (0, 0)) • Row 64 1 (.slice a gs.length c) gs.length (gs.map (·.1)) • elsK gs • J (gs.length - k))) (fun (k : Nat) => k) (gs.length) (Sub.cons rfl (Sub.cons rfl (Sub.nil _))) (Sub.cons rfl (Sub.nil _)) ⟨by omega, by rw [Nat.sub_self]; exact H1⟩ ?_
  rintro k w1 ⟨hk, HL⟩
  dsimp only [List.cons_append, List.nil_append]
  refine wc_seq ?_
  refine wc_seq ?_
  refine wc_region ?_
  refine wl_val (r_move rfl) (ltn rfl) ?_
  refine wl_val (r_geq rfl rfl) (ltn rfl) ?_
  refine wl_nil ?_
  refine wq_seq ?_
  refine wc_cond rfl (fun h1 => ?_) (fun h1 => ?_)
  · (try simp only [cmpS] at h1)
    try (exfalso; first | contradiction | omega)
    all_goals
      
      refine wc_skip ?_
      refine wq_seq ?_
      refine wc_seq ?_
      refine wc_block ?_
      refine wc_seq ?_
      obtain ⟨m, rfl⟩ : ∃ m, k = m + 1 := ⟨k - 1, by omega⟩
      rw [show (((m + 1 : Nat) : Int) - 1) = (m : Int) from by omega]
      have hkl : m < gs.length := by omega
      refine wc_region ?_
      refine wl_val (r_move rfl) (ltn rfl) ?_
      refine wl_val (r_move rfl) (ltn rfl) ?_
      refine wl_val (r_load (plain_of Tryz.underlying167 rfl) rfl (cell_of_blk (HL).get.2 rfl)) (ltn rfl) ?_
      refine wl_val (r_move rfl) (ltn rfl) ?_
      obtain ⟨bv, ov, cv, ev⟩ := Rd.posV ((HL.f2).row_rd) (by omega)
      cases ev
      refine wl_val (r_index Tryz.underlying167 Tryz.sizeOf64 rfl rfl (by omega)) (ltn rfl) ?_
      refine wl_val (r_load (plain_of Tryz.underlying64 rfl) rfl (by first | exact Rd.at1n ((HL.f2).row_rd) (by omega) | exact Rd.at0 ((HL.f2).row_rd) (by omega) | exact Rd.at1 ((HL.f2).row_rd) (by omega))) (ltn rfl) ?_
      rw [show (gs.map (·.1)).getD m undef = (gs.getD m default).1 from by simp [List.getD_eq_getElem?_getD, hkl]]
      obtain ⟨gl, ges, hg⟩ : ∃ gl ges, gs.getD m default = (gl, ges) := ⟨_, _, rfl⟩
      rw [hg]
      have Ho2 := HL.f3
      have Hc3 := Ho2.elsK_at hkl hg
      refine wl_eff (e_yield rfl rfl (hy (gs.length - (m + 1)) (by omega) _ _ ⟨gl, ges, by rw [show gs.length - (gs.length - (m + 1) + 1) = m from by omega]; exact hg, by rw [show gs.length - (gs.length - (m + 1) + 1) = m from by omega], rfl⟩ (elsK gs • Row 64 1 (.slice (some ⟨bv, ov, none⟩) gs.length c) gs.length (gs.map (·.1)) • blk b (.cells #[.slice (some ⟨bv, ov, none⟩) gs.length c] 167 (0, 0))) _ (Hc3.of_eq (by ac_rfl))).bool) (ltn rfl) ?_
      rintro _ w4 ⟨t, rfl, ht1, ht2⟩
      refine wl_val (r_not rfl) (ltn rfl) ?_
      refine wl_nil ?_
      refine wq_seq ?_
      refine wc_cond rfl (fun h2 => ?_) (fun h2 => ?_)
      · (try simp only [cmpS] at h2)
        try (exfalso; first | contradiction | omega)
        all_goals
          have HX := ht2 (by simpa using h2)
          refine wc_ret ?_
          refine wq_block_ret ?_
          refine wq_then_ret ?_
          refine wq_then_ret ?_
          refine wq_block_ret ?_
          refine wq_end0 (.inl rfl) Tryz.results195 ?_
          exact .inr (HX.of_eq (by ac_rfl))
      · (try simp only [cmpS] at h2)
        try (exfalso; first | contradiction | omega)
        all_goals
          have HN : Holds w0 w4 (blk b (.cells #[.slice (some ⟨bv, ov, none⟩) gs.length c] 167 (0, 0)) • Row 64 1 (.slice (some ⟨bv, ov, none⟩) gs.length c) gs.length (gs.map (·.1)) • elsK gs • J (gs.length - m)) := by
            have h9 := ht1 (by simpa using h2)
            rw [show gs.length - (m + 1) + 1 = gs.length - m from by omega] at h9
            exact h9.of_eq (by ac_rfl)
          refine wc_skip ?_
          refine wq_block_normal ?_
          refine wq_seq ?_
          refine wc_region ?_
          refine wl_val (r_move rfl) (ltn rfl) ?_
          refine wl_val (r_sub rfl rfl (by omega)) (ltn rfl) ?_
          refine wl_val (r_assign rfl) (ltn rfl) ?_
          refine wl_nil ?_
          refine wq_round (m) ?_ ?_ ?_ ?_
          · exact (Sub.cons rfl (Sub.nil _))
          · exact (Sub.cons rfl (Sub.cons rfl (Sub.nil _)))
          · (try dsimp only)
            first | done | exact ⟨by omega, HN.f3.f3.f3⟩
          · (try dsimp only); omega
  · (try simp only [cmpS] at h1)
    try (exfalso; first | contradiction | omega)
    all_goals
      
      refine wc_exit ?_
      refine wq_then_exit ?_
      refine wq_then_exit ?_
      refine wq_block_hit ?_
      refine wq_end0 (.inr rfl) Tryz.results195 ?_
      obtain rfl : k = 0 := by omega
      rw [Nat.sub_zero] at HL
      exact .inl (HL.of_eq (by ac_rfl))
theorem undo_groups_ret (H : Holds w0 w (UList p G N op • F)) : Ret Tryz.prog 120 #[.pointer (some ⟨p, 0, none⟩)] w fun v w' => ∃ c, v = .func (.func 169) #[] #[.pointer (some ⟨c, 0, none⟩)] ∧ Holds w0 w' (grpHP c G N G.length • UList p G N op • F) := by
  refine ret_enter Tryz.func120 rfl Tryz.ntmps120 (Nat.le_of_ble_eq_true rfl) ?_
  dsimp only [slots0, Nat.reduceAdd]
  refine wc_seq ?_
  refine wc_region ?_
  refine wl_val (r_assign rfl) (ltn rfl) ?_
  refine wl_nil ?_
  refine wq_seq ?_
  refine wc_seq ?_
  refine wc_region ?_
  refine wl_eff (e_allocL (l := [_]) H Tryz.zeroValue167 rfl) (ltn rfl) ?_
  rintro _ w1 ⟨b1, rfl, H1⟩
  refine wl_nil ?_
  refine wq_seq ?_
  refine wc_seq ?_
  refine wc_seq ?_
  refine wc_region ?_
  refine wl_val (r_move rfl) (ltn rfl) ?_
  refine wl_eff (e_call (r_call rfl Tryz.func127 rfl rfl) (undo_none_ret H1.f2)) (ltn rfl) ?_
  rintro _ _ ⟨rfl, rfl⟩
  refine wl_val (r_not rfl) (ltn rfl) ?_
  obtain ⟨gv_p, nv_p, gs_p, now_p, k1_p, k2_p, k3_p, k4_p, k5_p, k6_p, HU_p⟩ := (H1.f2).ulist
  have hLn : now_p.length ≤ 16384 := by omega
  have hBn := EB_of k3_p k1_p.2.2.2.2.2
  refine wl_nil ?_
  refine wq_seq ?_
  refine wc_cond rfl (fun h1 => ?_) (fun h => by exfalso; (try simp only [cmpS] at h); simp at h)
  (try simp only [cmpS] at h1)
  refine wc_join [(0, _), (3, _)] (fun (_ : Unit) => []) (fun (_ : Unit) W => Holds w0 W (grpHP b1 G N 0 • blk p (.cells #[gv_p, nv_p, .int .i64 op, .int .i64 (uTot G N : Nat), .bool true] 171 (0, 0)) • Row 64 1 gv_p gs_p.length (gs_p.map (·.1)) • elsK gs_p • Row 120 3 nv_p now_p.length (now_p.flatMap BEd.enc) • edsK now_p • F)) (Sub.cons rfl (Sub.cons rfl (Sub.nil _))) ?_ ?_
  · rintro _ w4 HJ
    dsimp only [List.cons_append, List.nil_append]
    refine wc_seq ?_
    refine wc_region ?_
    refine wl_val (r_move rfl) (ltn rfl) ?_
    refine wl_val (r_nil rfl) (ltn rfl) ?_
    refine wl_val (r_fieldA 0 Tryz.underlying171 rfl rfl Tryz.sizeOf169 (by decide) rfl (by first | exact Nat.zero_add _ | rfl)) (ltn rfl) ?_
    refine wl_val (r_fieldA 0 Tryz.underlying169 rfl rfl Tryz.sizeOf167 (by decide) rfl (by first | exact Nat.zero_add _ | rfl)) (ltn rfl) ?_
    refine wl_val (r_load (plain_of Tryz.underlying167 rfl) rfl (cell_of_blk (HJ.f2).get.2 rfl)) (ltn rfl) ?_
    refine wl_eff (e_call (r_call rfl Tryz.func168 rfl rfl) (back2_ret HJ (Rd.one ((HJ.f3).row_rd)))) (ltn rfl) ?_
    rintro _ w5 ⟨bB5, rfl, H5⟩
    refine wl_nil ?_
    refine wq_seq ?_
    refine wc_block ?_
    obtain ⟨R6, hR6, HR6⟩ := Holds.hide4 (H5.f5.f5.f3.f4)
    refine wc_rangeFunc rfl (back2_iter bB5) (fun k => grpHP b1 G N k • R6) (fact False) (fun _ => fact False) (HR6.f4.f4.f4.f4.f4.f4.f4.g3.comm) (by rfl) ?_ ?_ ?_ ?_
    · rintro l7 k hkR0 vs7 A7 ⟨gl, ges, hg, rfl, rfl⟩ G7 w7 H7
      try simp only [sep_assoc, emp_sep, sep_emp] at H7
      refine ⟨rfl, ?_⟩
      dsimp only [zipL]
      obtain ⟨u, hs, hhs, hhl, HI⟩ := (H7.f2).grp_open
      have hge : ges.map BEd.says = G.getD (G.length - (k + 1)) [] := by
        rw [← k4_p, ← k2_p]
        have h9 : (gs_p.map (fun g => g.2.map BEd.says)).getD (gs_p.length - (k + 1)) [] = (gs_p.getD (gs_p.length - (k + 1)) default).2.map BEd.says := by simp [List.getD_eq_getElem?_getD, show gs_p.length - (k + 1) < gs_p.length by omega]
        rw [h9, hg]
      have hgm : G.getD (G.length - (k + 1)) [] ∈ G := getD_mem' (by omega)
      have hBg := EB_of hge (k1_p.2.2.2.2.1 _ hgm)
      have hLg : ges.length ≤ 16384 := by
        have h8 := k1_p.2.1
        unfold uTot at h8
        have h7 := congrArg List.length hge
        rw [List.length_map] at h7
        have h6 := len_mem hgm
        omega
      refine wc_region ?_
      refine wl_val (r_assign rfl) (ltn rfl) ?_
      refine wl_nil ?_
      refine wq_mid (HI.g5) ?_
      intro G8 w8 H8
      try simp only [sep_assoc] at H8
      refine wc_block ?_
      have H7d8 := H8.drew
      have hS7d8 := Holds.kp (H7d8.f4.f4.f4.f4)
      refine wd_beginK [0] hS7d8 (by kernel_rfl) (by kernel_rfl) rfl ?_
      refine wd_take 0 rfl (by kernel_rfl) (by kernel_rfl) hS7d8 (by decide) (fun W hW => r_load (plain_of Tryz.underlying167 rfl) rfl (cell_of_blk ((Kp.h hW)).get.2 rfl)) (ltn rfl) ?_
      refine wd_takeT 1 rfl (by kernel_rfl) (by kernel_rfl) hS7d8 (fun _ => r_move rfl) (ltn rfl) ?_
      refine wd_eff 2 rfl (by kernel_rfl) (e_call (r_call rfl Tryz.func164 rfl rfl) (copied_el_ret H7d8.f4 hBg hLg)) (ltn rfl) ?_
      rintro u9 w9 ⟨fs9, hfs9, H9⟩
      obtain ⟨es2, rfl⟩ : ∃ q, q = fs9 := ⟨_, rfl⟩
      have hes2 := hfs9
      have hS9n := Holds.kp (H9.f6.f6.f6.f6.f6.f6)
      refine keepK hS9n (fun W hW => (Kp.h hW).right.right.f4.f4.f4) ?_
      refine wd_eff 3 rfl (by kernel_rfl) (e_lit_row (vs := [_]) H9 Tryz.underlying167 Tryz.sizeOf64 Tryz.zeroValue64 rfl rfl rfl (by decide) (ones_cons (by first | rfl | exact Rd.one ((H9).row_rd)) ones_nil)) (ltn rfl) ?_
      rintro l10 w10 H10
      have hS10n := Holds.kp (H10.f7.f7.f7.f7.f7.f7.f7)
      refine keepK hS10n (fun W hW => (Kp.h hW).right.f6.f6.f6.f6.f6.f6) ?_
      refine wd_eff 4 rfl (by kernel_rfl) (e_append H10.f6 Tryz.underlying167 (show (Tryz.prog.info? 64).map (fun i => (i.zero, i.size, i.bytes)) = some (some (.slice none 0 0), 1, 24) by kernel_rfl) rfl rfl rfl ((H10).row_rd) (ones_cons (by first | rfl | exact Rd.one ((H10.f2).row_rd)) ones_nil) (by omega) (by omega)) (ltn rfl) ?_
      rintro l11 w11 H11
      have Hd12 := H11.f2.right
      have hS12n := Holds.kp (Hd12.f6.f6.f6.f6.f6.f6)
      refine keepX hS12n (by kernel_rfl) ?_
      refine wd_eff0 5 rfl (by kernel_rfl) (e_storeL 0 (l' := [_]) Hd12.f5 Tryz.sizeOf167 rfl rfl (by first | rfl | exact Rd.one ((Hd12).row_rd)) rfl rfl) ?_
      rintro _ w13 H13
      have hS13n := Holds.kp (H13.f6.f6.f6.f6.f6.f6)
      refine keepX hS13n (by kernel_rfl) ?_
      refine wd_done (by kernel_rfl) ?_
      refine wq_block_normal ?_
      refine wq_rnormal ?_
      have X := Holds.edL_freeze (es := es2) (H13.f5.right.f5.f3.f5.f5).deep
      exact (Holds.mk_grp (hs := hs ++ [(u9, es2)]) (by rw [List.map_append, hhs, rev_succ (by omega), ← hge, ← hes2, List.append_assoc]; rfl) (Holds.edLL_snoc X.swap).swap).deep
    · rintro D14 w14 H14
      have H14d := H14.ed
      try simp only [sep_assoc, emp_sep, sep_emp] at H14d
      have H14m := H14d.mark1
      subst hR6
      refine wq_block_normal ?_
      refine wq_seq ?_
      refine wc_seq ?_
      refine wc_region ?_
      refine wl_val (r_makeFunc rfl rfl) (ltn rfl) ?_
      refine wl_val (r_assign rfl) (ltn rfl) ?_
      refine wl_nil ?_
      refine wq_seq ?_
      refine wc_ret ?_
      refine wq_endM (.inl rfl) (H14m) (fun w15 H15 => ?_)
      refine ⟨_, res1 Tryz.results120 rfl, ?_⟩
      have hgl : grpHP b1 G N gs_p.length = grpHP b1 G N G.length := by rw [k4_p]
      rw [hgl] at H15
      have Ho17 := H15.f7.f7.f5.f5.f7
      have Hc18 := Holds.mk_ulistF k1_p k2_p k3_p rfl Ho17
      exact ⟨_, rfl, Hc18.f2.right.f2⟩
    · rintro D w H; exact absurd H.swap.fact.1 id
    · rintro id D w H; exact absurd H.swap.fact.1 fun h => h
  · skip
    refine wc_seq ?_
    refine wc_region ?_
    refine wl_val (r_move rfl) (ltn rfl) ?_
    refine wl_val (r_nil rfl) (ltn rfl) ?_
    refine wl_val (r_fieldA 0 Tryz.underlying171 rfl rfl Tryz.sizeOf169 (by decide) rfl (by first | exact Nat.zero_add _ | rfl)) (ltn rfl) ?_
    refine wl_val (r_fieldA 1 Tryz.underlying169 rfl rfl Tryz.sizeOf64 (by decide) rfl (by first | exact Nat.zero_add _ | rfl)) (ltn rfl) ?_
    refine wl_val (r_load (plain_of Tryz.underlying64 rfl) rfl (cell_of_blk (HU_p).get.2 rfl)) (ltn rfl) ?_
    refine wl_val (r_lenS ((HU_p.f4).row_rd) Tryz.underlying64 rfl) (ltn rfl) ?_
    refine wl_val (r_gtr rfl rfl) (ltn rfl) ?_
    refine wl_nil ?_
    refine wq_seq ?_
    refine wc_cond rfl (fun h2 => ?_) (fun h2 => ?_)
    · (try simp only [cmpS] at h2)
      have hN : nowG N = [N] := if_neg (by rintro rfl; exact absurd k5_p (by simp only [List.length_nil]; omega))
      have H4d18 := HU_p.drew
      have hS4d18 := Holds.kp (H4d18.f6.f6.f6.f6.f6.f6)
      refine wd_beginK [0, 5] hS4d18 (by kernel_rfl) (by kernel_rfl) rfl ?_
      refine wd_take 0 rfl (by kernel_rfl) (by kernel_rfl) hS4d18 (by decide) (fun W hW => r_load (plain_of Tryz.underlying167 rfl) rfl (cell_of_blk ((Kp.h hW).f6).get.2 rfl)) (ltn rfl) ?_
      refine wd_takeT 1 rfl (by kernel_rfl) (by kernel_rfl) hS4d18 (fun _ => r_move rfl) (ltn rfl) ?_
      refine wd_takeT 2 rfl (by kernel_rfl) (by kernel_rfl) hS4d18 (fun _ => r_nil rfl) (ltn rfl) ?_
      refine wd_takeT 3 rfl (by kernel_rfl) (by kernel_rfl) hS4d18 (fun _ => r_fieldA 0 Tryz.underlying171 rfl rfl Tryz.sizeOf169 (by decide) rfl (by first | exact Nat.zero_add _ | rfl)) (ltn rfl) ?_
      refine wd_takeT 4 rfl (by kernel_rfl) (by kernel_rfl) hS4d18 (fun _ => r_fieldA 1 Tryz.underlying169 rfl rfl Tryz.sizeOf64 (by decide) rfl (by first | exact Nat.zero_add _ | rfl)) (ltn rfl) ?_
      refine wd_take 5 rfl (by kernel_rfl) (by kernel_rfl) hS4d18 (by decide) (fun W hW => r_load (plain_of Tryz.underlying64 rfl) rfl (cell_of_blk ((Kp.h hW)).get.2 rfl)) (ltn rfl) ?_
      refine wd_eff 6 rfl (by kernel_rfl) (e_call (r_call rfl Tryz.func164 rfl rfl) (copied_row_ret H4d18.f5.f5 hBn hLn)) (ltn rfl) ?_
      rintro u19 w19 ⟨fs19, hfs19, H19⟩
      obtain ⟨es1, rfl⟩ : ∃ q, q = fs19 := ⟨_, rfl⟩
      have hes1 := hfs19
      have hS19n := Holds.kp (H19.f8.f8.f8.f8.f8.f8.f8.f8)
      refine keepK hS19n (fun W hW => (Kp.h hW).right.right.f6.f3.f3.f6.f6.f6) ?_
      refine wd_eff 7 rfl (by kernel_rfl) (e_lit_row (vs := [_]) H19 Tryz.underlying167 Tryz.sizeOf64 Tryz.zeroValue64 rfl rfl rfl (by decide) (ones_cons (by first | rfl | exact Rd.one ((H19).row_rd)) ones_nil)) (ltn rfl) ?_
      rintro l20 w20 H20
      have hS20n := Holds.kp (H20.f9.f9.f9.f9.f9.f9.f9.f9.f9)
      refine keepK hS20n (fun W hW => (Kp.h hW).right.f8.f8.f8.f8.f8.f8.f8.f8) ?_
      refine wd_eff 8 rfl (by kernel_rfl) (e_append (H20.row_nil none) Tryz.underlying167 (show (Tryz.prog.info? 64).map (fun i => (i.zero, i.size, i.bytes)) = some (some (.slice none 0 0), 1, 24) by kernel_rfl) rfl rfl rfl ((H20).row_rd) (ones_cons (by first | rfl | exact Rd.one ((H20.f2).row_rd)) ones_nil) (by omega) (by omega)) (ltn rfl) ?_
      rintro l21 w21 H21
      have Hd22 := H21.f2.right
      have hS22n := Holds.kp (Hd22.f9.f9.f9.f9.f9.f9.f9.f9.f9)
      refine keepX hS22n (by kernel_rfl) ?_
      refine wd_eff0 9 rfl (by kernel_rfl) (e_storeL 0 (l' := [_]) Hd22.f9 Tryz.sizeOf167 rfl rfl (by first | rfl | exact Rd.one ((Hd22).row_rd)) rfl rfl) ?_
      rintro _ w23 H23
      have hS23n := Holds.kp (H23.f9.f9.f9.f9.f9.f9.f9.f9.f9)
      refine keepX hS23n (by kernel_rfl) ?_
      have X := Holds.edL_freeze (es := es1) (H23.f6.f6.f9.f9.f9.f6.f7.f9.f9).deep
      have hJn : Holds w0 w23 (grpHP b1 G N 0 • blk p (.cells #[gv_p, nv_p, .int .i64 op, .int .i64 (uTot G N : Nat), .bool true] 171 (0, 0)) • Row 64 1 gv_p gs_p.length (gs_p.map (·.1)) • elsK gs_p • Row 120 3 nv_p now_p.length (now_p.flatMap BEd.enc) • edsK now_p • F) :=
        Holds.mk_grp (hs := [(u19, es1)]) (by rw [hN, ← k3_p, ← hes1]; rfl) (Holds.edLL_snoc (gs := []) X.elsK_nil.f3.f3.f2).swap
      refine wd_done (by kernel_rfl) ?_
      refine wq_join (()) ?_ ?_ ?_
      · exact (Sub.nil _)
      · exact (Sub.cons rfl (Sub.cons rfl (Sub.nil _)))
      · (try dsimp only)
        first | done | exact hJn
    · (try simp only [cmpS] at h2)
      have hN : nowG N = [] := if_pos (by rw [← k3_p, List.eq_nil_of_length_eq_zero (show now_p.length = 0 by omega)]; rfl)
      have hJn : Holds w0 w1 (grpHP b1 G N 0 • blk p (.cells #[gv_p, nv_p, .int .i64 op, .int .i64 (uTot G N : Nat), .bool true] 171 (0, 0)) • Row 64 1 gv_p gs_p.length (gs_p.map (·.1)) • elsK gs_p • Row 120 3 nv_p now_p.length (now_p.flatMap BEd.enc) • edsK now_p • F) :=
        Holds.mk_grp (hs := []) (by rw [hN]; rfl) ((HU_p.f5.f5.f5.f5.f5.f6).edLL_nil none).swap
      refine wc_skip ?_
      refine wq_join (()) ?_ ?_ ?_
      · exact (Sub.nil _)
      · exact (Sub.cons rfl (Sub.cons rfl (Sub.nil _)))
      · (try dsimp only)
        first | done | exact hJn
theorem groups_iter (c : Nat) (hB : ∀ g ∈ allG G N, ∀ e ∈ g, EB e) (hL : ∀ g ∈ allG G N, g.length ≤ 16384) : Iter Tryz.prog w0 (.func (.func 169) #[] #[.pointer (some ⟨c, 0, none⟩)]) (grpHP c G N G.length) (allG G N).length
    (fun k vs A => ∃ u, ∃ fs : List BEd, fs.map BEd.says = (allG G N).getD k [] ∧ vs = [u] ∧ A = EdL u fs) := by
  intro l J X w hy H
  refine ⟨169, [], [.pointer (some ⟨c, 0, none⟩)], _, _, rfl, Tryz.func169, rfl, rfl, ?_⟩
  obtain ⟨v, hs, hhs, hhl, H1⟩ := H.comm.grp_open
  have hhs' := hhs
  rw [List.take_of_length_le (by simp), ← allG_eq] at hhs
  have hlen : hs.length = (allG G N).length := by have := congrArg List.length hhs; simpa using this
  obtain ⟨a, d, hv, hc1, hc2, _⟩ := (H1.swap.row_rd).form
  subst hv
  simp only [List.nil_append, List.cons_append]
  refine ret_enter Tryz.func169 rfl Tryz.ntmps169 (Nat.le_of_ble_eq_true rfl) ?_
  dsimp only [slots0, Nat.reduceAdd]
  refine wc_seq ?_
  refine wc_region ?_
  refine wl_val (r_load (plain_of Tryz.underlying167 rfl) rfl (cell_of_blk (H1).get.2 rfl)) (ltn rfl) ?_
  refine wl_val (r_lenS ((H1.f2).row_rd) Tryz.underlying167 rfl) (ltn rfl) ?_
  refine wl_val (r_move rfl) (ltn rfl) ?_
  refine wl_nil ?_
  refine wq_seq ?_
  refine wc_block ?_
  refine wc_loop [(0, _), (5, _), (6, _)] (fun (k : Nat) => [(7, .int .i64 (k : Int))]) (fun (k : Nat) W => k ≤ hs.length ∧ Holds w0 W (blk c (.cells #[.slice a hs.length d] 167 (0, 0)) • Row 64 1 (.slice a hs.length d) hs.length (hs.map (·.1)) • elsK hs • J k)) (fun (k : Nat) => hs.length - k) (0) (Sub.cons rfl (Sub.cons rfl (Sub.cons rfl (Sub.nil _)))) (Sub.cons rfl (Sub.nil _)) ⟨by omega, H1⟩ ?_
  rintro k w1 ⟨hk, HL⟩
  dsimp only [List.cons_append, List.nil_append]
  refine wc_seq ?_
  refine wc_region ?_
  refine wl_val (r_lss rfl rfl) (ltn rfl) ?_
  refine wl_nil ?_
  refine wq_seq ?_
  refine wc_seq ?_
  refine wc_cond rfl (fun h1 => ?_) (fun h1 => ?_)
  · (try simp only [cmpS] at h1)
    try (exfalso; first | contradiction | omega)
    all_goals
      
      refine wc_skip ?_
      refine wq_seq ?_
      refine wc_seq ?_
      refine wc_block ?_
      refine wc_seq ?_
      refine wc_region ?_
      obtain ⟨bv, ov, cv, ev⟩ := Rd.posV ((HL.f2).row_rd) (by omega)
      cases ev
      refine wl_val (r_index Tryz.underlying167 Tryz.sizeOf64 rfl rfl (by omega)) (ltn rfl) ?_
      refine wl_val (r_load (plain_of Tryz.underlying64 rfl) rfl (by first | exact Rd.at1n ((HL.f2).row_rd) (by omega) | exact Rd.at0 ((HL.f2).row_rd) (by omega) | exact Rd.at1 ((HL.f2).row_rd) (by omega))) (ltn rfl) ?_
      have hkl : k < hs.length := by omega
      rw [show (hs.map (·.1)).getD k undef = (hs.getD k default).1 from by simp [List.getD_eq_getElem?_getD, hkl]]
      obtain ⟨gl, ges, hg⟩ : ∃ gl ges, hs.getD k default = (gl, ges) := ⟨_, _, rfl⟩
      rw [hg]
      have Ho2 := HL.f3
      have Hc3 := Ho2.elsK_at hkl hg
      have hge : ges.map BEd.says = (allG G N).getD k [] := by
        rw [← hhs]
        have h9 : (hs.map (fun g => g.2.map BEd.says)).getD k [] = (hs.getD k default).2.map BEd.says := by simp [List.getD_eq_getElem?_getD, hkl]
        rw [h9, hg]
      have hgm : (allG G N).getD k [] ∈ allG G N := getD_mem' (by omega)
      have hBg := EB_of hge (hB _ hgm)
      have hLg : ges.length ≤ 16384 := by
        have h7 := congrArg List.length hge
        rw [List.length_map] at h7
        have := hL _ hgm
        omega
      refine wl_val (r_assign rfl) (ltn rfl) ?_
      refine wl_nil ?_
      refine wq_seq ?_
      refine wc_seq ?_
      refine wc_region ?_
      refine wl_val (r_move rfl) (ltn rfl) ?_
      refine wl_val (r_move rfl) (ltn rfl) ?_
      refine wl_eff (e_call (r_call rfl Tryz.func164 rfl rfl) (copied_el_ret Hc3 hBg hLg)) (ltn rfl) ?_
      rintro u4 w4 ⟨fs4, hfs4, H4⟩
      obtain ⟨es2, rfl⟩ : ∃ q, q = fs4 := ⟨_, rfl⟩
      have hes2 := hfs4
      have Hd5 := H4.f3.right
      refine wl_eff (e_yield rfl rfl (hy k (by omega) _ _ ⟨_, es2, hes2.trans hge, rfl, rfl⟩ (elsK hs • Row 64 1 (.slice (some ⟨bv, ov, none⟩) hs.length d) hs.length (hs.map (·.1)) • blk c (.cells #[.slice (some ⟨bv, ov, none⟩) hs.length d] 167 (0, 0))) _ (Hd5.of_eq (by unfold EdL; ac_rfl))).bool) (ltn rfl) ?_
      rintro _ w6 ⟨t, rfl, ht1, ht2⟩
      refine wl_val (r_not rfl) (ltn rfl) ?_
      refine wl_nil ?_
      refine wq_seq ?_
      refine wc_cond rfl (fun h2 => ?_) (fun h2 => ?_)
      · (try simp only [cmpS] at h2)
        try (exfalso; first | contradiction | omega)
        all_goals
          have HX := ht2 (by simpa using h2)
          refine wc_ret ?_
          refine wq_block_ret ?_
          refine wq_then_ret ?_
          refine wq_then_ret ?_
          refine wq_block_ret ?_
          refine wq_end0 (.inl rfl) Tryz.results169 ?_
          exact .inr (Holds.comm (Holds.mk_grp (u := .slice (some ⟨bv, ov, none⟩) hs.length d) hhs' (HX.of_eq (by unfold EdLL; ac_rfl))))
      · (try simp only [cmpS] at h2)
        try (exfalso; first | contradiction | omega)
        all_goals
          have HN : Holds w0 w6 (blk c (.cells #[.slice (some ⟨bv, ov, none⟩) hs.length d] 167 (0, 0)) • Row 64 1 (.slice (some ⟨bv, ov, none⟩) hs.length d) hs.length (hs.map (·.1)) • elsK hs • J (k + 1)) := by
            have h9 := ht1 (by simpa using h2)
            exact h9.of_eq (by ac_rfl)
          refine wc_skip ?_
          refine wq_block_normal ?_
          refine wq_seq ?_
          refine wc_region ?_
          refine wl_val (r_add rfl rfl (by omega)) (ltn rfl) ?_
          refine wl_val (r_move rfl) (ltn rfl) ?_
          refine wl_nil ?_
          refine wq_round (k + 1) ?_ ?_ ?_ ?_
          · exact (Sub.cons rfl (Sub.nil _))
          · exact (Sub.cons rfl (Sub.cons rfl (Sub.cons rfl (Sub.nil _))))
          · (try dsimp only)
            first | done | exact ⟨by omega, HN.f3.f3.f3⟩
          · (try dsimp only); omega
  · (try simp only [cmpS] at h1)
    try (exfalso; first | contradiction | omega)
    all_goals
      
      refine wc_exit ?_
      refine wq_then_exit ?_
      refine wq_then_exit ?_
      refine wq_block_hit ?_
      refine wq_end0 (.inr rfl) Tryz.results169 ?_
      obtain rfl : k = hs.length := by omega
      rw [← hlen]
      exact .inl (Holds.comm (Holds.mk_grp (u := .slice a hs.length d) hhs' (HL.of_eq (by unfold EdLL; ac_rfl))))
end
end Go.Proofs.YtgmpclifphbjkaaGreatDoor
end
