import Derived.Test.YtnhhmieghbfalaaGreatDoorZ4
import Derived.Maps.RangeRun
import Derived.Test.YtnhhmieghbfalaaGreatDoorZ11
set_option linter.unusedSimpArgs false
set_option linter.unusedVariables false
/- Texts of mine, joined, their names in short: Map UGroups Ed EdTwin. -/
section
namespace Go.Proofs.YtnhhmieghbfalaaGreatDoor
open Go.RowKit Go.MapKept
structure Key (α : Type) where
  mkKey ::
  d : TypeDesc
  mk : α → Value
  key : ∀ a, IsKey d (mk a)
  inj : ∀ a b, mk a = mk b → a = b
  onto : ∀ v, IsKey d v → ∃ a, mk a = v
def KJ (k : IntKind) : Key Int := ⟨.int k, .int k, fun _ => rfl, fun _ _ h => by cases h; rfl, fun v h => by
  cases v <;> simp [IsKey] at h
  subst h
  exact ⟨_, rfl⟩⟩
abbrev zH : Key Int := KJ .i64
abbrev amC : Key Int := KJ .i32
def amD : Key ByteArray := ⟨.string, .string, fun _ => trivial, fun _ _ h => by cases h; rfl, fun v h => by
  cases v <;> simp [IsKey] at h
  exact ⟨_, rfl⟩⟩
section
variable {α : Type} {K : Key α} {f : α → Option Value} {es : Array MapEntry} {clock : Nat}
def KZ (K : Key α) (f : α → Option Value) (es : Array MapEntry) (clock : Nat) : Prop :=
  Stamped es clock ∧ (∀ x ∈ es.toList, IsKey K.d x.key) ∧ ∀ a v, f a = some v ↔ ∃ x ∈ es.toList, x.key = K.mk a ∧ x.val = v
def lV (K : Key α) (b : Nat) (f : α → Option Value) : HP := BK fun (x : Array MapEntry × Nat) => fact (KZ K f x.1 x.2) • gU b (.map x.1 x.2)
def upd [DecidableEq α] {β : Type} (f : α → Option β) (a : α) (v : β) : α → Option β := fun x => if x = a then some v else f x
theorem KZ.same (h : KZ K f es clock) {x y : MapEntry} (hx : x ∈ es.toList) (hy : y ∈ es.toList) (e : x.key = y.key) : x = y := by
  have hn := h.1.2.2
  rw [List.Nodup, List.pairwise_map] at hn
  exact GV hn hx hy e
where
  GV : ∀ {l : List MapEntry}, l.Pairwise (fun x y => x.key ≠ y.key) → ∀ {x y : MapEntry}, x ∈ l → y ∈ l → x.key = y.key → x = y
    | [], _, _, _, hx, _, _ => by cases hx
    | z :: l, hp, x, y, hx, hy, e => by
      rw [List.pairwise_cons] at hp
      rcases List.mem_cons.1 hx with hx1 | hx1
      · rcases List.mem_cons.1 hy with hy1 | hy1
        · rw [hx1, hy1]
        · exact absurd (by rw [← hx1]; exact e) (hp.1 _ hy1)
      · rcases List.mem_cons.1 hy with hy1 | hy1
        · exact absurd (by rw [← hy1]; exact e.symm) (hp.1 _ hx1)
        · exact GV hp.2 hx1 hy1 e
theorem abL : ∀ {l : List MapEntry}, (l.map (·.born)).Nodup → ∀ {x y : MapEntry}, x ∈ l → y ∈ l → x.born = y.born → x = y
  | [], _, _, _, hx, _, _ => by cases hx
  | z :: l, hp, x, y, hx, hy, e => by
    rw [List.map_cons, List.nodup_cons] at hp
    rcases List.mem_cons.1 hx with hx1 | hx1
    · rcases List.mem_cons.1 hy with hy1 | hy1
      · rw [hx1, hy1]
      · exact absurd (List.mem_map.2 ⟨y, hy1, by rw [← hx1]; exact e.symm⟩) hp.1
    · rcases List.mem_cons.1 hy with hy1 | hy1
      · exact absurd (List.mem_map.2 ⟨x, hx1, by rw [← hy1]; exact e⟩) hp.1
      · exact abL hp.2 hx1 hy1 e
theorem KZ.find (h : KZ K f es clock) (a : α) : (Instr.findNow K.d (K.mk a) es.toList 0 = some none ∧ f a = none ∧ ∀ x ∈ es.toList, x.key ≠ K.mk a) ∨
    ∃ j e, Instr.findNow K.d (K.mk a) es.toList 0 = some (some (j, e.val)) ∧ es.toList[j]? = some e ∧ e.key = K.mk a ∧ f a = some e.val := by
  rcases findNow_spec (K.key a) es.toList 0 h.2.1 with ⟨h1, h2⟩ | ⟨j, e, h1, h2, h3⟩
  · refine .inl ⟨h1, ?_, h2⟩
    cases hf : f a with
    | none => rfl
    | some v =>
      obtain ⟨x, hx, hk, _⟩ := (h.2.2 a v).1 hf
      exact absurd hk (h2 x hx)
  · refine .inr ⟨j, e, by simpa using h1, h2, h3, (h.2.2 a e.val).2 ⟨e, List.mem_of_getElem? h2, h3, rfl⟩⟩
theorem YA (K : Key α) : KZ K (fun _ => none) #[] 0 := ⟨stamped_empty 0, by simp, by simp⟩
end
section
variable {α : Type} {K : Key α} {f : α → Option Value} {es : Array MapEntry} {clock : Nat} {P : Program} {L : List (Nat × Value)} {w w0 : World} {ty : TypeId} {x y z : Operand} {F : HP} {b it n : Nat} {a : α} {S : List α}
theorem V.map (H : V w0 w (lV K b f • F)) : ∃ es clock, KZ K f es clock ∧ V w0 w (gU b (.map es clock) • F) := by
  obtain ⟨⟨es, clock⟩, H⟩ := H.sS
  obtain ⟨h, H⟩ := H.flat.fact
  exact ⟨es, clock, h, H⟩
theorem V.WM (h : KZ K f es clock) (H : V w0 w (gU b (.map es clock) • F)) : V w0 w (lV K b f • F) := V.lK (es, clock) (V.deep (V.qY h H))
theorem YB {t kt et : TypeId} {zv : Value} (ok : Bool) (h : KZ K f es clock) (hb : w.heap[b]? = some (.map es clock)) (ht : P.underlying t = some (.map kt et)) (hk : P.underlying kt = some K.d) (hz : (zeroValue et).run P w = .ok zv w) :
    (Instr.lookup t (.map (some b)) (K.mk a) ok).run P w = .ok (if ok then .tuple #[(f a).getD zv, .bool (f a).isSome] else (f a).getD zv) w := by
  rcases h.find a with ⟨h1, h2, _⟩ | ⟨j, e, h1, h2, h3, h4⟩
  · simp [Instr.lookup, run_underlying ht, MapKept.run_getObj_map hb, MapKept.run_checkKey hk (K.key a), MapKept.run_findKey hk h1, hz, Result.andThen, h2]
  · simp [Instr.lookup, run_underlying ht, MapKept.run_getObj_map hb, MapKept.run_checkKey hk (K.key a), MapKept.run_findKey hk h1, Result.andThen, h4]
theorem YC {t kt et : TypeId} {zv : Value} (H : V w0 w (lV K b f • F)) (ht : P.underlying t = some (.map kt et)) (hk : P.underlying kt = some K.d) (hz : ∀ w, (zeroValue et).run P w = .ok zv w)
    (hx : ev L x = some (.map (some b))) (hy : ev L y = some (K.mk a)) : Val P L (.lookup t x y false) ty w ((f a).getD zv) w := fun ρ hρ _ _ _ _ => by
  obtain ⟨es, clock, h, H⟩ := H.map
  simp only [execOp, hρ _ _ hx, hρ _ _ hy, Sem.run_bind]
  rw [YB false h H.get.2 ht hk (hz w)]
  rfl
theorem YD {t kt et : TypeId} {zv : Value} (H : V w0 w (lV K b f • F)) (ht : P.underlying t = some (.map kt et)) (hk : P.underlying kt = some K.d) (hz : ∀ w, (zeroValue et).run P w = .ok zv w)
    (hx : ev L x = some (.map (some b))) (hy : ev L y = some (K.mk a)) : Val P L (.lookup t x y true) ty w (.tuple #[(f a).getD zv, .bool (f a).isSome]) w := fun ρ hρ _ _ _ _ => by
  obtain ⟨es, clock, h, H⟩ := H.map
  simp only [execOp, hρ _ _ hx, hρ _ _ hy, Sem.run_bind]
  rw [YB true h H.get.2 ht hk (hz w)]
  rfl
theorem qZ {t : TypeId} (K : Key α) (H : V w0 w F) : Dj P L (.makeMap t none) ty w fun v w' => ∃ b, v = .map (some b) ∧ V w0 w' (lV K b (fun _ => none) • F) := by
  refine BP (v := .map (some w.heap.size)) (w' := w.alloc (.map #[] 0)) ?_ ⟨_, rfl, V.WM (YA K) (H.alloc _)⟩
  intro ρ hρ d pos xw g
  simp only [execOp, Sem.run_bind, Option.map_none]
  rfl
theorem YE {o : Obj} {b : Nat} (h : w.heap[b]? = some o) (o' : Obj) : ({ w with heap := w.heap.setIfInBounds b o' } : World).heap[b]? = some o' ∧ ∀ k, k ≠ b → ({ w with heap := w.heap.setIfInBounds b o' } : World).heap[k]? = w.heap[k]? := by
  have hlt := lt_of_block h
  exact ⟨by simp [hlt], fun k hk => by simp [Ne.symm hk]⟩
theorem V.setB {o : Obj} (H : V w0 w (gU b o • F)) (o' : Obj) : V w0 (ChangeMaps.setBlock w b o') (gU b o' • F) :=
  V.turn (w := w) (w' := ChangeMaps.setBlock w b o') H rfl rfl rfl (by simp [ChangeMaps.setBlock]) (YE H.get.2 o').1 fun k hk _ => (YE H.get.2 o').2 k hk
theorem FQ [DecidableEq α] {t kt et : TypeId} {v : Value} (H : V w0 w (lV K b f • F)) (ht : P.underlying t = some (.map kt et)) (hk : P.underlying kt = some K.d)
    (hx : ev L x = some (.map (some b))) (hy : ev L y = some (K.mk a)) (hz : ev L z = some v) : Dj P L (.mapUpdate t x y z) ty w fun _ w' => V w0 w' (lV K b (upd f a v) • F) := by
  obtain ⟨es, clock, h, H⟩ := H.map
  have hb := H.get.2
  rcases h.find a with ⟨h1, h2, h3⟩ | ⟨j, e, h1, h2, h3, h4⟩
  · have hrun : (Instr.mapUpdate t (.map (some b)) (K.mk a) v).run P w = .ok () (ChangeMaps.setBlock w b (.map (es.push { key := K.mk a, val := v, born := clock }) (clock + 1))) := by
      simp [ChangeMaps.setBlock, Instr.mapUpdate, run_underlying ht, MapKept.run_getObj_map hb, MapKept.run_checkKey hk (K.key a), MapKept.run_findKey hk h1, MapKept.run_setObj_map _ hb, Result.andThen]
    refine QM (w' := ChangeMaps.setBlock w b (.map (es.push { key := K.mk a, val := v, born := clock }) (clock + 1))) (fun ρ hρ d pos xw g => ?_) (V.WM (es := es.push { key := K.mk a, val := v, born := clock }) (clock := clock + 1) ⟨stamped_push h.1 h3, ?_, ?_⟩ (H.setB _))
    · simp only [execOp, hρ _ _ hx, hρ _ _ hy, hρ _ _ hz, Sem.run_bind]
      rw [hrun]; rfl
    · intro q hq
      simp only [Array.toList_push, List.mem_append, List.mem_singleton] at hq
      rcases hq with hq | rfl
      · exact h.2.1 q hq
      · exact K.key a
    · intro c u
      simp only [Array.toList_push, List.mem_append, List.mem_singleton, upd]
      by_cases hc : c = a
      · subst hc
        rw [if_pos rfl]
        constructor
        · intro hu; cases hu; exact ⟨_, .inr rfl, rfl, rfl⟩
        · rintro ⟨q, hq | rfl, hqk, hqv⟩
          · exact absurd hqk (h3 q hq)
          · rw [← hqv]
      · rw [if_neg hc, h.2.2 c u]
        constructor
        · rintro ⟨q, hq, hqk, hqv⟩; exact ⟨q, .inl hq, hqk, hqv⟩
        · rintro ⟨q, hq | rfl, hqk, hqv⟩
          · exact ⟨q, hq, hqk, hqv⟩
          · exact absurd (K.inj _ _ hqk).symm hc
  · have hj : es[j]? = some e := by simpa using h2
    have hrun : (Instr.mapUpdate t (.map (some b)) (K.mk a) v).run P w = .ok () (ChangeMaps.setBlock w b (.map (es.modify j fun e => { e with key := K.mk a, val := v }) clock)) := by
      simp [ChangeMaps.setBlock, Instr.mapUpdate, run_underlying ht, MapKept.run_getObj_map hb, MapKept.run_checkKey hk (K.key a), MapKept.run_findKey hk h1, hj, h3, MapKept.run_keyThatStays (K.key a), MapKept.run_setObj_map _ hb, Result.andThen]
    have hkey : ∀ e', es[j]? = some e' → ({ e' with key := K.mk a, val := v } : MapEntry).key = e'.key := fun e' he' => by rw [hj] at he'; cases he'; exact h3.symm
    have hst : Stamped (es.modify j fun e => { e with key := K.mk a, val := v }) clock := stamped_modify h.1 _ _ (fun _ _ => rfl) (fun e' _ he' => hkey e' he')
    have hmem : ∀ q, q ∈ (es.modify j fun e => { e with key := K.mk a, val := v }).toList ↔ (q = { e with key := K.mk a, val := v } ∨ q ∈ es.toList ∧ q.key ≠ K.mk a) := by
      intro q
      have hee : e ∈ es.toList := List.mem_of_getElem? h2
      constructor
      · intro hq
        obtain ⟨i, hi⟩ := List.getElem?_of_mem hq
        rw [Array.getElem?_toList, Array.getElem?_modify] at hi
        by_cases hij : j = i
        · subst hij
          rw [if_pos rfl, hj] at hi
          exact .inl (by simpa using hi.symm)
        · rw [if_neg hij] at hi
          have hqm : q ∈ es.toList := Array.mem_toList_iff.2 (Array.mem_of_getElem? hi)
          refine .inr ⟨hqm, fun hqk => ?_⟩
          have he : q = e := h.same hqm hee (hqk.trans h3.symm)
          subst he
          have hn := h.1.2.1
          have h5 : (es.toList.map (·.born))[i]? = some q.born := by rw [List.getElem?_map, Array.getElem?_toList, hi]; rfl
          have h6 : (es.toList.map (·.born))[j]? = some q.born := by rw [List.getElem?_map, h2]; rfl
          have hlt : i < (es.toList.map (·.born)).length := (List.getElem?_eq_some_iff.1 h5).1
          have hlt2 : j < (es.toList.map (·.born)).length := (List.getElem?_eq_some_iff.1 h6).1
          exact hij ((List.getElem?_inj hlt2 hn).1 (h6.trans h5.symm))
      · rintro (rfl | ⟨hq, hqk⟩)
        · apply List.mem_of_getElem? (i := j)
          rw [Array.getElem?_toList, Array.getElem?_modify, if_pos rfl, hj]; rfl
        · obtain ⟨i, hi⟩ := List.getElem?_of_mem hq
          have hij : j ≠ i := by
            rintro rfl
            rw [h2] at hi; cases hi
            exact hqk h3
          apply List.mem_of_getElem? (i := i)
          rw [Array.getElem?_toList, Array.getElem?_modify, if_neg hij]
          rwa [Array.getElem?_toList] at hi
    refine QM (w' := ChangeMaps.setBlock w b (.map (es.modify j fun e => { e with key := K.mk a, val := v }) clock)) (fun ρ hρ d pos xw g => ?_) (V.WM (es := es.modify j fun e => { e with key := K.mk a, val := v }) (clock := clock) ⟨hst, isKey_modify h.2.1 _ _ hkey, ?_⟩ (H.setB _))
    · simp only [execOp, hρ _ _ hx, hρ _ _ hy, hρ _ _ hz, Sem.run_bind]
      rw [hrun]; rfl
    · intro c u
      simp only [hmem, upd]
      by_cases hc : c = a
      · subst hc
        rw [if_pos rfl]
        constructor
        · intro hu; cases hu; exact ⟨_, .inl rfl, rfl, rfl⟩
        · rintro ⟨q, rfl | ⟨hq, hqn⟩, hqk, hqv⟩
          · rw [← hqv]
          · exact absurd hqk hqn
      · rw [if_neg hc, h.2.2 c u]
        constructor
        · rintro ⟨q, hq, hqk, hqv⟩
          exact ⟨q, .inr ⟨hq, fun hqa => hc (K.inj _ _ (hqk.symm.trans hqa))⟩, hqk, hqv⟩
        · rintro ⟨q, rfl | ⟨hq, hqn⟩, hqk, hqv⟩
          · exact absurd (K.inj _ _ hqk).symm hc
          · exact ⟨q, hq, hqk, hqv⟩
def ahT (K : Key α) (f : α → Option Value) (es : Array MapEntry) (clock : Nat) (seen : Array Nat) (S : List α) (n : Nat) : Prop :=
  KZ K f es clock ∧ (∃ xs : List MapEntry, (∀ x ∈ xs, x ∈ es.toList) ∧ seen.toList = xs.map (·.born) ∧ xs.map (·.key) = S.map K.mk) ∧ (leftOf es seen).size = n
def Nq (K : Key α) (b it : Nat) (f : α → Option Value) (S : List α) (n : Nat) : HP := BK fun (x : Array MapEntry × Nat × Array Nat) => fact (ahT K f x.1 x.2.1 x.2.2 S n) • gU it (.mapIter (some b) x.2.1 x.2.2 x.2.1) • gU b (.map x.1 x.2.1)
theorem V.aei (H : V w0 w (Nq K b it f S n • F)) : ∃ es clock seen, ahT K f es clock seen S n ∧ V w0 w (gU it (.mapIter (some b) clock seen clock) • gU b (.map es clock) • F) := by
  obtain ⟨⟨es, clock, seen⟩, H⟩ := H.sS
  obtain ⟨h, H⟩ := H.flat.fact
  exact ⟨es, clock, seen, h, H.flat⟩
theorem V.SE {seen : Array Nat} (h : ahT K f es clock seen S n) (H : V w0 w (gU it (.mapIter (some b) clock seen clock) • gU b (.map es clock) • F)) : V w0 w (Nq K b it f S n • F) :=
  V.lK (es, clock, seen) (V.deep (V.qY h (H.of_eq (by ac_rfl))))
theorem V.Vf (H : V w0 w (Nq K b it f S n • F)) : V w0 w (lV K b f • F) := by
  obtain ⟨es, clock, seen, h, H⟩ := H.aei
  exact V.WM h.1 H.right
theorem Pq {t kt et : TypeId} (H : V w0 w (lV K b f • F)) (ht : P.underlying t = some (.map kt et)) (hx : ev L x = some (.map (some b))) :
    Dj P L (.range t x) ty w fun v w' => ∃ it n, v = .pointer (some ⟨it, 0, none⟩) ∧ V w0 w' (Nq K b it f [] n • F) := by
  obtain ⟨es, clock, h, H⟩ := H.map
  refine BP (v := .pointer (some ⟨w.heap.size, 0, none⟩)) (w' := w.alloc (.mapIter (some b) clock #[] clock)) ?_ ⟨_, _, rfl, V.SE ⟨h, ⟨[], by simp, rfl, rfl⟩, rfl⟩ (H.alloc _)⟩
  intro ρ hρ d pos xw g
  simp only [execOp, hρ _ _ hx, Sem.run_bind]
  rw [run_range_map w t kt et b es clock ht H.get.2]
  rfl
def nxV (K : Key α) : Option (α × Value) → Value
  | some (a, u) => .tuple #[.bool true, K.mk a, u]
  | none => .tuple #[.bool false]
def akD (f : α → Option Value) (S : List α) (n : Nat) (S' : List α) (n' : Nat) : Option (α × Value) → Prop
  | some (a, u) => f a = some u ∧ a ∉ S ∧ n' < n ∧ S' = S ++ [a]
  | none => S' = S ∧ n' = n ∧ ∀ a u, f a = some u → a ∈ S
theorem agh {es : Array MapEntry} {seen : Array Nat} {e : MapEntry} (he : e ∈ (leftOf es seen).toList) : (leftOf es (seen.push e.born)).size < (leftOf es seen).size := by
  unfold leftOf at *
  rw [Array.toList_filter, List.mem_filter] at he
  have e1 : ∀ q : MapEntry → Bool, (es.filter q).size = (es.toList.filter q).length := fun q => by rw [← Array.toList_filter, Array.length_toList]
  rw [e1, e1]
  refine filter_lt _ _ (fun x hx => ?_) e he.2 ?_ es.toList he.1
  · simp only [Bool.not_eq_true', Array.contains_push, Bool.or_eq_false_iff] at hx ⊢
    exact hx.1
  · simp
theorem SG (H : V w0 w (Nq K b it f S n • F)) (hx : ev L x = some (.pointer (some ⟨it, 0, none⟩))) :
    Dj P L (.next x false) ty w fun v w' => ∃ o S' n', v = nxV K o ∧ akD f S n S' n' o ∧ V w0 w' (Nq K b it f S' n' • F) := by
  obtain ⟨es, clock, seen, ⟨hm, ⟨xs, hxs, hse, hS⟩, hn⟩, H⟩ := H.aei
  have hr := H.get.2
  have hb := H.swap.get.2
  rcases run_next_at (P := P) w ty it b clock clock seen es clock hr hb hm.1.1 (Nat.le_refl _) with ⟨h0, hrun⟩ | ⟨e, he, w1, hw1, hrun⟩
  · refine BP (v := nxV K none) (w' := w) (fun ρ hρ d pos xw g => ?_) ⟨none, S, n, rfl, ⟨rfl, rfl, fun a u ha => ?_⟩, V.SE ⟨hm, ⟨xs, hxs, hse, hS⟩, hn⟩ H⟩
    · simp only [execOp, hρ _ _ hx, Sem.run_bind]
      rw [hrun]; rfl
    · obtain ⟨y, hy, hyk, _⟩ := (hm.2.2 a u).1 ha
      have hys : seen.contains y.born = true := by
        cases hc : seen.contains y.born with
        | true => rfl
        | false =>
          have hyl : y ∈ (leftOf es seen).toList := by unfold leftOf; rw [Array.toList_filter, List.mem_filter]; exact ⟨hy, by rw [hc]; rfl⟩
          have := List.length_pos_of_mem hyl
          rw [Array.length_toList] at this
          omega
      have ajo : y.born ∈ seen.toList := by simpa using hys
      rw [hse] at ajo
      obtain ⟨q, hq, hqb⟩ := List.mem_map.1 ajo
      have hqy : q = y := abL hm.1.2.1 (hxs q hq) hy hqb
      subst hqy
      have : K.mk a ∈ S.map K.mk := by rw [← hS]; exact List.mem_map.2 ⟨q, hq, hyk⟩
      obtain ⟨c, hc, hce⟩ := List.mem_map.1 this
      rw [← K.inj _ _ hce]; exact hc
  · have hel : e ∈ es.toList ∧ seen.contains e.born = false := by
      have := he
      unfold leftOf at this
      rw [Array.toList_filter, List.mem_filter] at this
      exact ⟨this.1, by simpa using this.2⟩
    obtain ⟨a, ha⟩ := K.onto e.key (hm.2.1 e hel.1)
    have hfa : f a = some e.val := (hm.2.2 a e.val).2 ⟨e, hel.1, ha.symm, rfl⟩
    have hns : a ∉ S := fun hs => by
      have : K.mk a ∈ S.map K.mk := List.mem_map.2 ⟨a, hs, rfl⟩
      rw [← hS] at this
      obtain ⟨q, hq, hqk⟩ := List.mem_map.1 this
      have hqe : q = e := hm.same (hxs q hq) hel.1 (hqk.trans ha)
      subst hqe
      have h9 : q.born ∈ seen.toList := by rw [hse]; exact List.mem_map.2 ⟨q, hq, rfl⟩
      have h8 : seen.contains q.born = true := by simpa using h9
      rw [hel.2] at h8; cases h8
    have hval : Val P L (.next x false) ty w (nxV K (some (a, e.val))) (ChangeMaps.setBlock w1 it (.mapIter (some b) clock (seen.push e.born) clock)) := fun ρ hρ d pos xw g => by
      simp only [execOp, hρ _ _ hx, Sem.run_bind]
      rw [hrun]
      simp only [nxV, ha]
      rfl
    have hheap : w1.heap = w.heap := by rcases hw1 with rfl | rfl <;> rfl
    have hr1 : w1.heap[it]? = some (.mapIter (some b) clock seen clock) := by rw [hheap]; exact hr
    refine BP hval ⟨some (a, e.val), S ++ [a], (leftOf es (seen.push e.born)).size, rfl, ⟨hfa, hns, by rw [← hn]; exact agh he, rfl⟩, V.SE (seen := seen.push e.born) ⟨hm, ⟨xs ++ [e], ?_, ?_, ?_⟩, rfl⟩ (V.setB (w := w1) (o := .mapIter (some b) clock seen clock) ?_ _)⟩
    · intro q hq
      rcases List.mem_append.1 hq with hq | hq
      · exact hxs q hq
      · rw [List.mem_singleton.1 hq]; exact hel.1
    · rw [Array.toList_push, hse, List.map_append]; rfl
    · rw [List.map_append, List.map_append, hS]; simp [ha]
    · rcases hw1 with rfl | rfl
      · exact H
      · exact H.drew
theorem agZ {o : Option (α × Value)} (hx : ev L x = some (nxV K o)) : Val P L (.extract x 0) ty w (.bool o.isSome) w := by
  cases o with
  | none => exact Oc hx rfl
  | some p => obtain ⟨a, u⟩ := p; exact Oc hx rfl
theorem abM {u : Value} (H : V w0 w (Nq K b it f (S ++ [a]) n • F)) (hf : f a = some u) (hx : ev L x = some (.pointer (some ⟨it, 0, none⟩))) : Val P L (.entry x) ty w (.tuple #[K.mk a, u]) w := by
  obtain ⟨es, clock, seen, ⟨hm, ⟨xs, hxs, hse, hS⟩, hn⟩, H⟩ := H.aei
  intro ρ hρ d pos xw g
  have hne : xs ≠ [] := by
    rintro rfl
    have := congrArg List.length hS
    simp at this
  obtain ⟨ys, e, rfl⟩ : ∃ ys e, xs = ys ++ [e] := ⟨xs.dropLast, xs.getLast hne, (List.dropLast_concat_getLast hne).symm⟩
  have he : e ∈ es.toList := hxs e (by simp)
  have hk : e.key = K.mk a := by
    rw [List.map_append, List.map_append] at hS
    have := List.append_inj_right' hS rfl
    simpa using this
  have hv : e.val = u := by
    have h9 := (hm.2.2 a e.val).2 ⟨e, he, hk, rfl⟩
    rw [hf] at h9; cases h9; rfl
  have hsp : seen = (ys.map (·.born)).toArray.push e.born := by
    apply Array.ext'
    rw [hse]; simp
  have hr := H.get.2
  rw [hsp] at hr
  simp only [execOp, hρ _ _ hx, Sem.run_bind]
  rw [run_entry_at w it b clock _ es clock e hr H.swap.get.2 he hm.1.2.1, hk, hv]
  rfl
end
end Go.Proofs.YtnhhmieghbfalaaGreatDoor
end
section
namespace Go.Proofs.YtnhhmieghbfalaaGreatDoor
open Go.RowKit
open _root_.Go.Proofs.Tryz
def La (c : Nat) (G : List (List jH)) (N : List jH) (k : Nat) : HP := BK fun (x : Value × List (Value × List gJ)) => fact (x.2.map (fun g => g.2.map gJ.says) = WA N ++ G.reverse.take k) • gU c (.cells #[x.1] 147 (0, 0)) • LM x.1 x.2
theorem rev_succ {G : List (List jH)} {k : Nat} (hk : k < G.length) : G.reverse.take (k + 1) = G.reverse.take k ++ [G.getD (G.length - (k + 1)) []] := by
  rw [List.take_succ_eq_append_getElem (by simpa using hk)]
  congr 1
  rw [List.getElem_reverse, List.getD_eq_getElem?_getD, List.getElem?_eq_getElem (by omega)]
  have e : G.length - 1 - k = G.length - (k + 1) := by omega
  simp only [Option.getD_some, e]
section
variable {w0 w : World} {F : HP} {p c k : Nat} {G : List (List jH)} {N : List jH} {op : Int} {v u : Value} {es fs : List gJ} {gs hs : List (Value × List gJ)}
theorem V.YF (H : V w0 w (La c G N k • F)) : ∃ u hs, hs.map (fun g => g.2.map gJ.says) = WA N ++ G.reverse.take k ∧ hs.length ≤ G.length + 1 ∧ V w0 w (gU c (.cells #[u] 147 (0, 0)) • Row 56 1 u hs.length (hs.map (·.1)) • vW hs • F) := by
  obtain ⟨⟨u, hs⟩, H⟩ := H.sS
  obtain ⟨h, H⟩ := H.flat.fact
  refine ⟨u, hs, h, ?_, (H.flat.swap.af1).f3⟩
  have := congrArg List.length h
  have := aee N
  simp only [List.length_map, List.length_append, List.length_take, List.length_reverse] at *
  omega
theorem V.SH (h : hs.map (fun g => g.2.map gJ.says) = WA N ++ G.reverse.take k) (H : V w0 w (gU c (.cells #[u] 147 (0, 0)) • LM u hs • F)) : V w0 w (La c G N k • F) :=
  V.lK (u, hs) (V.deep (V.qY h H.deep))
theorem acD (H : V w0 w F) (hv : v.oneCell' = true) : iK prog 168 #[v] w fun v' w' => ∃ b, v' = .func (.func 190) #[] #[.pointer (some ⟨b, 0, none⟩)] ∧ V w0 w' (gU b (.cells #[v] 147 (0, 0)) • F) := by
  refine jl func168 ntmps168 ?_
  refine kQ (jT (kZ (l := [_]) H O (by first | rfl | exact Oi (by first | rfl | assumption))) ?_)
  rintro _ w1 ⟨b1, rfl, H1⟩
  refine iU O (kQ (aT (LC O O) (iJ O (dO results168 O ?_))))
  exact ⟨_, O, H1⟩
theorem aay (b : Nat) : Iter prog w0 (.func (.func 190) #[] #[.pointer (some ⟨b, 0, none⟩)]) (gU b (.cells #[v] 147 (0, 0)) • Row 56 1 v gs.length (gs.map (·.1)) • vW gs) gs.length
  (fun k vs A => ∃ gl vO, gs.getD (gs.length - (k + 1)) default = (gl, vO) ∧ vs = [.int .i64 ((gs.length - (k + 1) : Nat) : Int), gl] ∧ A = Jm gl vO) := by
 intro l J X w hy H
 refine ⟨190, [], [.pointer (some ⟨b, 0, none⟩)], _, _, O, func190, O, O, ?_⟩
 have H1 : V w0 w (gU b (.cells #[v] 147 (0, 0)) • Row 56 1 v gs.length (gs.map (·.1)) • vW gs • J 0) := H.of_eq (by ac_rfl)
 obtain ⟨a, c, hv, hc1, hc2, _⟩ := (H1.swap.aJ).form
 subst hv
 simp only [List.nil_append, List.cons_append]
 refine xqR func190 ntmps190 ?_
 dsimp only [Jq, Nat.reduceAdd]
 refine kQ (dQ bP O (H1).get.2 O (aT (fV ((H1.f2).aJ) bP O) (aT (nN O O (by omega)) (iU O (bK ?_)))))
 refine jh [(0, _), (1, _)] (fun (k : Nat) => [(3, .int .i64 ((k : Int) - 1))]) (fun (k : Nat) W => k ≤ gs.length ∧ V w0 W (gU b (.cells #[.slice a gs.length c] 147 (0, 0)) • Row 56 1 (.slice a gs.length c) gs.length (gs.map (·.1)) • vW gs • J (gs.length - k))) (fun (k : Nat) => k) (gs.length) vV rJ ⟨by omega, by rw [Nat.sub_self]; exact H1⟩ ?_
 rintro k w1 ⟨hk, HL⟩
 dsimp only [List.cons_append, List.nil_append]
 refine aI (bT O (aT (vT O O) (jo O (fun h1 => ?_) (fun h1 => ?_))))
 ·(try simp only [aG] at h1)
  refine gX (aI (bK (aI ?_)))
  obtain ⟨m, rfl⟩ : ∃ m, k = m + 1 := ⟨k - 1, by omega⟩
  rw [show (((m + 1 : Nat) : Int) - 1) = (m : Int) from by omega]
  have hkl : m < gs.length := by omega
  refine aF (ku O O (dQ bP O (HL).get.2 O (cO O ?_)))
  obtain ⟨bv, ov, cv, ev⟩ := Rd.qX ((HL.f2).aJ) (by omega)
  cases ev
  refine aT (dP bP bU O O (by omega)) ?_
  refine aT (fB (dG aV O) O (by first | exact Rd.yc ((HL.f2).aJ) (by omega) | exact Rd.I8 ((HL.f2).aJ) (by omega) | exact Rd.Ib ((HL.f2).aJ) (by omega))) ?_
  rw [show (gs.map (·.1)).getD m undef = (gs.getD m default).1 from by simp [List.getD_eq_getElem?_getD, hkl]]
  obtain ⟨gl, vO, hg⟩ : ∃ gl vO, gs.getD m default = (gl, vO) := ⟨_, _, rfl⟩
  rw [hg]
  have Ho2 := HL.f3
  have Hc3 := Ho2.Iw hkl hg
  refine jT (Wu O O (hy (gs.length - (m + 1)) (by omega) _ _ ⟨gl, vO, by rw [show gs.length - (gs.length - (m + 1) + 1) = m from by omega]; exact hg, by rw [show gs.length - (gs.length - (m + 1) + 1) = m from by omega], O⟩ (vW gs • Row 56 1 (.slice (some ⟨bv, ov, none⟩) gs.length c) gs.length (gs.map (·.1)) • gU b (.cells #[.slice (some ⟨bv, ov, none⟩) gs.length c] 147 (0, 0))) _ (Hc3.of_eq (by ac_rfl))).bool) ?_
  rintro _ w4 ⟨t, rfl, ht1, ht2⟩
  refine aT (jG O) (jo O (fun h2 => ?_) (fun h2 => ?_))
  ·(try simp only [aG] at h2)
   have HX := ht2 (by simpa using h2)
   refine kN (aY (aC (aC (aY (we0 results190 ?_)))))
   exact .inr (HX.of_eq (by ac_rfl))
  ·(try simp only [aG] at h2)
   have HN : V w0 w4 (gU b (.cells #[.slice (some ⟨bv, ov, none⟩) gs.length c] 147 (0, 0)) • Row 56 1 (.slice (some ⟨bv, ov, none⟩) gs.length c) gs.length (gs.map (·.1)) • vW gs • J (gs.length - m)) := by
    have h9 := ht1 (by simpa using h2)
    rw [show gs.length - (m + 1) + 1 = gs.length - m from by omega] at h9
    exact h9.of_eq (by ac_rfl)
   refine eG (aS (aZ (aF (cO O (aT (nN O O (by omega)) (lg O (dJ ?_)))))))
   refine fG (m) ?_ ?_ ?_ ?_
   ·exact rJ
   ·exact vV
   ·(try dsimp only)
    first | done | exact ⟨by omega, HN.f3.f3.f3⟩
   ·(try dsimp only); omega
 ·(try simp only [aG] at h1)
  refine iZ (bC (bC (dK (nJ (.inr O) results190 ?_))))
  obtain rfl : k = 0 := by omega
  rw [Nat.sub_zero] at HL
  exact .inl (HL.of_eq (by ac_rfl))
theorem Qn (H : V w0 w (lH p G N op • F)) : iK prog 112 #[.pointer (some ⟨p, 0, none⟩)] w fun v w' => ∃ c, v = .func (.func 169) #[] #[.pointer (some ⟨c, 0, none⟩)] ∧ V w0 w' (La c G N G.length • lH p G N op • F) := by
 refine jl func112 ntmps112 ?_
 refine kG O (kQ (jT (iI (l := [_]) H zeroValue147 O) ?_))
 rintro _ w1 ⟨b1, rfl, H1⟩
 refine uV (bT O (fH O func146 (pI H1.f2) ?_))
 rintro _ _ ⟨rfl, rfl⟩
 refine aT (jG O) ?_
 obtain ⟨Il, Ef, qB, qQ, qC, A8, zY, Nh, Nj, RJ, xO⟩ := (H1.f2).Du
 have hLn : qQ.length ≤ 16384 := by omega
 have hBn := Yq zY qC.2.2.2.2.2
 refine iR (wcE O (fun h1 => ?_))
 (try simp only [aG] at h1)
 refine yV [(0, _), (3, _)] (fun (_ : Unit) => []) (fun (_ : Unit) W => V w0 W (La b1 G N 0 • gU p (.cells #[Il, Ef, .int .i64 op, .int .i64 (iH G N : Nat), .bool true] 177 (0, 0)) • Row 56 1 Il qB.length (qB.map (·.1)) • vW qB • Row 143 3 Ef qQ.length (qQ.flatMap gJ.enc) • oK qQ • F)) vV ?_ ?_
 ·rintro _ w4 HJ
  dsimp only [List.cons_append, List.nil_append]
  refine bT O (dM O (bg 0 dn O fD O (bg 0 dI O jr O (dQ bP O (HJ.f2).get.2 O (fH O func168 (acD HJ (Rd.one ((HJ.f3).aJ))) ?_)))))
  rintro _ w5 ⟨bB5, rfl, H5⟩
  refine iR (bK ?_)
  obtain ⟨R6, hR6, HR6⟩ := V.ado (H5.f5.f5.f3.f4)
  refine Iq O (aay bB5) (fun k => La b1 G N k • R6) (fact False) (fun _ => fact False) (HR6.f4.f4.f4.f4.f4.f4.f4.g3.comm) (by rfl) ?_ ?_ ?_ ?_
  ·rintro l7 k ahD vs7 A7 ⟨gl, vO, hg, rfl, rfl⟩ G7 w7 H7
   try simp only [eX, xE, D9] at H7
   refine ⟨O, ?_⟩
   dsimp only [aas]
   obtain ⟨u, hs, ZM, hhl, HI⟩ := (H7.f2).YF
   have hge : vO.map gJ.says = G.getD (G.length - (k + 1)) [] := by
    rw [← Nh, ← A8]
    have h9 : (qB.map (fun g => g.2.map gJ.says)).getD (qB.length - (k + 1)) [] = (qB.getD (qB.length - (k + 1)) default).2.map gJ.says := by simp [List.getD_eq_getElem?_getD, show qB.length - (k + 1) < qB.length by omega]
    rw [h9, hg]
   have hgm : G.getD (G.length - (k + 1)) [] ∈ G := vM (by omega)
   have hBg := Yq hge (qC.2.2.2.2.1 _ hgm)
   have hLg : vO.length ≤ 16384 := by
    have h8 := qC.2.1
    unfold iH at h8
    have h7 := congrArg List.length hge
    rw [List.length_map] at h7
    have h6 := Nl hgm
    omega
   refine aF (lg O (dJ ?_))
   refine aar (HI.g5) ?_
   intro G8 w8 H8
   try simp only [eX] at H8
   refine bK ?_
   have ajp := H8.drew
   have aej := V.kp (ajp.f4.f4.f4.f4)
   refine tH [0] aej O (iD 0 O aej (fun W hW => jk bP O ((Kp.h hW)).get.2 O) (fM 1 O aej O (lC 2 O (qW O func147 (Gh ajp.f4 hBg hLg)) ?_)))
   rintro u9 w9 ⟨fs9, ahU, H9⟩
   obtain ⟨es2, rfl⟩ : ∃ q, q = fs9 := ⟨_, rfl⟩
   have hes2 := ahU
   have Dw := V.kp (H9.f6.f6.f6.f6.f6.f6)
   refine dZ Dw (fun W hW => (Kp.h hW).right.right.f4.f4.f4) ?_
   refine lC 3 O (mX (vs := [_]) H9 bP bU sV O O O (by decide) (bD (by first | rfl | exact Rd.one ((H9).aJ)) bW)) ?_
   rintro l10 w10 rU
   have D7 := V.kp (rU.f7.f7.f7.f7.f7.f7.f7)
   refine dZ D7 (fun W hW => (Kp.h hW).right.f6.f6.f6.f6.f6.f6) ?_
   refine lC 4 O (gK rU.f6 bP Pg O O O ((rU).aJ) (bD (by first | rfl | exact Rd.one ((rU.f2).aJ)) bW) (by omega) (by omega)) ?_
   rintro l11 Ii rE
   have Qc := rE.f2.right
   have D6 := V.kp (Qc.f6.f6.f6.f6.f6.f6)
   refine dX D6 (by kernel_rfl) ?_
   refine gW 5 O (by kernel_rfl) (iw 0 (l' := [_]) Qc.f5 jr O O (by first | rfl | exact Rd.one ((Qc).aJ)) O O) ?_
   rintro _ P7 AZ
   have BQ := V.kp (AZ.f6.f6.f6.f6.f6.f6)
   refine dX BQ (by kernel_rfl) ?_
   refine oH (aS ?_)
   refine RU ?_
   have X := V.yE (es := es2) (AZ.f5.right.f5.f3.f5.f5).deep
   exact (V.SH (hs := hs ++ [(u9, es2)]) (by rw [List.map_append, ZM, rev_succ (by omega), ← hge, ← hes2, List.append_assoc]; rfl) (V.Az X.swap).swap).deep
  ·rintro D14 O9 BJ
   have Yf := BJ.ed
   try simp only [eX, xE, D9] at Yf
   have ahE := Yf.abm
   subst hR6
   refine aS (aZ (kQ (aT (LC O O) (iJ O ?_))))
   refine Qq (.inl O) (ahE) (fun Ry CJ => ?_)
   refine ⟨_, ahm results112 O, ?_⟩
   have hgl : La b1 G N qB.length = La b1 G N G.length := by rw [Nh]
   rw [hgl] at CJ
   have SI := CJ.f7.f7.f5.f5.f7
   have WO := V.uj qC A8 zY rfl SI
   exact ⟨_, O, WO.f2.right.f2⟩
  ·rintro D w H; exact absurd H.swap.fact.1 id
  ·rintro id D w H; exact absurd H.swap.fact.1 fun h => h
 ·skip
  refine bT O (dM O (bg 0 dn O fD O (bg 1 dI O bU O (dQ aV O (xO).get.2 O (aT (fV ((xO.f4).aJ) aV O) (aT (fZ O O) (jo O (fun h2 => ?_) (fun h2 => ?_))))))))
  ·(try simp only [aG] at h2)
   have hN : WA N = [N] := if_neg (by rintro rfl; exact absurd Nj (by simp only [List.length_nil]; omega))
   have ag0 := xO.drew
   have LW := V.kp (ag0.f6.f6.f6.f6.f6.f6)
   refine tH [0, 5] LW O (iD 0 O LW (fun W hW => jk bP O ((Kp.h hW).f6).get.2 O) (fM 1 O LW O (jF 2 O LW O (eP 3 O LW 0 dn O fD O (eP 4 O LW 1 dI O bU O (iD 5 O LW (fun W hW => jk aV O ((Kp.h hW)).get.2 O) (lC 6 O (qW O func147 (JE ag0.f5.f5 hBn hLn)) ?_)))))))
   rintro u19 X9 ⟨akE, ajq, Df⟩
   obtain ⟨es1, rfl⟩ : ∃ q, q = akE := ⟨_, rfl⟩
   have hes1 := ajq
   have EW := V.kp (Df.f8.f8.f8.f8.f8.f8.f8.f8)
   refine dZ EW (fun W hW => (Kp.h hW).right.right.f6.f3.f3.f6.f6.f6) ?_
   refine lC 7 O (mX (vs := [_]) Df bP bU sV O O O (by decide) (bD (by first | rfl | exact Rd.one ((Df).aJ)) bW)) ?_
   rintro l20 ZJ DR
   have GX := V.kp (DR.f9.f9.f9.f9.f9.f9.f9.f9.f9)
   refine dZ GX (fun W hW => (Kp.h hW).right.f8.f8.f8.f8.f8.f8.f8.f8) ?_
   refine lC 8 O (gK (DR.iV none) bP Pg O O O ((DR).aJ) (bD (by first | rfl | exact Rd.one ((DR.f2).aJ)) bW) (by omega) (by omega)) ?_
   rintro l21 Ya xZ
   have SK := xZ.f2.right
   have EX := V.kp (SK.f9.f9.f9.f9.f9.f9.f9.f9.f9)
   refine dX EX (by kernel_rfl) ?_
   refine gW 9 O (by kernel_rfl) (iw 0 (l' := [_]) SK.f9 jr O O (by first | rfl | exact Rd.one ((SK).aJ)) O O) ?_
   rintro _ Yb BM
   have AB := V.kp (BM.f9.f9.f9.f9.f9.f9.f9.f9.f9)
   refine dX AB (by kernel_rfl) ?_
   have X := V.yE (es := es1) (BM.f6.f6.f9.f9.f9.f6.f7.f9.f9).deep
   have hJn : V w0 Yb (La b1 G N 0 • gU p (.cells #[Il, Ef, .int .i64 op, .int .i64 (iH G N : Nat), .bool true] 177 (0, 0)) • Row 56 1 Il qB.length (qB.map (·.1)) • vW qB • Row 143 3 Ef qQ.length (qQ.flatMap gJ.enc) • oK qQ • F) :=
    V.SH (hs := [(u19, es1)]) (by rw [hN, ← zY, ← hes1]; rfl) (V.Az (gs := []) X.Rj.f3.f3.f2).swap
   refine oH ?_
   refine ji (()) ?_ ?_ ?_
   ·exact (Sub.nil _)
   ·exact vV
   ·(try dsimp only)
    first | done | exact hJn
  ·(try simp only [aG] at h2)
   have hN : WA N = [] := if_pos (by rw [← zY, List.eq_nil_of_length_eq_zero (show qQ.length = 0 by omega)]; rfl)
   have hJn : V w0 w1 (La b1 G N 0 • gU p (.cells #[Il, Ef, .int .i64 op, .int .i64 (iH G N : Nat), .bool true] 177 (0, 0)) • Row 56 1 Il qB.length (qB.map (·.1)) • vW qB • Row 143 3 Ef qQ.length (qQ.flatMap gJ.enc) • oK qQ • F) :=
    V.SH (hs := []) (by rw [hN]; rfl) ((xO.f5.f5.f5.f5.f5.f6).MQ none).swap
   refine eG ?_
   refine ji (()) ?_ ?_ ?_
   ·exact (Sub.nil _)
   ·exact vV
   ·(try dsimp only)
    first | done | exact hJn
theorem YG (c : Nat) (hB : ∀ g ∈ LV G N, ∀ e ∈ g, EB e) (hL : ∀ g ∈ LV G N, g.length ≤ 16384) : Iter prog w0 (.func (.func 169) #[] #[.pointer (some ⟨c, 0, none⟩)]) (La c G N G.length) (LV G N).length
  (fun k vs A => ∃ u, ∃ fs : List gJ, fs.map gJ.says = (LV G N).getD k [] ∧ vs = [u] ∧ A = Qv u fs) := by
 intro l J X w hy H
 refine ⟨169, [], [.pointer (some ⟨c, 0, none⟩)], _, _, O, func169, O, O, ?_⟩
 obtain ⟨v, hs, ZM, hhl, H1⟩ := H.comm.YF
 have ajr := ZM
 rw [List.take_of_length_le (by simp), ← af9] at ZM
 have hlen : hs.length = (LV G N).length := by have := congrArg List.length ZM; simpa using this
 obtain ⟨a, d, hv, hc1, hc2, _⟩ := (H1.swap.aJ).form
 subst hv
 simp only [List.nil_append, List.cons_append]
 refine xqR func169 ntmps169 ?_
 dsimp only [Jq, Nat.reduceAdd]
 refine kQ (dQ bP O (H1).get.2 O (aT (fV ((H1.f2).aJ) bP O) (cO O (iR (bK ?_)))))
 refine jh [(0, _), (5, _), (6, _)] (fun (k : Nat) => [(7, .int .i64 (k : Int))]) (fun (k : Nat) W => k ≤ hs.length ∧ V w0 W (gU c (.cells #[.slice a hs.length d] 147 (0, 0)) • Row 56 1 (.slice a hs.length d) hs.length (hs.map (·.1)) • vW hs • J k)) (fun (k : Nat) => hs.length - k) (0) DK rJ ⟨by omega, H1⟩ ?_
 rintro k w1 ⟨hk, HL⟩
 dsimp only [List.cons_append, List.nil_append]
 refine kQ (aT (fJ O O) (uV (dw O (fun h1 => ?_) (fun h1 => ?_))))
 ·(try simp only [aG] at h1)
  refine gX (aI (bK (kQ ?_)))
  obtain ⟨bv, ov, cv, ev⟩ := Rd.qX ((HL.f2).aJ) (by omega)
  cases ev
  refine aT (dP bP bU O O (by omega)) ?_
  refine aT (fB (dG aV O) O (by first | exact Rd.yc ((HL.f2).aJ) (by omega) | exact Rd.I8 ((HL.f2).aJ) (by omega) | exact Rd.Ib ((HL.f2).aJ) (by omega))) ?_
  have hkl : k < hs.length := by omega
  rw [show (hs.map (·.1)).getD k undef = (hs.getD k default).1 from by simp [List.getD_eq_getElem?_getD, hkl]]
  obtain ⟨gl, vO, hg⟩ : ∃ gl vO, hs.getD k default = (gl, vO) := ⟨_, _, rfl⟩
  rw [hg]
  have Ho2 := HL.f3
  have Hc3 := Ho2.Iw hkl hg
  have hge : vO.map gJ.says = (LV G N).getD k [] := by
   rw [← ZM]
   have h9 : (hs.map (fun g => g.2.map gJ.says)).getD k [] = (hs.getD k default).2.map gJ.says := by simp [List.getD_eq_getElem?_getD, hkl]
   rw [h9, hg]
  have hgm : (LV G N).getD k [] ∈ LV G N := vM (by omega)
  have hBg := Yq hge (hB _ hgm)
  have hLg : vO.length ≤ 16384 := by
   have h7 := congrArg List.length hge
   rw [List.length_map] at h7
   have := hL _ hgm
   omega
  refine iU O (bT O (cO O (fH O func147 (Gh Hc3 hBg hLg) ?_)))
  rintro u4 w4 ⟨fs4, akF, H4⟩
  obtain ⟨es2, rfl⟩ : ∃ q, q = fs4 := ⟨_, rfl⟩
  have hes2 := akF
  have Hd5 := H4.f3.right
  refine jT (Wu O O (hy k (by omega) _ _ ⟨_, es2, hes2.trans hge, O, O⟩ (vW hs • Row 56 1 (.slice (some ⟨bv, ov, none⟩) hs.length d) hs.length (hs.map (·.1)) • gU c (.cells #[.slice (some ⟨bv, ov, none⟩) hs.length d] 147 (0, 0))) _ (Hd5.of_eq (by unfold Qv; ac_rfl))).bool) ?_
  rintro _ w6 ⟨t, rfl, ht1, ht2⟩
  refine aT (jG O) (jo O (fun h2 => ?_) (fun h2 => ?_))
  ·(try simp only [aG] at h2)
   have HX := ht2 (by simpa using h2)
   refine kN (aY (aC (aC (aY (we0 results169 ?_)))))
   exact .inr (V.comm (V.SH (u := .slice (some ⟨bv, ov, none⟩) hs.length d) ajr (HX.of_eq (by unfold LM; ac_rfl))))
  ·(try simp only [aG] at h2)
   have HN : V w0 w6 (gU c (.cells #[.slice (some ⟨bv, ov, none⟩) hs.length d] 147 (0, 0)) • Row 56 1 (.slice (some ⟨bv, ov, none⟩) hs.length d) hs.length (hs.map (·.1)) • vW hs • J (k + 1)) := by
    have h9 := ht1 (by simpa using h2)
    exact h9.of_eq (by ac_rfl)
   refine eG (aS (aZ (aF (aT (gY O O (by omega)) (cO O (dJ ?_))))))
   refine fG (k + 1) ?_ ?_ ?_ ?_
   ·exact rJ
   ·exact DK
   ·(try dsimp only)
    first | done | exact ⟨by omega, HN.f3.f3.f3⟩
   ·(try dsimp only); omega
 ·(try simp only [aG] at h1)
  refine iZ (bC (bC (dK (nJ (.inr O) results169 ?_))))
  obtain rfl : k = hs.length := by omega
  rw [← hlen]
  exact .inl (V.comm (V.SH (u := .slice a hs.length d) ajr (HL.of_eq (by unfold LM; ac_rfl))))
end
end Go.Proofs.YtnhhmieghbfalaaGreatDoor
end
section
namespace Go.Proofs.YtnhhmieghbfalaaGreatDoor
open Go.RowKit
def Pv (P : Int → Nat) (U : Int → List (List jH)) : List Int → HP
  | [] => emp
  | k :: D => lH (P k) (U k) [] 0 • Pv P U D
def YH (D : List Int) (P : Int → Nat) : Int → Option Value := fun k => if k ∈ D then some (.pointer (some ⟨P k, 0, none⟩)) else none
theorem AL {P : Int → Nat} {U : Int → List (List jH)} {k : Int} : ∀ {D : List Int}, k ∈ D → Pv P U D = (lH (P k) (U k) [] 0 • Pv P U (D.erase k))
  | x :: D, h => by
    by_cases e : x = k
    · subst e; rw [List.erase_cons_head]; rfl
    · rw [List.erase_cons_tail (by simpa using e)]
      have hk : k ∈ D := (List.mem_cons.1 h).resolve_left (Ne.symm e)
      show (lH (P x) (U x) [] 0 • Pv P U D) = _
      rw [AL hk]
      show (lH (P x) (U x) [] 0 • lH (P k) (U k) [] 0 • Pv P U (D.erase k)) = (lH (P k) (U k) [] 0 • (lH (P x) (U x) [] 0 • Pv P U (D.erase k)))
      ac_rfl
theorem Kw {P P' : Int → Nat} {U U' : Int → List (List jH)} : ∀ {D : List Int}, (∀ k ∈ D, P k = P' k ∧ U k = U' k) → Pv P U D = Pv P' U' D
  | [], _ => rfl
  | x :: D, h => by
    show (lH (P x) (U x) [] 0 • Pv P U D) = (lH (P' x) (U' x) [] 0 • Pv P' U' D)
    rw [(h x (by simp)).1, (h x (by simp)).2, Kw fun k hk => h k (List.mem_cons_of_mem _ hk)]
def DX (b : Nat) (U : Int → List (List jH)) : HP := BK fun (x : List Int × (Int → Nat)) => fact (x.1.Nodup ∧ ∀ k, k ∉ x.1 → U k = []) • lV zH b (YH x.1 x.2) • Pv x.2 U x.1
def Vg (b : Nat) (U : Int → List (List jH)) (k : Int) (p : Nat) : HP := BK fun (x : List Int × (Int → Nat)) => fact (x.1.Nodup ∧ (∀ k, k ∉ x.1 → U k = []) ∧ k ∈ x.1 ∧ x.2 k = p) • lV zH b (YH x.1 x.2) • Pv x.2 U (x.1.erase k)
section
variable {w0 w : World} {F : HP} {b p : Nat} {k : Int} {U : Int → List (List jH)} {G : List (List jH)}
theorem V.aek (H : V w0 w (DX b U • F)) : ∃ D P, (D : List Int).Nodup ∧ (∀ k, k ∉ D → U k = []) ∧ V w0 w (lV zH b (YH D P) • Pv P U D • F) := by
  obtain ⟨⟨D, P⟩, H⟩ := H.sS
  obtain ⟨⟨h1, h2⟩, H⟩ := H.flat.fact
  exact ⟨D, P, h1, h2, H.flat⟩
theorem V.Ky {D : List Int} {P : Int → Nat} (h1 : D.Nodup) (h2 : ∀ k, k ∉ D → U k = []) (H : V w0 w (lV zH b (YH D P) • Pv P U D • F)) : V w0 w (DX b U • F) :=
  V.lK (D, P) (V.deep (V.qY ⟨h1, h2⟩ H.deep))
theorem V.ael {D : List Int} {P : Int → Nat} (h1 : D.Nodup) (h2 : ∀ k, k ∉ D → U k = []) (hk : k ∈ D) (H : V w0 w (lV zH b (YH D P) • Pv P U D • F)) : V w0 w (lH (P k) (U k) [] 0 • Vg b U k (P k) • F) := by
  have H1 : V w0 w ((lV zH b (YH D P) • Pv P U (D.erase k)) • lH (P k) (U k) [] 0 • F) := H.of_eq (by rw [AL hk]; ac_rfl)
  have H2 : V w0 w (Vg b U k (P k) • lH (P k) (U k) [] 0 • F) := V.lK (D, P) (V.deep (V.qY ⟨h1, h2, hk, rfl⟩ H1))
  exact H2.swap
theorem V.CQ (H : V w0 w (Vg b U k p • lH p G [] 0 • F)) : V w0 w (DX b (um U k G) • F) := by
  obtain ⟨⟨D, P⟩, H⟩ := H.sS
  obtain ⟨⟨h1, h2, hk, hp⟩, H⟩ := H.flat.fact
  dsimp only at h1 h2 hk hp H
  subst hp
  refine V.Ky (D := D) (P := P) h1 (fun x hx => ?_) ?_
  · rw [zi _ _ (by rintro rfl; exact hx hk)]; exact h2 x hx
  · rw [AL (U := um U k G) hk, jv, Kw (P' := P) (U' := U) fun x hx => ⟨rfl, zi _ _ (by rintro rfl; exact (List.Nodup.not_mem_erase h1) hx)⟩]
    exact H.of_eq (by ac_rfl)
end
def zI (t : Int → Option ByteArray) : Int → Option Value := fun k => (t k).map .string
def aaz (pb pr pw pt pm : Nat) (c : rV) : HP := jC pb c.L c.pt c.mark • iG pr c.E c.at_ • gU pw (.cells #[.int .i64 c.place, .map (some pt)] 123 (0, 0)) • lV zH pt (zI c.tx) • DX pm c.un
def YI (pb pr pw pm : Nat) (c : rV) : List Value := [.pointer (some ⟨pb, 0, none⟩), .pointer (some ⟨pr, 0, none⟩), .pointer (some ⟨pw, 0, none⟩), .map (some pm), .int .i64 c.mode, .bool c.over, .int .i64 c.last, .int .i64 c.fr, .int .i64 c.to, .int .i64 c.res, .bool c.run]
def Dy (inn : Bool) (c : rV) (u : List Value) : HP := if inn = true then BK fun (x : Nat × Nat × Nat × Nat × Nat) => fact (u = YI x.1 x.2.1 x.2.2.1 x.2.2.2.2 c) • aaz x.1 x.2.1 x.2.2.1 x.2.2.2.1 x.2.2.2.2 c else (fact ((u.all fun x => x.oneCell') = true))
def WR (hl : List rM) (c : rV) : Prop := 0 ≤ c.place ∧ c.place ≤ hl.length ∧ (∀ k t, c.tx k = some t → t.size ≤ 16384)
def BO (e : jH) : Prop := 0 ≤ e.1 ∧ 0 < e.2.1.length + e.2.2.length ∧ e.2.1.length ≤ 1024 ∧ e.2.2.length ≤ 1024
def ru (s : aX) : Prop := WR s.hl s.c ∧ (s.inn = true → WR s.hl s.was ∧ iH (s.was.un s.was.place) [] ≤ 16384 ∧ ∀ k, ∀ g ∈ s.was.un k, ∀ e ∈ g, BO e) ∧ (-1 ≤ s.arg ∧ s.arg ≤ 1000000) ∧ (∀ e ∈ s.put, BO e) ∧ iH s.here s.put ≤ 16384 ∧ (∀ k, ∀ g ∈ s.c.un k, ∀ e ∈ g, BO e)
structure EdP where
  pb : Nat
  pr : Nat
  pw : Nat
  pt : Nat
  pm : Nat
  ph : Nat
  bl : Nat
  pv : Value
  es : List gJ
  u0 : Value
  u1 : Value
  u2 : Value
  u3 : Value
  u4 : Value
  u5 : Value
  u6 : Value
  u7 : Value
  u8 : Value
  u9 : Value
  ua : Value
def EdG (e : Nat) (s : aX) (M : Nat → HP) : HP := BK fun (x : EdP) => fact (ru s ∧ x.es.map gJ.says = s.put) •
  gU e (.cells (.pointer (some ⟨x.pb, 0, none⟩) :: .pointer (some ⟨x.pr, 0, none⟩) :: .pointer (some ⟨x.pw, 0, none⟩) :: .map (some x.pm) :: .int .i64 s.c.mode :: .bool s.c.over :: .int .i64 s.c.last :: .int .i64 s.c.fr :: .int .i64 s.c.to :: .int .i64 s.c.res :: .bool s.c.run :: .pointer (some ⟨x.ph, 0, none⟩) :: .pointer (some ⟨x.bl, 0, none⟩) :: .bool s.given :: .bool s.minus :: .int .i64 s.arg :: .bool s.inn :: x.u0 :: x.u1 :: x.u2 :: x.u3 :: x.u4 :: x.u5 :: x.u6 :: x.u7 :: x.u8 :: x.u9 :: x.ua :: .int .i64 s.cls :: .bool s.lS :: .bool s.jc :: .bool s.argues :: .bool s.whole :: x.pv :: []).toArray 85 (0, 0)) •
  jC x.pb s.c.L s.c.pt s.c.mark • iG x.pr s.c.E s.c.at_ • gU x.pw (.cells #[.int .i64 s.c.place, .map (some x.pt)] 123 (0, 0)) • lV zH x.pt (zI s.c.tx) • M x.pm •
  jM x.ph s.hl s.base s.most • gU x.bl (.cells #[.int .i64 s.nR] 112 (0, 0)) • Row 143 3 x.pv s.put.length (x.es.flatMap gJ.enc) • oK x.es • Dy s.inn s.was [x.u0, x.u1, x.u2, x.u3, x.u4, x.u5, x.u6, x.u7, x.u8, x.u9, x.ua]
def gQ (e : Nat) (s : aX) : HP := EdG e s fun pm => DX pm s.c.un
def akG (e : Nat) (s : aX) (p : Nat) : HP := EdG e s fun pm => Vg pm s.c.un s.c.place p
section
variable {w0 w : World} {F : HP} {e : Nat} {s : aX} {M : Nat → HP}
theorem V.edG (H : V w0 w (EdG e s M • F)) : ∃ pb pr pw pt pm ph bl pv es u0 u1 u2 u3 u4 u5 u6 u7 u8 u9 ua, ru s ∧ es.map gJ.says = s.put ∧ es.length = s.put.length ∧ V w0 w (
  gU e (.cells (.pointer (some ⟨pb, 0, none⟩) :: .pointer (some ⟨pr, 0, none⟩) :: .pointer (some ⟨pw, 0, none⟩) :: .map (some pm) :: .int .i64 s.c.mode :: .bool s.c.over :: .int .i64 s.c.last :: .int .i64 s.c.fr :: .int .i64 s.c.to :: .int .i64 s.c.res :: .bool s.c.run :: .pointer (some ⟨ph, 0, none⟩) :: .pointer (some ⟨bl, 0, none⟩) :: .bool s.given :: .bool s.minus :: .int .i64 s.arg :: .bool s.inn :: u0 :: u1 :: u2 :: u3 :: u4 :: u5 :: u6 :: u7 :: u8 :: u9 :: ua :: .int .i64 s.cls :: .bool s.lS :: .bool s.jc :: .bool s.argues :: .bool s.whole :: pv :: []).toArray 85 (0, 0)) •
  jC pb s.c.L s.c.pt s.c.mark • iG pr s.c.E s.c.at_ • gU pw (.cells #[.int .i64 s.c.place, .map (some pt)] 123 (0, 0)) • lV zH pt (zI s.c.tx) • M pm •
  jM ph s.hl s.base s.most • gU bl (.cells #[.int .i64 s.nR] 112 (0, 0)) • Row 143 3 pv s.put.length (es.flatMap gJ.enc) • oK es • Dy s.inn s.was [u0, u1, u2, u3, u4, u5, u6, u7, u8, u9, ua] • F) := by
  obtain ⟨⟨pb, pr, pw, pt, pm, ph, bl, pv, es, u0, u1, u2, u3, u4, u5, u6, u7, u8, u9, ua⟩, H⟩ := H.sS
  obtain ⟨⟨h1, h2⟩, H⟩ := H.flat.fact
  refine ⟨pb, pr, pw, pt, pm, ph, bl, pv, es, u0, u1, u2, u3, u4, u5, u6, u7, u8, u9, ua, h1, h2, ?_, ?_⟩
  · rw [← h2]; simp
  · dsimp only at H
    exact H.of_eq (by simp only [eX])
theorem V.ahV {pb pr pw pt pm ph bl : Nat} {pv : Value} {es : List gJ} {u0 u1 u2 u3 u4 u5 u6 u7 u8 u9 ua : Value} (h1 : ru s) (h2 : es.map gJ.says = s.put) (H : V w0 w (
  gU e (.cells (.pointer (some ⟨pb, 0, none⟩) :: .pointer (some ⟨pr, 0, none⟩) :: .pointer (some ⟨pw, 0, none⟩) :: .map (some pm) :: .int .i64 s.c.mode :: .bool s.c.over :: .int .i64 s.c.last :: .int .i64 s.c.fr :: .int .i64 s.c.to :: .int .i64 s.c.res :: .bool s.c.run :: .pointer (some ⟨ph, 0, none⟩) :: .pointer (some ⟨bl, 0, none⟩) :: .bool s.given :: .bool s.minus :: .int .i64 s.arg :: .bool s.inn :: u0 :: u1 :: u2 :: u3 :: u4 :: u5 :: u6 :: u7 :: u8 :: u9 :: ua :: .int .i64 s.cls :: .bool s.lS :: .bool s.jc :: .bool s.argues :: .bool s.whole :: pv :: []).toArray 85 (0, 0)) •
  jC pb s.c.L s.c.pt s.c.mark • iG pr s.c.E s.c.at_ • gU pw (.cells #[.int .i64 s.c.place, .map (some pt)] 123 (0, 0)) • lV zH pt (zI s.c.tx) • M pm •
  jM ph s.hl s.base s.most • gU bl (.cells #[.int .i64 s.nR] 112 (0, 0)) • Row 143 3 pv s.put.length (es.flatMap gJ.enc) • oK es • Dy s.inn s.was [u0, u1, u2, u3, u4, u5, u6, u7, u8, u9, ua] • F)) : V w0 w (EdG e s M • F) :=
  V.lK ⟨pb, pr, pw, pt, pm, ph, bl, pv, es, u0, u1, u2, u3, u4, u5, u6, u7, u8, u9, ua⟩ (V.deep (V.qY ⟨h1, h2⟩ (H.of_eq (by simp only [eX]))))
theorem V.iC {pb pr pw pt pm ph bl : Nat} {pv : Value} {es : List gJ} {u0 u1 u2 u3 u4 u5 u6 u7 u8 u9 ua : Value} (h1 : ru s) (h2 : es.map gJ.says = s.put) (H : V w0 w (
  gU e (.cells (.pointer (some ⟨pb, 0, none⟩) :: .pointer (some ⟨pr, 0, none⟩) :: .pointer (some ⟨pw, 0, none⟩) :: .map (some pm) :: .int .i64 s.c.mode :: .bool s.c.over :: .int .i64 s.c.last :: .int .i64 s.c.fr :: .int .i64 s.c.to :: .int .i64 s.c.res :: .bool s.c.run :: .pointer (some ⟨ph, 0, none⟩) :: .pointer (some ⟨bl, 0, none⟩) :: .bool s.given :: .bool s.minus :: .int .i64 s.arg :: .bool s.inn :: u0 :: u1 :: u2 :: u3 :: u4 :: u5 :: u6 :: u7 :: u8 :: u9 :: ua :: .int .i64 s.cls :: .bool s.lS :: .bool s.jc :: .bool s.argues :: .bool s.whole :: pv :: []).toArray 85 (0, 0)) •
  jC pb s.c.L s.c.pt s.c.mark • iG pr s.c.E s.c.at_ • gU pw (.cells #[.int .i64 s.c.place, .map (some pt)] 123 (0, 0)) • lV zH pt (zI s.c.tx) • DX pm s.c.un •
  jM ph s.hl s.base s.most • gU bl (.cells #[.int .i64 s.nR] 112 (0, 0)) • Row 143 3 pv s.put.length (es.flatMap gJ.enc) • oK es • Dy s.inn s.was [u0, u1, u2, u3, u4, u5, u6, u7, u8, u9, ua] • F)) : V w0 w (gQ e s • F) := V.ahV (M := fun pm => DX pm s.c.un) h1 h2 H
theorem V.Gs (H : V w0 w (gQ e s • F)) : ∃ pb pr pw pt pm ph bl pv es u0 u1 u2 u3 u4 u5 u6 u7 u8 u9 ua, ru s ∧ es.map gJ.says = s.put ∧ es.length = s.put.length ∧ V w0 w (
  gU e (.cells (.pointer (some ⟨pb, 0, none⟩) :: .pointer (some ⟨pr, 0, none⟩) :: .pointer (some ⟨pw, 0, none⟩) :: .map (some pm) :: .int .i64 s.c.mode :: .bool s.c.over :: .int .i64 s.c.last :: .int .i64 s.c.fr :: .int .i64 s.c.to :: .int .i64 s.c.res :: .bool s.c.run :: .pointer (some ⟨ph, 0, none⟩) :: .pointer (some ⟨bl, 0, none⟩) :: .bool s.given :: .bool s.minus :: .int .i64 s.arg :: .bool s.inn :: u0 :: u1 :: u2 :: u3 :: u4 :: u5 :: u6 :: u7 :: u8 :: u9 :: ua :: .int .i64 s.cls :: .bool s.lS :: .bool s.jc :: .bool s.argues :: .bool s.whole :: pv :: []).toArray 85 (0, 0)) •
  jC pb s.c.L s.c.pt s.c.mark • iG pr s.c.E s.c.at_ • gU pw (.cells #[.int .i64 s.c.place, .map (some pt)] 123 (0, 0)) • lV zH pt (zI s.c.tx) • DX pm s.c.un •
  jM ph s.hl s.base s.most • gU bl (.cells #[.int .i64 s.nR] 112 (0, 0)) • Row 143 3 pv s.put.length (es.flatMap gJ.enc) • oK es • Dy s.inn s.was [u0, u1, u2, u3, u4, u5, u6, u7, u8, u9, ua] • F) := H.edG
end
end Go.Proofs.YtnhhmieghbfalaaGreatDoor
end
section
namespace Go.Proofs.YtnhhmieghbfalaaGreatDoor
open Go.RowKit
open _root_.Go.Proofs.Tryz
def YJ {β : Type} (f : Int → Option β) (S : List Int) : Int → Option β := fun k => if k ∈ S then f k else none
theorem aem {β : Type} (f : Int → Option β) : YJ f [] = fun _ => none := by funext k; simp [YJ]
theorem acE {β : Type} {f : Int → Option β} {S : List Int} {a : Int} {u : β} (h : f a = some u) : YJ f (S ++ [a]) = upd (YJ f S) a u := by
  funext k
  unfold YJ upd
  by_cases hk : k = a
  · subst hk; simp [h]
  · simp [hk]
theorem aen {β : Type} {f : Int → Option β} {S : List Int} (h : ∀ a u, f a = some u → a ∈ S) : YJ f S = f := by
  funext k
  unfold YJ
  split
  · rfl
  · rename_i hk
    cases hf : f k with
    | none => rfl
    | some u => exact absurd (h k u hf) hk
theorem abN (P : Int → Nat) : YH [] P = fun _ => none := by funext k; simp [YH]
theorem aeo {D : List Int} {P : Int → Nat} {a : Int} {u : Value} (h : YH D P a = some u) : a ∈ D ∧ u = .pointer (some ⟨P a, 0, none⟩) := by
  unfold YH at h
  split at h
  · rename_i hm; exact ⟨hm, by cases h; rfl⟩
  · cases h
theorem YK {S : List Int} {P : Int → Nat} {a : Int} {q : Nat} (h : a ∉ S) : YH (S ++ [a]) (um P a q) = upd (YH S P) a (.pointer (some ⟨q, 0, none⟩)) := by
  funext k
  unfold YH upd um
  by_cases hk : k = a
  · subst hk; simp
  · simp [hk]
theorem SL {P : Int → Nat} {U : Int → List (List jH)} {a : Int} : ∀ {S : List Int}, Pv P U (S ++ [a]) = (Pv P U S • lH (P a) (U a) [] 0)
  | [] => by show (lH (P a) (U a) [] 0 • emp) = (emp • lH (P a) (U a) [] 0); rw [D9, xE]
  | x :: S => by
    show (lH (P x) (U x) [] 0 • Pv P U (S ++ [a])) = ((lH (P x) (U x) [] 0 • Pv P U S) • lH (P a) (U a) [] 0)
    rw [SL, eX]
theorem Vh {α : Type} {o : Option α} (h : ¬ o.isSome = true) : o = none := by cases o <;> simp_all
theorem SN {S : List Int} {a : Int} (h : S.Nodup) (ha : a ∉ S) : (S ++ [a]).Nodup := by
  rw [List.nodup_append]
  exact ⟨h, by simp, by intro x hx y hy; rw [List.mem_singleton.1 hy]; rintro rfl; exact ha hx⟩
section
variable {w0 w : World} {F : HP} {pb pr pw pt pm : Nat} {c : rV}
theorem aep (H : V w0 w (jC pb c.L c.pt c.mark • iG pr c.E c.at_ • gU pw (.cells #[.int .i64 c.place, .map (some pt)] 123 (0, 0)) • lV zH pt (zI c.tx) • DX pm c.un • F)) :
  iK prog 23 #[.agg #[.pointer (some ⟨pb, 0, none⟩), .pointer (some ⟨pr, 0, none⟩), .pointer (some ⟨pw, 0, none⟩), .map (some pm), .int .i64 c.mode, .bool c.over, .int .i64 c.last, .int .i64 c.fr, .int .i64 c.to, .int .i64 c.res, .bool c.run]] w fun v w' =>
   ∃ qb qr qw qt qm, v = .agg #[.pointer (some ⟨qb, 0, none⟩), .pointer (some ⟨qr, 0, none⟩), .pointer (some ⟨qw, 0, none⟩), .map (some qm), .int .i64 c.mode, .bool c.over, .int .i64 c.last, .int .i64 c.fr, .int .i64 c.to, .int .i64 c.res, .bool c.run] ∧
    V w0 w' (jC qb c.L c.pt c.mark • iG qr c.E c.at_ • gU qw (.cells #[.int .i64 c.place, .map (some qt)] 123 (0, 0)) • lV zH qt (zI c.tx) • DX qm c.un •
     jC pb c.L c.pt c.mark • iG pr c.E c.at_ • gU pw (.cells #[.int .i64 c.place, .map (some pt)] 123 (0, 0)) • lV zH pt (zI c.tx) • DX pm c.un • F) := by
 refine jl func23 ntmps23 ?_
 refine kQ (jT (kZ (l := [_, _, _, _, _, _, _, _, _, _, _]) H O O) ?_)
 rintro _ w1 ⟨b1, rfl, H1⟩
 refine jT (iI (l := [_, _, _, _, _, _, _, _, _, _, _]) H1 sZ O) ?_
 rintro _ w2 ⟨b2, rfl, H2⟩
 refine uV ?_
 have Jz := H2.drew
 have jL := V.kp (Jz.f7.f7.f7.f7.f7.f7.f7)
 refine tH [1, 4] jL O (eP 0 O jL 0 aK O kM O (iD 1 O jL (fun W hW => jk iL O ((Kp.h hW).f2).get.2 O) (eP 3 O jL 1 aK O sizeOf78 O (iD 4 O jL (fun W hW => jk xg O ((Kp.h hW).f2).get.2 O) (lC 2 O (qW O func78 (Uh Jz.f3)) ?_)))))
 rintro _ w3 ⟨q3, rfl, H3⟩
 have lW := V.kp (H3.f8.f8.f8.f8.f8.f8.f8.f8)
 refine dZ lW (fun W hW => (Kp.h hW).right.f7.f7.f7.f7.f5.f7.f7) ?_
 refine eP 6 O lW 0 aK O kM O (lC 5 O (qW O func79 (EP H3.f5)) ?_)
 rintro _ w4 ⟨pc4, rfl, H4⟩
 have ng := V.kp (H4.f9.f9.f9.f9.f9.f9.f9.f9.f9)
 refine dX ng (by kernel_rfl) ?_
 refine gW 7 O (by kernel_rfl) (iw 0 (l' := [_, _, _, _, _, _, _, _, _, _, _]) H4.f6 kM O O (by first | rfl | assumption) O O) ?_
 rintro _ w5 H5
 have zQ := V.kp (H5.f9.f9.f9.f9.f9.f9.f9.f9.f9)
 refine dX zQ (by kernel_rfl) ?_
 refine eP 8 O zQ 1 aK O sizeOf78 O ?_
 refine gW 9 O (by kernel_rfl) (iw 1 (l' := [_, _, _, _, _, _, _, _, _, _, _]) H5 sizeOf78 O O (by first | rfl | assumption) O O) ?_
 rintro _ w6 H6
 have Am := V.kp (H6.f9.f9.f9.f9.f9.f9.f9.f9.f9)
 refine dX Am (by kernel_rfl) ?_
 refine oH (aZ (kQ (bg 2 aK O qc O (dQ lZ O (H6).get.2 O (dM O (bg 0 iF O ah O (dQ ay O (H6.f7).get.2 O (jT (qZ (KJ .i64) H6) ?_))))))))
 rintro _ w7 ⟨b7, rfl, H7⟩
 refine aT (kS (pl := #[(0, 1), (1, 1)]) (#[_, _]) iF xk (fun w => by kernel_rfl) O (O)) (jT (kZ (l := [_, _]) H7 O O) ?_)
 rintro _ w8 ⟨b8, rfl, H8⟩
 refine vI O (kQ (bg 2 aK O qc O (dQ lZ O (H8.f3).get.2 O (dM O (bg 1 iF O sizeOf121 O (dQ qU O (H8.f9).get.2 O (jT (Pq H8.f10 qU O) ?_)))))))
 rintro _ w9 ⟨it9, mi, rfl, H9⟩
 refine iR (bK ?_)
 obtain ⟨R10, ahW, ahX⟩ := V.QK (H9.f2.f3.f3)
 have HX0 := ahX
 rw [← aem (zI c.tx)] at HX0
 refine jh [(1, _), (2, _), (3, _), (30, _)] (fun (⟨S, n⟩ : List Int × Nat) => []) (fun (⟨S, n⟩ : List Int × Nat) W => V w0 W (Nq zH pt it9 (zI c.tx) S n • lV zH b7 (YJ (zI c.tx) S) • gU b8 (.cells #[.int .i64 c.place, .map (some b7)] 123 (0, 0)) • R10)) (fun (⟨S, n⟩ : List Int × Nat) => n) (([], _)) sb4 (Sub.nil _) HX0 ?_
 rintro ⟨S, n⟩ Ii HL
 dsimp only [List.cons_append, List.nil_append]
 refine kQ (jT (SG HL O) ?_)
 rintro _ w12 ⟨ox, Sx, mx, rfl, hNx, uP⟩
 refine aT (agZ O) (uV (dw O (fun h1 => ?_) (fun h1 => ?_)))
 ·(try simp only [aG] at h1)
  obtain ⟨⟨a, u⟩, rfl⟩ := Option.isSome_iff_exists.1 h1
  obtain ⟨ha, hns, hlt, rfl⟩ := hNx
  refine gX (bK (kQ ?_))
  refine aT (abM (uP) (by assumption) O) ?_
  refine xY O O (xY O O (lg O (iU O (aF (kY O O (bg 1 iF O sizeOf121 O (dQ qU O (uP.f3).get.2 O (ku O O (aH (FQ uP.f2 qU ay O O O) ?_)))))))))
  rintro _ P7 AZ
  refine dJ (aS ?_)
  have hres := acE (S := S) ha
  refine fG ((S ++ [a], mx)) ?_ ?_ ?_ ?_
  ·exact (Sub.nil _)
  ·exact sb4
  ·(try dsimp only)
   first | done | exact (by rw [hres]; exact AZ.f3.f2.f3)
  ·(try dsimp only); omega
 ·(try simp only [aG] at h1)
  obtain rfl := Vh (o := ox) (by simp [h1])
  obtain ⟨rfl, rfl, hall⟩ := hNx
  refine iZ (bC ?_)
  have HX := uP.f3.f2.f3
  rw [aen hall] at HX
  have LX := HX.f2
  have Fz := LX.Vf
  subst ahW
  refine bC (dK (aZ (bT O (bg 2 aK O qc O (aH (iw 2 (l' := [_, _, _, _, _, _, _, _, _, _, _]) Fz.f4 qc O O (by first | rfl | assumption) O O) ?_)))))
  rintro _ w16 yG
  refine zk7 (jT (qZ (KJ .i64) yG) ?_)
  rintro _ ZI ⟨b17, rfl, DL⟩
  refine vI O (aI ?_)
  obtain ⟨D, P, hD1, hD2, HU⟩ := (DL.f12).aek
  refine aF (bg 3 aK O sizeOf80 O (dQ qO O (HU.f4).get.2 O (jT (Pq HU qO O) ?_)))
  rintro _ U5 ⟨akH, mi, rfl, DN⟩
  refine iR (bK ?_)
  obtain ⟨R19, akI, akJ⟩ := V.QK (DN.f3.f3.f3)
  have HX0 := akJ
  rw [← abN P] at HX0
  refine jh [(1, _), (2, _), (6, _), (47, _)] (fun (⟨S, n, P2⟩ : List Int × Nat × (Int → Nat)) => []) (fun (⟨S, n, P2⟩ : List Int × Nat × (Int → Nat)) W => S.Nodup ∧ V w0 W (Nq zH pm akH (YH D P) S n • Pv P c.un D • lV zH b17 (YH S P2) • Pv P2 c.un S • R19)) (fun (⟨S, n, P2⟩ : List Int × Nat × (Int → Nat)) => n) (([], _, P)) sb4 (Sub.nil _) ⟨List.nodup_nil, (HX0).of_eq (by show _ = (_ • _ • _ • emp • _); rw [xE])⟩ ?_
  rintro ⟨S, n, P2⟩ ZJ ⟨hS, HL⟩
  dsimp only [List.cons_append, List.nil_append]
  refine kQ (jT (SG HL O) ?_)
  rintro _ Ya ⟨ox, Sx, mx, rfl, hNx, xZ⟩
  refine aT (agZ O) (uV (dw O (fun h2 => ?_) (fun h2 => ?_)))
  ·(try simp only [aG] at h2)
   obtain ⟨⟨a, u⟩, rfl⟩ := Option.isSome_iff_exists.1 h2
   obtain ⟨ha, hns, hlt, rfl⟩ := hNx
   obtain ⟨hmem, rfl⟩ := aeo ha
   have HF := xZ.f2
   rw [AL hmem] at HF
   have HF2 := HF.flat
   refine gX (bK (kQ ?_))
   refine aT (abM (HF2.f3) (by assumption) O) ?_
   refine xY O O (xY O O (lg O (iU O (aF (ku O O (cO O (fH O func80 (Sl HF2) ?_)))))))
   rintro _ w22 ⟨q22, rfl, FI⟩
   refine aH (FQ FI.f5 qO ay O O O) ?_
   rintro _ Yb BM
   refine dJ (aS ?_)
   have HQ := BM.f2.f6.f3.f5.f5.f6
   have hu1 : Pv (um P2 a q22) c.un (S ++ [a]) = (Pv P2 c.un S • lH q22 (c.un a) [] 0) := by
    rw [SL, jv, Kw (P' := P2) (U' := c.un) fun x hx => ⟨zi _ _ (by rintro rfl; exact hns hx), rfl⟩]
   refine fG ((S ++ [a], mx, um P2 a q22)) ?_ ?_ ?_ ?_
   ·exact (Sub.nil _)
   ·exact sb4
   ·(try dsimp only)
    first | done | exact ⟨SN hS hns, HQ.of_eq (by rw [AL hmem, hu1, YK hns]; ac_rfl)⟩
   ·(try dsimp only); omega
  ·(try simp only [aG] at h2)
   obtain rfl := Vh (o := ox) (by simp [h2])
   obtain ⟨rfl, rfl, hall⟩ := hNx
   refine iZ (bC ?_)
   have akK := xZ
   have akL := akK.Vf
   subst akI
   have akM := akL.f2.f2
   have akN := V.Ky hD1 hD2 akM
   have hnS : ∀ k, k ∉ Sx → c.un k = [] := fun k hk => hD2 k fun hkD => hk (hall k _ (if_pos hkD))
   have ahY := akN.f3.f3
   have ahZ := V.Ky hS hnS ahY
   refine bC (dK (aZ (bT O (bg 3 aK O sizeOf80 O (aH (iw 3 (l' := [_, _, _, _, _, _, _, _, _, _, _]) ahZ.f3 sizeOf80 O O (by first | rfl | assumption) O O) ?_)))))
   rintro _ w30 P9
   refine zk7 (aT (dU aK O aU O O (P9).get.2) (aH (dR 0 (l' := [_, _, _, _, _, _, _, _, _, _, _]) (us := [_, _, _, _, _, _, _, _, _, _, _]) P9.f11 aU O O O (aP (aP (aP (aP (aP (aP (aP (aP (aP (aP (aP bW))))))))))) O O) ?_))
   rintro _ w31 TW
   refine zkc ?_
   refine wW (.inl O) (Oj results23 O aK O (by rw [ajs]; rfl) (TW).get.2) ?_
   exact ⟨_, _, _, _, _, O, TW.right.right.f2.f3.f10.f8.f10.f6.f7.f8.f9.f10⟩
end
end Go.Proofs.YtnhhmieghbfalaaGreatDoor
end
