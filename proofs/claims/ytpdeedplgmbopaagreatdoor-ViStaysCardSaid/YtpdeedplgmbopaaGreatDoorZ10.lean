import Derived.Test.YtpdeedplgmbopaaGreatDoorZ4
import Derived.Test.YtpdeedplgmbopaaGreatDoorZ3
import Derived.Maps.RangeRun
import Derived.Test.YtpdeedplgmbopaaGreatDoorZ9
set_option linter.unusedSimpArgs false
set_option linter.unusedVariables false
/- Texts of mine, joined, their names in short: Map UGroups Ed EdTwin. -/
section
namespace Go.Proofs.YtpdeedplgmbopaaGreatDoor
open Go.RowKit Go.MapKept
structure Key (α : Type) where
  mkKey ::
  d : TypeDesc
  mk : α → Value
  key : ∀ a, IsKey d (mk a)
  inj : ∀ a b, mk a = mk b → a = b
  onto : ∀ v, IsKey d v → ∃ a, mk a = v
def DN (k : IntKind) : Key Int := ⟨.int k, .int k, fun _ => rfl, fun _ _ h => by cases h; rfl, fun v h => by
  cases v <;> simp [IsKey] at h
  subst h
  exact ⟨_, rfl⟩⟩
abbrev yx : Key Int := DN .i64
abbrev YK : Key Int := DN .i32
def amd : Key ByteArray := ⟨.string, .string, fun _ => trivial, fun _ _ h => by cases h; rfl, fun v h => by
  cases v <;> simp [IsKey] at h
  exact ⟨_, rfl⟩⟩
section
variable {α : Type} {K : Key α} {f : α → Option Value} {es : Array MapEntry} {clock : Nat}
def Jl (K : Key α) (f : α → Option Value) (es : Array MapEntry) (clock : Nat) : Prop :=
  Stamped es clock ∧ (∀ x ∈ es.toList, IsKey K.d x.key) ∧ ∀ a v, f a = some v ↔ ∃ x ∈ es.toList, x.key = K.mk a ∧ x.val = v
def jv (K : Key α) (b : Nat) (f : α → Option Value) : HP := zX fun (x : Array MapEntry × Nat) => fact (Jl K f x.1 x.2) • gJ b (.map x.1 x.2)
def upd [DecidableEq α] {β : Type} (f : α → Option β) (a : α) (v : β) : α → Option β := fun x => if x = a then some v else f x
theorem Jl.same (h : Jl K f es clock) {x y : MapEntry} (hx : x ∈ es.toList) (hy : y ∈ es.toList) (e : x.key = y.key) : x = y := by
  have hn := h.1.2.2
  rw [List.Nodup, List.pairwise_map] at hn
  exact E8 hn hx hy e
where
  E8 : ∀ {l : List MapEntry}, l.Pairwise (fun x y => x.key ≠ y.key) → ∀ {x y : MapEntry}, x ∈ l → y ∈ l → x.key = y.key → x = y
    | [], _, _, _, hx, _, _ => by cases hx
    | z :: l, hp, x, y, hx, hy, e => by
      rw [List.pairwise_cons] at hp
      rcases List.mem_cons.1 hx with hx1 | hx1
      · rcases List.mem_cons.1 hy with hy1 | hy1
        · rw [hx1, hy1]
        · exact absurd (by rw [← hx1]; exact e) (hp.1 _ hy1)
      · rcases List.mem_cons.1 hy with hy1 | hy1
        · exact absurd (by rw [← hy1]; exact e.symm) (hp.1 _ hx1)
        · exact E8 hp.2 hx1 hy1 e
theorem aac : ∀ {l : List MapEntry}, (l.map (·.born)).Nodup → ∀ {x y : MapEntry}, x ∈ l → y ∈ l → x.born = y.born → x = y
  | [], _, _, _, hx, _, _ => by cases hx
  | z :: l, hp, x, y, hx, hy, e => by
    rw [List.map_cons, List.nodup_cons] at hp
    rcases List.mem_cons.1 hx with hx1 | hx1
    · rcases List.mem_cons.1 hy with hy1 | hy1
      · rw [hx1, hy1]
      · exact absurd (List.mem_map.2 ⟨y, hy1, by rw [← hx1]; exact e.symm⟩) hp.1
    · rcases List.mem_cons.1 hy with hy1 | hy1
      · exact absurd (List.mem_map.2 ⟨x, hx1, by rw [← hy1]; exact e⟩) hp.1
      · exact aac hp.2 hx1 hy1 e
theorem Jl.find (h : Jl K f es clock) (a : α) : (Instr.findNow K.d (K.mk a) es.toList 0 = some none ∧ f a = none ∧ ∀ x ∈ es.toList, x.key ≠ K.mk a) ∨
    ∃ j e, Instr.findNow K.d (K.mk a) es.toList 0 = some (some (j, e.val)) ∧ es.toList[j]? = some e ∧ e.key = K.mk a ∧ f a = some e.val := by
  rcases findNow_spec (K.key a) es.toList 0 h.2.1 with ⟨h1, h2⟩ | ⟨j, e, h1, h2, h3⟩
  · refine .inl ⟨h1, ?_, h2⟩
    cases hf : f a with
    | none => rfl
    | some v =>
      obtain ⟨x, hx, hk, _⟩ := (h.2.2 a v).1 hf
      exact absurd hk (h2 x hx)
  · refine .inr ⟨j, e, by simpa using h1, h2, h3, (h.2.2 a e.val).2 ⟨e, List.mem_of_getElem? h2, h3, rfl⟩⟩
theorem V8 (K : Key α) : Jl K (fun _ => none) #[] 0 := ⟨stamped_empty 0, by simp, by simp⟩
end
section
variable {α : Type} {K : Key α} {f : α → Option Value} {es : Array MapEntry} {clock : Nat} {P : Program} {L : List (Nat × Value)} {w w0 : World} {ty : TypeId} {x y z : Operand} {F : HP} {b it n : Nat} {a : α} {S : List α}
theorem V.map (H : V w0 w (jv K b f • F)) : ∃ es clock, Jl K f es clock ∧ V w0 w (gJ b (.map es clock) • F) := by
  obtain ⟨⟨es, clock⟩, H⟩ := H.qY
  obtain ⟨h, H⟩ := H.flat.fact
  exact ⟨es, clock, h, H⟩
theorem V.UH (h : Jl K f es clock) (H : V w0 w (gJ b (.map es clock) • F)) : V w0 w (jv K b f • F) := V.kT (es, clock) (V.deep (V.oQ h H))
theorem V9 {t kt et : TypeId} {zv : Value} (ok : Bool) (h : Jl K f es clock) (hb : w.heap[b]? = some (.map es clock)) (ht : P.underlying t = some (.map kt et)) (hk : P.underlying kt = some K.d) (hz : (zeroValue et).run P w = .ok zv w) :
    (Instr.lookup t (.map (some b)) (K.mk a) ok).run P w = .ok (if ok then .tuple #[(f a).getD zv, .bool (f a).isSome] else (f a).getD zv) w := by
  rcases h.find a with ⟨h1, h2, _⟩ | ⟨j, e, h1, h2, h3, h4⟩
  · simp [Instr.lookup, run_underlying ht, MapKept.run_getObj_map hb, MapKept.run_checkKey hk (K.key a), MapKept.run_findKey hk h1, hz, Result.andThen, h2]
  · simp [Instr.lookup, run_underlying ht, MapKept.run_getObj_map hb, MapKept.run_checkKey hk (K.key a), MapKept.run_findKey hk h1, Result.andThen, h4]
theorem Wh {t kt et : TypeId} {zv : Value} (H : V w0 w (jv K b f • F)) (ht : P.underlying t = some (.map kt et)) (hk : P.underlying kt = some K.d) (hz : ∀ w, (zeroValue et).run P w = .ok zv w)
    (hx : ev L x = some (.map (some b))) (hy : ev L y = some (K.mk a)) : Val P L (.lookup t x y false) ty w ((f a).getD zv) w := fun ρ hρ _ _ _ _ => by
  obtain ⟨es, clock, h, H⟩ := H.map
  simp only [execOp, hρ _ _ hx, hρ _ _ hy, Sem.run_bind]
  rw [V9 false h H.get.2 ht hk (hz w)]
  rfl
theorem Hu {t kt et : TypeId} {zv : Value} (H : V w0 w (jv K b f • F)) (ht : P.underlying t = some (.map kt et)) (hk : P.underlying kt = some K.d) (hz : ∀ w, (zeroValue et).run P w = .ok zv w)
    (hx : ev L x = some (.map (some b))) (hy : ev L y = some (K.mk a)) : Val P L (.lookup t x y true) ty w (.tuple #[(f a).getD zv, .bool (f a).isSome]) w := fun ρ hρ _ _ _ _ => by
  obtain ⟨es, clock, h, H⟩ := H.map
  simp only [execOp, hρ _ _ hx, hρ _ _ hy, Sem.run_bind]
  rw [V9 true h H.get.2 ht hk (hz w)]
  rfl
theorem mY {t : TypeId} (K : Key α) (H : V w0 w F) : zU P L (.makeMap t none) ty w fun v w' => ∃ b, v = .map (some b) ∧ V w0 w' (jv K b (fun _ => none) • F) := by
  refine yT (v := .map (some w.heap.size)) (w' := w.alloc (.map #[] 0)) ?_ ⟨_, rfl, V.UH (V8 K) (H.alloc _)⟩
  intro ρ hρ d pos sU g
  simp only [execOp, Sem.run_bind, Option.map_none]
  rfl
theorem Wi {o : Obj} {b : Nat} (h : w.heap[b]? = some o) (o' : Obj) : ({ w with heap := w.heap.setIfInBounds b o' } : World).heap[b]? = some o' ∧ ∀ k, k ≠ b → ({ w with heap := w.heap.setIfInBounds b o' } : World).heap[k]? = w.heap[k]? := by
  have hlt := lt_of_block h
  exact ⟨by simp [hlt], fun k hk => by simp [Ne.symm hk]⟩
theorem V.setB {o : Obj} (H : V w0 w (gJ b o • F)) (o' : Obj) : V w0 (ChangeMaps.setBlock w b o') (gJ b o' • F) :=
  V.turn (w := w) (w' := ChangeMaps.setBlock w b o') H rfl rfl rfl (by simp [ChangeMaps.setBlock]) (Wi H.get.2 o').1 fun k hk _ => (Wi H.get.2 o').2 k hk
theorem yZ [DecidableEq α] {t kt et : TypeId} {v : Value} (H : V w0 w (jv K b f • F)) (ht : P.underlying t = some (.map kt et)) (hk : P.underlying kt = some K.d)
    (hx : ev L x = some (.map (some b))) (hy : ev L y = some (K.mk a)) (hz : ev L z = some v) : zU P L (.mapUpdate t x y z) ty w fun _ w' => V w0 w' (jv K b (upd f a v) • F) := by
  obtain ⟨es, clock, h, H⟩ := H.map
  have hb := H.get.2
  rcases h.find a with ⟨h1, h2, h3⟩ | ⟨j, e, h1, h2, h3, h4⟩
  · have hrun : (Instr.mapUpdate t (.map (some b)) (K.mk a) v).run P w = .ok () (ChangeMaps.setBlock w b (.map (es.push { key := K.mk a, val := v, born := clock }) (clock + 1))) := by
      simp [ChangeMaps.setBlock, Instr.mapUpdate, run_underlying ht, MapKept.run_getObj_map hb, MapKept.run_checkKey hk (K.key a), MapKept.run_findKey hk h1, MapKept.run_setObj_map _ hb, Result.andThen]
    refine Ou (w' := ChangeMaps.setBlock w b (.map (es.push { key := K.mk a, val := v, born := clock }) (clock + 1))) (fun ρ hρ d pos sU g => ?_) (V.UH (es := es.push { key := K.mk a, val := v, born := clock }) (clock := clock + 1) ⟨stamped_push h.1 h3, ?_, ?_⟩ (H.setB _))
    · simp only [execOp, hρ _ _ hx, hρ _ _ hy, hρ _ _ hz, Sem.run_bind]
      rw [hrun]; rfl
    · intro q hq
      simp only [Array.toList_push, List.mem_append, List.mem_singleton] at hq
      rcases hq with hq | rfl
      · exact h.2.1 q hq
      · exact K.key a
    · intro c u
      simp only [Array.toList_push, List.mem_append, List.mem_singleton, upd]
      by_cases hc : c = a
      · subst hc
        rw [if_pos rfl]
        constructor
        · intro hu; cases hu; exact ⟨_, .inr rfl, rfl, rfl⟩
        · rintro ⟨q, hq | rfl, hqk, hqv⟩
          · exact absurd hqk (h3 q hq)
          · rw [← hqv]
      · rw [if_neg hc, h.2.2 c u]
        constructor
        · rintro ⟨q, hq, hqk, hqv⟩; exact ⟨q, .inl hq, hqk, hqv⟩
        · rintro ⟨q, hq | rfl, hqk, hqv⟩
          · exact ⟨q, hq, hqk, hqv⟩
          · exact absurd (K.inj _ _ hqk).symm hc
  · have hj : es[j]? = some e := by simpa using h2
    have hrun : (Instr.mapUpdate t (.map (some b)) (K.mk a) v).run P w = .ok () (ChangeMaps.setBlock w b (.map (es.modify j fun e => { e with key := K.mk a, val := v }) clock)) := by
      simp [ChangeMaps.setBlock, Instr.mapUpdate, run_underlying ht, MapKept.run_getObj_map hb, MapKept.run_checkKey hk (K.key a), MapKept.run_findKey hk h1, hj, h3, MapKept.run_keyThatStays (K.key a), MapKept.run_setObj_map _ hb, Result.andThen]
    have hkey : ∀ e', es[j]? = some e' → ({ e' with key := K.mk a, val := v } : MapEntry).key = e'.key := fun e' he' => by rw [hj] at he'; cases he'; exact h3.symm
    have hst : Stamped (es.modify j fun e => { e with key := K.mk a, val := v }) clock := stamped_modify h.1 _ _ (fun _ _ => rfl) (fun e' _ he' => hkey e' he')
    have hmem : ∀ q, q ∈ (es.modify j fun e => { e with key := K.mk a, val := v }).toList ↔ (q = { e with key := K.mk a, val := v } ∨ q ∈ es.toList ∧ q.key ≠ K.mk a) := by
      intro q
      have hee : e ∈ es.toList := List.mem_of_getElem? h2
      constructor
      · intro hq
        obtain ⟨i, hi⟩ := List.getElem?_of_mem hq
        rw [Array.getElem?_toList, Array.getElem?_modify] at hi
        by_cases hij : j = i
        · subst hij
          rw [if_pos rfl, hj] at hi
          exact .inl (by simpa using hi.symm)
        · rw [if_neg hij] at hi
          have hqm : q ∈ es.toList := Array.mem_toList_iff.2 (Array.mem_of_getElem? hi)
          refine .inr ⟨hqm, fun hqk => ?_⟩
          have he : q = e := h.same hqm hee (hqk.trans h3.symm)
          subst he
          have hn := h.1.2.1
          have h5 : (es.toList.map (·.born))[i]? = some q.born := by rw [List.getElem?_map, Array.getElem?_toList, hi]; rfl
          have h6 : (es.toList.map (·.born))[j]? = some q.born := by rw [List.getElem?_map, h2]; rfl
          have hlt : i < (es.toList.map (·.born)).length := (List.getElem?_eq_some_iff.1 h5).1
          have hlt2 : j < (es.toList.map (·.born)).length := (List.getElem?_eq_some_iff.1 h6).1
          exact hij ((List.getElem?_inj hlt2 hn).1 (h6.trans h5.symm))
      · rintro (rfl | ⟨hq, hqk⟩)
        · apply List.mem_of_getElem? (i := j)
          rw [Array.getElem?_toList, Array.getElem?_modify, if_pos rfl, hj]; rfl
        · obtain ⟨i, hi⟩ := List.getElem?_of_mem hq
          have hij : j ≠ i := by
            rintro rfl
            rw [h2] at hi; cases hi
            exact hqk h3
          apply List.mem_of_getElem? (i := i)
          rw [Array.getElem?_toList, Array.getElem?_modify, if_neg hij]
          rwa [Array.getElem?_toList] at hi
    refine Ou (w' := ChangeMaps.setBlock w b (.map (es.modify j fun e => { e with key := K.mk a, val := v }) clock)) (fun ρ hρ d pos sU g => ?_) (V.UH (es := es.modify j fun e => { e with key := K.mk a, val := v }) (clock := clock) ⟨hst, isKey_modify h.2.1 _ _ hkey, ?_⟩ (H.setB _))
    · simp only [execOp, hρ _ _ hx, hρ _ _ hy, hρ _ _ hz, Sem.run_bind]
      rw [hrun]; rfl
    · intro c u
      simp only [hmem, upd]
      by_cases hc : c = a
      · subst hc
        rw [if_pos rfl]
        constructor
        · intro hu; cases hu; exact ⟨_, .inl rfl, rfl, rfl⟩
        · rintro ⟨q, rfl | ⟨hq, hqn⟩, hqk, hqv⟩
          · rw [← hqv]
          · exact absurd hqk hqn
      · rw [if_neg hc, h.2.2 c u]
        constructor
        · rintro ⟨q, hq, hqk, hqv⟩
          exact ⟨q, .inr ⟨hq, fun hqa => hc (K.inj _ _ (hqk.symm.trans hqa))⟩, hqk, hqv⟩
        · rintro ⟨q, rfl | ⟨hq, hqn⟩, hqk, hqv⟩
          · exact absurd (K.inj _ _ hqk).symm hc
          · exact ⟨q, hq, hqk, hqv⟩
def ahF (K : Key α) (f : α → Option Value) (es : Array MapEntry) (clock : Nat) (seen : Array Nat) (S : List α) (n : Nat) : Prop :=
  Jl K f es clock ∧ (∃ xs : List MapEntry, (∀ x ∈ xs, x ∈ es.toList) ∧ seen.toList = xs.map (·.born) ∧ xs.map (·.key) = S.map K.mk) ∧ (leftOf es seen).size = n
def Jm (K : Key α) (b it : Nat) (f : α → Option Value) (S : List α) (n : Nat) : HP := zX fun (x : Array MapEntry × Nat × Array Nat) => fact (ahF K f x.1 x.2.1 x.2.2 S n) • gJ it (.mapIter (some b) x.2.1 x.2.2 x.2.1) • gJ b (.map x.1 x.2.1)
theorem V.acS (H : V w0 w (Jm K b it f S n • F)) : ∃ es clock seen, ahF K f es clock seen S n ∧ V w0 w (gJ it (.mapIter (some b) clock seen clock) • gJ b (.map es clock) • F) := by
  obtain ⟨⟨es, clock, seen⟩, H⟩ := H.qY
  obtain ⟨h, H⟩ := H.flat.fact
  exact ⟨es, clock, seen, h, H.flat⟩
theorem V.Pm {seen : Array Nat} (h : ahF K f es clock seen S n) (H : V w0 w (gJ it (.mapIter (some b) clock seen clock) • gJ b (.map es clock) • F)) : V w0 w (Jm K b it f S n • F) :=
  V.kT (es, clock, seen) (V.deep (V.oQ h (H.of_eq (by ac_rfl))))
theorem V.LZ (H : V w0 w (Jm K b it f S n • F)) : V w0 w (jv K b f • F) := by
  obtain ⟨es, clock, seen, h, H⟩ := H.acS
  exact V.UH h.1 H.right
theorem Hw {t kt et : TypeId} (H : V w0 w (jv K b f • F)) (ht : P.underlying t = some (.map kt et)) (hx : ev L x = some (.map (some b))) :
    zU P L (.range t x) ty w fun v w' => ∃ it n, v = .pointer (some ⟨it, 0, none⟩) ∧ V w0 w' (Jm K b it f [] n • F) := by
  obtain ⟨es, clock, h, H⟩ := H.map
  refine yT (v := .pointer (some ⟨w.heap.size, 0, none⟩)) (w' := w.alloc (.mapIter (some b) clock #[] clock)) ?_ ⟨_, _, rfl, V.Pm ⟨h, ⟨[], by simp, rfl, rfl⟩, rfl⟩ (H.alloc _)⟩
  intro ρ hρ d pos sU g
  simp only [execOp, hρ _ _ hx, Sem.run_bind]
  rw [run_range_map w t kt et b es clock ht H.get.2]
  rfl
def nxV (K : Key α) : Option (α × Value) → Value
  | some (a, u) => .tuple #[.bool true, K.mk a, u]
  | none => .tuple #[.bool false]
def akw (f : α → Option Value) (S : List α) (n : Nat) (S' : List α) (n' : Nat) : Option (α × Value) → Prop
  | some (a, u) => f a = some u ∧ a ∉ S ∧ n' < n ∧ S' = S ++ [a]
  | none => S' = S ∧ n' = n ∧ ∀ a u, f a = some u → a ∈ S
theorem afC {es : Array MapEntry} {seen : Array Nat} {e : MapEntry} (he : e ∈ (leftOf es seen).toList) : (leftOf es (seen.push e.born)).size < (leftOf es seen).size := by
  unfold leftOf at *
  rw [Array.toList_filter, List.mem_filter] at he
  have e1 : ∀ q : MapEntry → Bool, (es.filter q).size = (es.toList.filter q).length := fun q => by rw [← Array.toList_filter, Array.length_toList]
  rw [e1, e1]
  refine filter_lt _ _ (fun x hx => ?_) e he.2 ?_ es.toList he.1
  · simp only [Bool.not_eq_true', Array.contains_push, Bool.or_eq_false_iff] at hx ⊢
    exact hx.1
  · simp
theorem JK (H : V w0 w (Jm K b it f S n • F)) (hx : ev L x = some (.pointer (some ⟨it, 0, none⟩))) :
    zU P L (.next x false) ty w fun v w' => ∃ o S' n', v = nxV K o ∧ akw f S n S' n' o ∧ V w0 w' (Jm K b it f S' n' • F) := by
  obtain ⟨es, clock, seen, ⟨hm, ⟨xs, hxs, hse, hS⟩, hn⟩, H⟩ := H.acS
  have hr := H.get.2
  have hb := H.swap.get.2
  rcases run_next_at (P := P) w ty it b clock clock seen es clock hr hb hm.1.1 (Nat.le_refl _) with ⟨h0, hrun⟩ | ⟨e, he, w1, hw1, hrun⟩
  · refine yT (v := nxV K none) (w' := w) (fun ρ hρ d pos sU g => ?_) ⟨none, S, n, rfl, ⟨rfl, rfl, fun a u ha => ?_⟩, V.Pm ⟨hm, ⟨xs, hxs, hse, hS⟩, hn⟩ H⟩
    · simp only [execOp, hρ _ _ hx, Sem.run_bind]
      rw [hrun]; rfl
    · obtain ⟨y, hy, hyk, _⟩ := (hm.2.2 a u).1 ha
      have hys : seen.contains y.born = true := by
        cases hc : seen.contains y.born with
        | true => rfl
        | false =>
          have hyl : y ∈ (leftOf es seen).toList := by unfold leftOf; rw [Array.toList_filter, List.mem_filter]; exact ⟨hy, by rw [hc]; rfl⟩
          have := List.length_pos_of_mem hyl
          rw [Array.length_toList] at this
          omega
      have aji : y.born ∈ seen.toList := by simpa using hys
      rw [hse] at aji
      obtain ⟨q, hq, hqb⟩ := List.mem_map.1 aji
      have hqy : q = y := aac hm.1.2.1 (hxs q hq) hy hqb
      subst hqy
      have : K.mk a ∈ S.map K.mk := by rw [← hS]; exact List.mem_map.2 ⟨q, hq, hyk⟩
      obtain ⟨c, hc, hce⟩ := List.mem_map.1 this
      rw [← K.inj _ _ hce]; exact hc
  · have hel : e ∈ es.toList ∧ seen.contains e.born = false := by
      have := he
      unfold leftOf at this
      rw [Array.toList_filter, List.mem_filter] at this
      exact ⟨this.1, by simpa using this.2⟩
    obtain ⟨a, ha⟩ := K.onto e.key (hm.2.1 e hel.1)
    have hfa : f a = some e.val := (hm.2.2 a e.val).2 ⟨e, hel.1, ha.symm, rfl⟩
    have hns : a ∉ S := fun hs => by
      have : K.mk a ∈ S.map K.mk := List.mem_map.2 ⟨a, hs, rfl⟩
      rw [← hS] at this
      obtain ⟨q, hq, hqk⟩ := List.mem_map.1 this
      have hqe : q = e := hm.same (hxs q hq) hel.1 (hqk.trans ha)
      subst hqe
      have h9 : q.born ∈ seen.toList := by rw [hse]; exact List.mem_map.2 ⟨q, hq, rfl⟩
      have h8 : seen.contains q.born = true := by simpa using h9
      rw [hel.2] at h8; cases h8
    have hval : Val P L (.next x false) ty w (nxV K (some (a, e.val))) (ChangeMaps.setBlock w1 it (.mapIter (some b) clock (seen.push e.born) clock)) := fun ρ hρ d pos sU g => by
      simp only [execOp, hρ _ _ hx, Sem.run_bind]
      rw [hrun]
      simp only [nxV, ha]
      rfl
    have hheap : w1.heap = w.heap := by rcases hw1 with rfl | rfl <;> rfl
    have hr1 : w1.heap[it]? = some (.mapIter (some b) clock seen clock) := by rw [hheap]; exact hr
    refine yT hval ⟨some (a, e.val), S ++ [a], (leftOf es (seen.push e.born)).size, rfl, ⟨hfa, hns, by rw [← hn]; exact afC he, rfl⟩, V.Pm (seen := seen.push e.born) ⟨hm, ⟨xs ++ [e], ?_, ?_, ?_⟩, rfl⟩ (V.setB (w := w1) (o := .mapIter (some b) clock seen clock) ?_ _)⟩
    · intro q hq
      rcases List.mem_append.1 hq with hq | hq
      · exact hxs q hq
      · rw [List.mem_singleton.1 hq]; exact hel.1
    · rw [Array.toList_push, hse, List.map_append]; rfl
    · rw [List.map_append, List.map_append, hS]; simp [ha]
    · rcases hw1 with rfl | rfl
      · exact H
      · exact H.drew
theorem acT {o : Option (α × Value)} (hx : ev L x = some (nxV K o)) : Val P L (.extract x 0) ty w (.bool o.isSome) w := by
  cases o with
  | none => exact oM hx rfl
  | some p => obtain ⟨a, u⟩ := p; exact oM hx rfl
theorem UJ {u : Value} (H : V w0 w (Jm K b it f (S ++ [a]) n • F)) (hf : f a = some u) (hx : ev L x = some (.pointer (some ⟨it, 0, none⟩))) : Val P L (.entry x) ty w (.tuple #[K.mk a, u]) w := by
  obtain ⟨es, clock, seen, ⟨hm, ⟨xs, hxs, hse, hS⟩, hn⟩, H⟩ := H.acS
  intro ρ hρ d pos sU g
  have hne : xs ≠ [] := by
    rintro rfl
    have := congrArg List.length hS
    simp at this
  obtain ⟨ys, e, rfl⟩ : ∃ ys e, xs = ys ++ [e] := ⟨xs.dropLast, xs.getLast hne, (List.dropLast_concat_getLast hne).symm⟩
  have he : e ∈ es.toList := hxs e (by simp)
  have hk : e.key = K.mk a := by
    rw [List.map_append, List.map_append] at hS
    have := List.append_inj_right' hS rfl
    simpa using this
  have hv : e.val = u := by
    have h9 := (hm.2.2 a e.val).2 ⟨e, he, hk, rfl⟩
    rw [hf] at h9; cases h9; rfl
  have hsp : seen = (ys.map (·.born)).toArray.push e.born := by
    apply Array.ext'
    rw [hse]; simp
  have hr := H.get.2
  rw [hsp] at hr
  simp only [execOp, hρ _ _ hx, Sem.run_bind]
  rw [run_entry_at w it b clock _ es clock e hr H.swap.get.2 he hm.1.2.1, hk, hv]
  rfl
end
end Go.Proofs.YtpdeedplgmbopaaGreatDoor
end
section
namespace Go.Proofs.YtpdeedplgmbopaaGreatDoor
open Go.RowKit
open _root_.Go.Proofs.Tryz
def Jo (c : Nat) (G : List (List jL)) (N : List jL) (k : Nat) : HP := zX fun (x : Value × List (Value × List gX)) => fact (x.2.map (fun g => g.2.map gX.says) = UE N ++ G.reverse.take k) • gJ c (.cells #[x.1] 226 (0, 0)) • JI x.1 x.2
theorem rev_succ {G : List (List jL)} {k : Nat} (hk : k < G.length) : G.reverse.take (k + 1) = G.reverse.take k ++ [G.getD (G.length - (k + 1)) []] := by
  rw [List.take_succ_eq_append_getElem (by simpa using hk)]
  congr 1
  rw [List.getElem_reverse, List.getD_eq_getElem?_getD, List.getElem?_eq_getElem (by omega)]
  have e : G.length - 1 - k = G.length - (k + 1) := by omega
  simp only [Option.getD_some, e]
section
variable {w0 w : World} {F : HP} {p c k : Nat} {G : List (List jL)} {N : List jL} {op : Int} {v u : Value} {es fs : List gX} {gs hs : List (Value × List gX)}
theorem V.Wj (H : V w0 w (Jo c G N k • F)) : ∃ u hs, hs.map (fun g => g.2.map gX.says) = UE N ++ G.reverse.take k ∧ hs.length ≤ G.length + 1 ∧ V w0 w (gJ c (.cells #[u] 226 (0, 0)) • Row 80 1 u hs.length (hs.map (·.1)) • tN hs • F) := by
  obtain ⟨⟨u, hs⟩, H⟩ := H.qY
  obtain ⟨h, H⟩ := H.flat.fact
  refine ⟨u, hs, h, ?_, (H.flat.swap.afv).f3⟩
  have := congrArg List.length h
  have := acR N
  simp only [List.length_map, List.length_append, List.length_take, List.length_reverse] at *
  omega
theorem V.Pn (h : hs.map (fun g => g.2.map gX.says) = UE N ++ G.reverse.take k) (H : V w0 w (gJ c (.cells #[u] 226 (0, 0)) • JI u hs • F)) : V w0 w (Jo c G N k • F) :=
  V.kT (u, hs) (V.deep (V.oQ h H.deep))
theorem abe (H : V w0 w F) (hv : v.oneCell' = true) : jf prog 175 #[v] w fun v' w' => ∃ b, v' = .func (.func 196) #[] #[.pointer (some ⟨b, 0, none⟩)] ∧ V w0 w' (gJ b (.cells #[v] 226 (0, 0)) • F) := by
  refine jE func175 ntmps175 ?_
  refine jg (kV (kK (l := [_]) H O (by first | rfl | exact IJ (by first | rfl | assumption))) ?_)
  rintro _ w1 ⟨b1, rfl, H1⟩
  refine fO O (jg (aV (Dw O O) (fP O (dL results175 O ?_))))
  exact ⟨_, O, H1⟩
theorem YL (b : Nat) : Iter prog w0 (.func (.func 196) #[] #[.pointer (some ⟨b, 0, none⟩)]) (gJ b (.cells #[v] 226 (0, 0)) • Row 80 1 v gs.length (gs.map (·.1)) • tN gs) gs.length
  (fun k vs A => ∃ gl BA, gs.getD (gs.length - (k + 1)) default = (gl, BA) ∧ vs = [.int .i64 ((gs.length - (k + 1) : Nat) : Int), gl] ∧ A = Jb gl BA) := by
 intro l J X w hy H
 refine ⟨196, [], [.pointer (some ⟨b, 0, none⟩)], _, _, O, func196, O, O, ?_⟩
 have H1 : V w0 w (gJ b (.cells #[v] 226 (0, 0)) • Row 80 1 v gs.length (gs.map (·.1)) • tN gs • J 0) := H.of_eq (by ac_rfl)
 obtain ⟨a, c, hv, hc1, hc2, _⟩ := (H1.swap.aO).form
 subst hv
 simp only [List.nil_append, List.cons_append]
 refine xqR func196 ntmps196 ?_
 dsimp only [Dv, Nat.reduceAdd]
 refine jg (eH cO O (H1).get.2 O (aV (ku ((H1.f2).aO) cO O) (aV (jJ O O (by omega)) (fO O (bf ?_)))))
 refine iy [(0, _), (1, _)] (fun (k : Nat) => [(3, .int .i64 ((k : Int) - 1))]) (fun (k : Nat) W => k ≤ gs.length ∧ V w0 W (gJ b (.cells #[.slice a gs.length c] 226 (0, 0)) • Row 80 1 (.slice a gs.length c) gs.length (gs.map (·.1)) • tN gs • J (gs.length - k))) (fun (k : Nat) => k) (gs.length) sG lH ⟨by omega, by rw [Nat.sub_self]; exact H1⟩ ?_
 rintro k w1 ⟨hk, HL⟩
 dsimp only [List.cons_append, List.nil_append]
 refine aI (bI O (aV (mJ O O) (iW O (fun h1 => ?_) (fun h1 => ?_))))
 ·(try simp only [Z] at h1)
  refine gy (aI (bf (aI ?_)))
  obtain ⟨m, rfl⟩ : ∃ m, k = m + 1 := ⟨k - 1, by omega⟩
  rw [show (((m + 1 : Nat) : Int) - 1) = (m : Int) from by omega]
  have hkl : m < gs.length := by omega
  refine aF (jU O O (eH cO O (HL).get.2 O (bW O ?_)))
  obtain ⟨bv, ov, cv, ev⟩ := Rd.qN ((HL.f2).aO) (by omega)
  cases ev
  refine aV (dI cO dA O O (by omega)) ?_
  refine aV (dW (bV aZ O) O (by first | exact Rd.lN ((HL.f2).aO) (by omega) | exact Rd.uP ((HL.f2).aO) (by omega) | exact Rd.wO ((HL.f2).aO) (by omega))) ?_
  rw [show (gs.map (·.1)).getD m undef = (gs.getD m default).1 from by simp [List.getD_eq_getElem?_getD, hkl]]
  obtain ⟨gl, BA, hg⟩ : ∃ gl BA, gs.getD m default = (gl, BA) := ⟨_, _, rfl⟩
  rw [hg]
  have Ho2 := HL.f3
  have Hc3 := Ho2.KD hkl hg
  refine kV (Uy O O (hy (gs.length - (m + 1)) (by omega) _ _ ⟨gl, BA, by rw [show gs.length - (gs.length - (m + 1) + 1) = m from by omega]; exact hg, by rw [show gs.length - (gs.length - (m + 1) + 1) = m from by omega], O⟩ (tN gs • Row 80 1 (.slice (some ⟨bv, ov, none⟩) gs.length c) gs.length (gs.map (·.1)) • gJ b (.cells #[.slice (some ⟨bv, ov, none⟩) gs.length c] 226 (0, 0))) _ (Hc3.of_eq (by ac_rfl))).bool) ?_
  rintro _ w4 ⟨t, rfl, ht1, ht2⟩
  refine aV (jR O) (iW O (fun h2 => ?_) (fun h2 => ?_))
  ·(try simp only [Z] at h2)
   have HX := ht2 (by simpa using h2)
   refine iL (aN (aC (aC (aN (we0 results196 ?_)))))
   exact .inr (HX.of_eq (by ac_rfl))
  ·(try simp only [Z] at h2)
   have HN : V w0 w4 (gJ b (.cells #[.slice (some ⟨bv, ov, none⟩) gs.length c] 226 (0, 0)) • Row 80 1 (.slice (some ⟨bv, ov, none⟩) gs.length c) gs.length (gs.map (·.1)) • tN gs • J (gs.length - m)) := by
    have h9 := ht1 (by simpa using h2)
    rw [show gs.length - (m + 1) + 1 = gs.length - m from by omega] at h9
    exact h9.of_eq (by ac_rfl)
   refine bU (aH (aU (aF (bW O (aV (jJ O O (by omega)) (gW O (bT ?_)))))))
   refine dN (m) ?_ ?_ ?_ ?_
   ·exact lH
   ·exact sG
   ·(try dsimp only)
    first | done | exact ⟨by omega, HN.f3.f3.f3⟩
   ·(try dsimp only); omega
 ·(try simp only [Z] at h1)
  refine dR (aP (aP (bH (oU (.inr O) results196 ?_))))
  obtain rfl : k = 0 := by omega
  rw [Nat.sub_zero] at HL
  exact .inl (HL.of_eq (by ac_rfl))
theorem NT (H : V w0 w (kC p G N op • F)) : jf prog 135 #[.pointer (some ⟨p, 0, none⟩)] w fun v w' => ∃ c, v = .func (.func 176) #[] #[.pointer (some ⟨c, 0, none⟩)] ∧ V w0 w' (Jo c G N G.length • kC p G N op • F) := by
 refine jE func135 ntmps135 ?_
 refine kH O (jg (kV (iO (l := [_]) H zeroValue226 O) ?_))
 rintro _ w1 ⟨b1, rfl, H1⟩
 refine rW (bI O (dX O func158 (nJ H1.f2) ?_))
 rintro _ _ ⟨rfl, rfl⟩
 refine aV (jR O) ?_
 obtain ⟨FN, Cc, oh, pJ, oq, y8, yg, Ky, Kz, OZ, uI⟩ := (H1.f2).BM
 have hLn : pJ.length ≤ 16384 := by omega
 have hBn := V5 yg oq.2.2.2.2.2
 refine iR (wcE O (fun h1 => ?_))
 (try simp only [Z] at h1)
 refine kE [(0, _), (3, _)] (fun (_ : Unit) => []) (fun (_ : Unit) W => V w0 W (Jo b1 G N 0 • gJ p (.cells #[FN, Cc, .int .i64 op, .int .i64 (iK G N : Nat), .bool true] 235 (0, 0)) • Row 80 1 FN oh.length (oh.map (·.1)) • tN oh • Row 189 3 Cc pJ.length (pJ.flatMap gX.enc) • nD pJ • F)) sG ?_ ?_
 ·rintro _ w4 HJ
  dsimp only [List.cons_append, List.nil_append]
  refine bI O (dV O (bM 0 dw O fC O (bM 0 dD O iZ O (eH cO O (HJ.f2).get.2 O (dX O func175 (abe HJ (Rd.one ((HJ.f3).aO))) ?_)))))
  rintro _ w5 ⟨bB5, rfl, H5⟩
  refine iR (bf ?_)
  obtain ⟨R6, hR6, HR6⟩ := V.acb (H5.f5.f5.f3.f4)
  refine FQ O (YL bB5) (fun k => Jo b1 G N k • R6) (fact False) (fun _ => fact False) (HR6.f4.f4.f4.f4.f4.f4.f4.g3.comm) (by rfl) ?_ ?_ ?_ ?_
  ·rintro l7 k ahx vs7 A7 ⟨gl, BA, hg, rfl, rfl⟩ G7 w7 H7
   try simp only [dY, tV, BR] at H7
   refine ⟨O, ?_⟩
   dsimp only [YB]
   obtain ⟨u, hs, hhs, hhl, HI⟩ := (H7.f2).Wj
   have hge : BA.map gX.says = G.getD (G.length - (k + 1)) [] := by
    rw [← Ky, ← y8]
    have h9 : (oh.map (fun g => g.2.map gX.says)).getD (oh.length - (k + 1)) [] = (oh.getD (oh.length - (k + 1)) default).2.map gX.says := by simp [List.getD_eq_getElem?_getD, show oh.length - (k + 1) < oh.length by omega]
    rw [h9, hg]
   have hgm : G.getD (G.length - (k + 1)) [] ∈ G := Ad (by omega)
   have hBg := V5 hge (oq.2.2.2.2.1 _ hgm)
   have hLg : BA.length ≤ 16384 := by
    have h8 := oq.2.1
    unfold iK at h8
    have h7 := congrArg List.length hge
    rw [List.length_map] at h7
    have h6 := Ob hgm
    omega
   refine aF (gW O (bT ?_))
   refine YA (HI.g5) ?_
   intro G8 w8 H8
   try simp only [dY] at H8
   refine bf ?_
   have ajj := H8.drew
   have acU := V.kp (ajj.f4.f4.f4.f4)
   refine nG [0] acU O (fM 0 O acU (fun W hW => fQ cO O ((Kp.h hW)).get.2 O) (fD 1 O acU O (ny 2 O (wM O func173 (EI ajj.f4 hBg hLg)) ?_)))
   rintro u9 w9 ⟨fs9, ahG, H9⟩
   obtain ⟨es2, rfl⟩ : ∃ q, q = fs9 := ⟨_, rfl⟩
   have hes2 := ahG
   have Rk := V.kp (H9.f6.f6.f6.f6.f6.f6)
   refine dK Rk (fun W hW => (Kp.h hW).right.right.f4.f4.f4) ?_
   refine ny 3 O (nV (vs := [_]) H9 cO dA qQ O O O (by decide) (bG (by first | rfl | exact Rd.one ((H9).aO)) dn)) ?_
   rintro l10 w10 pG
   have SN := V.kp (pG.f7.f7.f7.f7.f7.f7.f7)
   refine dK SN (fun W hW => (Kp.h hW).right.f6.f6.f6.f6.f6.f6) ?_
   refine ny 4 O (jy pG.f6 cO Na O O O ((pG).aO) (bG (by first | rfl | exact Rd.one ((pG.f2).aO)) dn) (by omega) (by omega)) ?_
   rintro l11 FK ru
   have NQ := ru.f2.right
   have Gn := V.kp (NQ.f6.f6.f6.f6.f6.f6)
   refine gU Gn (by kernel_rfl) ?_
   refine dF 5 O (by kernel_rfl) (ig 0 (l' := [_]) NQ.f5 iZ O O (by first | rfl | exact Rd.one ((NQ).aO)) O O) ?_
   rintro _ OL wB
   have yh := V.kp (wB.f6.f6.f6.f6.f6.f6)
   refine gU yh (by kernel_rfl) ?_
   refine lJ (aH ?_)
   refine O7 ?_
   have X := V.uY (es := es2) (wB.f5.right.f5.f3.f5.f5).deep
   exact (V.Pn (hs := hs ++ [(u9, es2)]) (by rw [List.map_append, hhs, rev_succ (by omega), ← hge, ← hes2, List.append_assoc]; rfl) (V.yV X.swap).swap).deep
  ·rintro D14 OG rU
   have VP := rU.ed
   try simp only [dY, tV, BR] at VP
   have ahy := VP.ZJ
   subst hR6
   refine aH (aU (jg (aV (Dw O O) (fP O ?_))))
   refine N7 (.inl O) (ahy) (fun OM zV => ?_)
   refine ⟨_, ahm results135 O, ?_⟩
   have hgl : Jo b1 G N oh.length = Jo b1 G N G.length := by rw [Ky]
   rw [hgl] at zV
   have UK := zV.f7.f7.f5.f5.f7
   have NU := V.qX oq y8 yg rfl UK
   exact ⟨_, O, NU.f2.right.f2⟩
  ·rintro D w H; exact absurd H.swap.fact.1 id
  ·rintro id D w H; exact absurd H.swap.fact.1 fun h => h
 ·skip
  refine bI O (dV O (bM 0 dw O fC O (bM 1 dD O dA O (eH aZ O (uI).get.2 O (aV (ku ((uI.f4).aO) aZ O) (aV (gK O O) (iW O (fun h2 => ?_) (fun h2 => ?_))))))))
  ·(try simp only [Z] at h2)
   have hN : UE N = [N] := if_neg (by rintro rfl; exact absurd Kz (by simp only [List.length_nil]; omega))
   have agI := uI.drew
   have JL := V.kp (agI.f6.f6.f6.f6.f6.f6)
   refine nG [0, 5] JL O (fM 0 O JL (fun W hW => fQ cO O ((Kp.h hW).f6).get.2 O) (fD 1 O JL O (iG 2 O JL O (dJ 3 O JL 0 dw O fC O (dJ 4 O JL 1 dD O dA O (fM 5 O JL (fun W hW => fQ aZ O ((Kp.h hW)).get.2 O) (ny 6 O (wM O func173 (Hr agI.f5.f5 hBn hLn)) ?_)))))))
   rintro u19 w19 ⟨akx, ajk, EP⟩
   obtain ⟨es1, rfl⟩ : ∃ q, q = akx := ⟨_, rfl⟩
   have hes1 := ajk
   have Nc := V.kp (EP.f8.f8.f8.f8.f8.f8.f8.f8)
   refine dK Nc (fun W hW => (Kp.h hW).right.right.f6.f3.f3.f6.f6.f6) ?_
   refine ny 7 O (nV (vs := [_]) EP cO dA qQ O O O (by decide) (bG (by first | rfl | exact Rd.one ((EP).aO)) dn)) ?_
   rintro l20 ZP BL
   have zI := V.kp (BL.f9.f9.f9.f9.f9.f9.f9.f9.f9)
   refine dK zI (fun W hW => (Kp.h hW).right.f8.f8.f8.f8.f8.f8.f8.f8) ?_
   refine ny 8 O (jy (BL.kF none) cO Na O O O ((BL).aO) (bG (by first | rfl | exact Rd.one ((BL.f2).aO)) dn) (by omega) (by omega)) ?_
   rintro l21 w21 wP
   have UL := wP.f2.right
   have KG := V.kp (UL.f9.f9.f9.f9.f9.f9.f9.f9.f9)
   refine gU KG (by kernel_rfl) ?_
   refine dF 9 O (by kernel_rfl) (ig 0 (l' := [_]) UL.f9 iZ O O (by first | rfl | exact Rd.one ((UL).aO)) O O) ?_
   rintro _ w23 AQ
   have Fa := V.kp (AQ.f9.f9.f9.f9.f9.f9.f9.f9.f9)
   refine gU Fa (by kernel_rfl) ?_
   have X := V.uY (es := es1) (AQ.f6.f6.f9.f9.f9.f6.f7.f9.f9).deep
   have hJn : V w0 w23 (Jo b1 G N 0 • gJ p (.cells #[FN, Cc, .int .i64 op, .int .i64 (iK G N : Nat), .bool true] 235 (0, 0)) • Row 80 1 FN oh.length (oh.map (·.1)) • tN oh • Row 189 3 Cc pJ.length (pJ.flatMap gX.enc) • nD pJ • F) :=
    V.Pn (hs := [(u19, es1)]) (by rw [hN, ← yg, ← hes1]; rfl) (V.yV (gs := []) X.OY.f3.f3.f2).swap
   refine lJ ?_
   refine dG (()) ?_ ?_ ?_
   ·exact (Sub.nil _)
   ·exact sG
   ·(try dsimp only)
    first | done | exact hJn
  ·(try simp only [Z] at h2)
   have hN : UE N = [] := if_pos (by rw [← yg, List.eq_nil_of_length_eq_zero (show pJ.length = 0 by omega)]; rfl)
   have hJn : V w0 w1 (Jo b1 G N 0 • gJ p (.cells #[FN, Cc, .int .i64 op, .int .i64 (iK G N : Nat), .bool true] 235 (0, 0)) • Row 80 1 FN oh.length (oh.map (·.1)) • tN oh • Row 189 3 Cc pJ.length (pJ.flatMap gX.enc) • nD pJ • F) :=
    V.Pn (hs := []) (by rw [hN]; rfl) ((uI.f5.f5.f5.f5.f5.f6).Kw none).swap
   refine bU ?_
   refine dG (()) ?_ ?_ ?_
   ·exact (Sub.nil _)
   ·exact sG
   ·(try dsimp only)
    first | done | exact hJn
theorem Wn (c : Nat) (hB : ∀ g ∈ JJ G N, ∀ e ∈ g, EB e) (hL : ∀ g ∈ JJ G N, g.length ≤ 16384) : Iter prog w0 (.func (.func 176) #[] #[.pointer (some ⟨c, 0, none⟩)]) (Jo c G N G.length) (JJ G N).length
  (fun k vs A => ∃ u, ∃ fs : List gX, fs.map gX.says = (JJ G N).getD k [] ∧ vs = [u] ∧ A = QT u fs) := by
 intro l J X w hy H
 refine ⟨176, [], [.pointer (some ⟨c, 0, none⟩)], _, _, O, func176, O, O, ?_⟩
 obtain ⟨v, hs, hhs, hhl, H1⟩ := H.comm.Wj
 have ajl := hhs
 rw [List.take_of_length_le (by simp), ← afz] at hhs
 have hlen : hs.length = (JJ G N).length := by have := congrArg List.length hhs; simpa using this
 obtain ⟨a, d, hv, hc1, hc2, _⟩ := (H1.swap.aO).form
 subst hv
 simp only [List.nil_append, List.cons_append]
 refine xqR func176 ntmps176 ?_
 dsimp only [Dv, Nat.reduceAdd]
 refine jg (eH cO O (H1).get.2 O (aV (ku ((H1.f2).aO) cO O) (bW O (iR (bf ?_)))))
 refine iy [(0, _), (5, _), (6, _)] (fun (k : Nat) => [(7, .int .i64 (k : Int))]) (fun (k : Nat) W => k ≤ hs.length ∧ V w0 W (gJ c (.cells #[.slice a hs.length d] 226 (0, 0)) • Row 80 1 (.slice a hs.length d) hs.length (hs.map (·.1)) • tN hs • J k)) (fun (k : Nat) => hs.length - k) (0) wW lH ⟨by omega, H1⟩ ?_
 rintro k w1 ⟨hk, HL⟩
 dsimp only [List.cons_append, List.nil_append]
 refine jg (aV (gG O O) (rW (bg O (fun h1 => ?_) (fun h1 => ?_))))
 ·(try simp only [Z] at h1)
  refine gy (aI (bf (jg ?_)))
  obtain ⟨bv, ov, cv, ev⟩ := Rd.qN ((HL.f2).aO) (by omega)
  cases ev
  refine aV (dI cO dA O O (by omega)) ?_
  refine aV (dW (bV aZ O) O (by first | exact Rd.lN ((HL.f2).aO) (by omega) | exact Rd.uP ((HL.f2).aO) (by omega) | exact Rd.wO ((HL.f2).aO) (by omega))) ?_
  have hkl : k < hs.length := by omega
  rw [show (hs.map (·.1)).getD k undef = (hs.getD k default).1 from by simp [List.getD_eq_getElem?_getD, hkl]]
  obtain ⟨gl, BA, hg⟩ : ∃ gl BA, hs.getD k default = (gl, BA) := ⟨_, _, rfl⟩
  rw [hg]
  have Ho2 := HL.f3
  have Hc3 := Ho2.KD hkl hg
  have hge : BA.map gX.says = (JJ G N).getD k [] := by
   rw [← hhs]
   have h9 : (hs.map (fun g => g.2.map gX.says)).getD k [] = (hs.getD k default).2.map gX.says := by simp [List.getD_eq_getElem?_getD, hkl]
   rw [h9, hg]
  have hgm : (JJ G N).getD k [] ∈ JJ G N := Ad (by omega)
  have hBg := V5 hge (hB _ hgm)
  have hLg : BA.length ≤ 16384 := by
   have h7 := congrArg List.length hge
   rw [List.length_map] at h7
   have := hL _ hgm
   omega
  refine fO O (bI O (bW O (dX O func173 (EI Hc3 hBg hLg) ?_)))
  rintro u4 w4 ⟨fs4, aky, H4⟩
  obtain ⟨es2, rfl⟩ : ∃ q, q = fs4 := ⟨_, rfl⟩
  have hes2 := aky
  have Hd5 := H4.f3.right
  refine kV (Uy O O (hy k (by omega) _ _ ⟨_, es2, hes2.trans hge, O, O⟩ (tN hs • Row 80 1 (.slice (some ⟨bv, ov, none⟩) hs.length d) hs.length (hs.map (·.1)) • gJ c (.cells #[.slice (some ⟨bv, ov, none⟩) hs.length d] 226 (0, 0))) _ (Hd5.of_eq (by unfold QT; ac_rfl))).bool) ?_
  rintro _ w6 ⟨t, rfl, ht1, ht2⟩
  refine aV (jR O) (iW O (fun h2 => ?_) (fun h2 => ?_))
  ·(try simp only [Z] at h2)
   have HX := ht2 (by simpa using h2)
   refine iL (aN (aC (aC (aN (we0 results176 ?_)))))
   exact .inr (V.comm (V.Pn (u := .slice (some ⟨bv, ov, none⟩) hs.length d) ajl (HX.of_eq (by unfold JI; ac_rfl))))
  ·(try simp only [Z] at h2)
   have HN : V w0 w6 (gJ c (.cells #[.slice (some ⟨bv, ov, none⟩) hs.length d] 226 (0, 0)) • Row 80 1 (.slice (some ⟨bv, ov, none⟩) hs.length d) hs.length (hs.map (·.1)) • tN hs • J (k + 1)) := by
    have h9 := ht1 (by simpa using h2)
    exact h9.of_eq (by ac_rfl)
   refine bU (aH (aU (aF (aV (fH O O (by omega)) (bW O (bT ?_))))))
   refine dN (k + 1) ?_ ?_ ?_ ?_
   ·exact lH
   ·exact wW
   ·(try dsimp only)
    first | done | exact ⟨by omega, HN.f3.f3.f3⟩
   ·(try dsimp only); omega
 ·(try simp only [Z] at h1)
  refine dR (aP (aP (bH (oU (.inr O) results176 ?_))))
  obtain rfl : k = hs.length := by omega
  rw [← hlen]
  exact .inl (V.comm (V.Pn (u := .slice a hs.length d) ajl (HL.of_eq (by unfold JI; ac_rfl))))
end
end Go.Proofs.YtpdeedplgmbopaaGreatDoor
end
section
namespace Go.Proofs.YtpdeedplgmbopaaGreatDoor
open Go.RowKit
def Nh (P : Int → Nat) (U : Int → List (List jL)) : List Int → HP
  | [] => emp
  | k :: D => kC (P k) (U k) [] 0 • Nh P U D
def Wp (D : List Int) (P : Int → Nat) : Int → Option Value := fun k => if k ∈ D then some (.pointer (some ⟨P k, 0, none⟩)) else none
theorem y5 {P : Int → Nat} {U : Int → List (List jL)} {k : Int} : ∀ {D : List Int}, k ∈ D → Nh P U D = (kC (P k) (U k) [] 0 • Nh P U (D.erase k))
  | x :: D, h => by
    by_cases e : x = k
    · subst e; rw [List.erase_cons_head]; rfl
    · rw [List.erase_cons_tail (by simpa using e)]
      have hk : k ∈ D := (List.mem_cons.1 h).resolve_left (Ne.symm e)
      show (kC (P x) (U x) [] 0 • Nh P U D) = _
      rw [y5 hk]
      show (kC (P x) (U x) [] 0 • kC (P k) (U k) [] 0 • Nh P U (D.erase k)) = (kC (P k) (U k) [] 0 • (kC (P x) (U x) [] 0 • Nh P U (D.erase k)))
      ac_rfl
theorem IL {P P' : Int → Nat} {U U' : Int → List (List jL)} : ∀ {D : List Int}, (∀ k ∈ D, P k = P' k ∧ U k = U' k) → Nh P U D = Nh P' U' D
  | [], _ => rfl
  | x :: D, h => by
    show (kC (P x) (U x) [] 0 • Nh P U D) = (kC (P' x) (U' x) [] 0 • Nh P' U' D)
    rw [(h x (by simp)).1, (h x (by simp)).2, IL fun k hk => h k (List.mem_cons_of_mem _ hk)]
def Ci (b : Nat) (U : Int → List (List jL)) : HP := zX fun (x : List Int × (Int → Nat)) => fact (x.1.Nodup ∧ ∀ k, k ∉ x.1 → U k = []) • jv yx b (Wp x.1 x.2) • Nh x.2 U x.1
def SV (b : Nat) (U : Int → List (List jL)) (k : Int) (p : Nat) : HP := zX fun (x : List Int × (Int → Nat)) => fact (x.1.Nodup ∧ (∀ k, k ∉ x.1 → U k = []) ∧ k ∈ x.1 ∧ x.2 k = p) • jv yx b (Wp x.1 x.2) • Nh x.2 U (x.1.erase k)
section
variable {w0 w : World} {F : HP} {b p : Nat} {k : Int} {U : Int → List (List jL)} {G : List (List jL)}
theorem V.afD (H : V w0 w (Ci b U • F)) : ∃ D P, (D : List Int).Nodup ∧ (∀ k, k ∉ D → U k = []) ∧ V w0 w (jv yx b (Wp D P) • Nh P U D • F) := by
  obtain ⟨⟨D, P⟩, H⟩ := H.qY
  obtain ⟨⟨h1, h2⟩, H⟩ := H.flat.fact
  exact ⟨D, P, h1, h2, H.flat⟩
theorem V.IQ {D : List Int} {P : Int → Nat} (h1 : D.Nodup) (h2 : ∀ k, k ∉ D → U k = []) (H : V w0 w (jv yx b (Wp D P) • Nh P U D • F)) : V w0 w (Ci b U • F) :=
  V.kT (D, P) (V.deep (V.oQ ⟨h1, h2⟩ H.deep))
theorem V.agJ {D : List Int} {P : Int → Nat} (h1 : D.Nodup) (h2 : ∀ k, k ∉ D → U k = []) (hk : k ∈ D) (H : V w0 w (jv yx b (Wp D P) • Nh P U D • F)) : V w0 w (kC (P k) (U k) [] 0 • SV b U k (P k) • F) := by
  have H1 : V w0 w ((jv yx b (Wp D P) • Nh P U (D.erase k)) • kC (P k) (U k) [] 0 • F) := H.of_eq (by rw [y5 hk]; ac_rfl)
  have H2 : V w0 w (SV b U k (P k) • kC (P k) (U k) [] 0 • F) := V.kT (D, P) (V.deep (V.oQ ⟨h1, h2, hk, rfl⟩ H1))
  exact H2.swap
theorem V.Ag (H : V w0 w (SV b U k p • kC p G [] 0 • F)) : V w0 w (Ci b (zD U k G) • F) := by
  obtain ⟨⟨D, P⟩, H⟩ := H.qY
  obtain ⟨⟨h1, h2, hk, hp⟩, H⟩ := H.flat.fact
  dsimp only at h1 h2 hk hp H
  subst hp
  refine V.IQ (D := D) (P := P) h1 (fun x hx => ?_) ?_
  · rw [zF _ _ (by rintro rfl; exact hx hk)]; exact h2 x hx
  · rw [y5 (U := zD U k G) hk, jo, IL (P' := P) (U' := U) fun x hx => ⟨rfl, zF _ _ (by rintro rfl; exact (List.Nodup.not_mem_erase h1) hx)⟩]
    exact H.of_eq (by ac_rfl)
end
def zJ (t : Int → Option ByteArray) : Int → Option Value := fun k => (t k).map .string
def YM (pb pr pw pt pm : Nat) (c : rC) : HP := jF pb c.L c.pt c.mark • gY pr c.E c.at_ • gJ pw (.cells #[.int .i64 c.place, .map (some pt)] 122 (0, 0)) • jv yx pt (zJ c.tx) • Ci pm c.un
def Wq (pb pr pw pm : Nat) (c : rC) : List Value := [.pointer (some ⟨pb, 0, none⟩), .pointer (some ⟨pr, 0, none⟩), .pointer (some ⟨pw, 0, none⟩), .map (some pm), .int .i64 c.mode, .bool c.over, .int .i64 c.last, .int .i64 c.fr, .int .i64 c.to, .int .i64 c.res, .bool c.run]
def AY (inn : Bool) (c : rC) (u : List Value) : HP := if inn = true then zX fun (x : Nat × Nat × Nat × Nat × Nat) => fact (u = Wq x.1 x.2.1 x.2.2.1 x.2.2.2.2 c) • YM x.1 x.2.1 x.2.2.1 x.2.2.2.1 x.2.2.2.2 c else (fact ((u.all fun x => x.oneCell') = true))
def YN (hl : List wY) (c : rC) : Prop := 0 ≤ c.place ∧ c.place ≤ hl.length ∧ (∀ k t, c.tx k = some t → t.size ≤ 16384)
def Cj (e : jL) : Prop := 0 ≤ e.1 ∧ 0 < e.2.1.length + e.2.2.length ∧ e.2.1.length ≤ 1024 ∧ e.2.2.length ≤ 1024
def qE (s : bQ) : Prop := YN s.hl s.c ∧ (s.inn = true → YN s.hl s.was ∧ iK (s.was.un s.was.place) [] ≤ 16384 ∧ ∀ k, ∀ g ∈ s.was.un k, ∀ e ∈ g, Cj e) ∧ (-1 ≤ s.arg ∧ s.arg ≤ 1000000) ∧ (∀ e ∈ s.put, Cj e) ∧ iK s.here s.put ≤ 16384 ∧ (∀ k, ∀ g ∈ s.c.un k, ∀ e ∈ g, Cj e)
structure EdP where
  pb : Nat
  pr : Nat
  pw : Nat
  pt : Nat
  pm : Nat
  ph : Nat
  bl : Nat
  pv : Value
  es : List gX
  u0 : Value
  u1 : Value
  u2 : Value
  u3 : Value
  u4 : Value
  u5 : Value
  u6 : Value
  u7 : Value
  u8 : Value
  u9 : Value
  ua : Value
def EdG (e : Nat) (s : bQ) (M : Nat → HP) : HP := zX fun (x : EdP) => fact (qE s ∧ x.es.map gX.says = s.put) •
  gJ e (.cells (.pointer (some ⟨x.pb, 0, none⟩) :: .pointer (some ⟨x.pr, 0, none⟩) :: .pointer (some ⟨x.pw, 0, none⟩) :: .map (some x.pm) :: .int .i64 s.c.mode :: .bool s.c.over :: .int .i64 s.c.last :: .int .i64 s.c.fr :: .int .i64 s.c.to :: .int .i64 s.c.res :: .bool s.c.run :: .pointer (some ⟨x.ph, 0, none⟩) :: .pointer (some ⟨x.bl, 0, none⟩) :: .bool s.given :: .bool s.minus :: .int .i64 s.arg :: .bool s.inn :: x.u0 :: x.u1 :: x.u2 :: x.u3 :: x.u4 :: x.u5 :: x.u6 :: x.u7 :: x.u8 :: x.u9 :: x.ua :: .int .i64 s.cls :: .bool s.killed :: .bool s.mM :: .bool s.argues :: .bool s.whole :: x.pv :: []).toArray 82 (0, 0)) •
  jF x.pb s.c.L s.c.pt s.c.mark • gY x.pr s.c.E s.c.at_ • gJ x.pw (.cells #[.int .i64 s.c.place, .map (some x.pt)] 122 (0, 0)) • jv yx x.pt (zJ s.c.tx) • M x.pm •
  jZ x.ph s.hl s.base s.most • gJ x.bl (.cells #[.int .i64 s.lI] 161 (0, 0)) • Row 189 3 x.pv s.put.length (x.es.flatMap gX.enc) • nD x.es • AY s.inn s.was [x.u0, x.u1, x.u2, x.u3, x.u4, x.u5, x.u6, x.u7, x.u8, x.u9, x.ua]
def dZ (e : Nat) (s : bQ) : HP := EdG e s fun pm => Ci pm s.c.un
def akz (e : Nat) (s : bQ) (p : Nat) : HP := EdG e s fun pm => SV pm s.c.un s.c.place p
section
variable {w0 w : World} {F : HP} {e : Nat} {s : bQ} {M : Nat → HP}
theorem V.edG (H : V w0 w (EdG e s M • F)) : ∃ pb pr pw pt pm ph bl pv es u0 u1 u2 u3 u4 u5 u6 u7 u8 u9 ua, qE s ∧ es.map gX.says = s.put ∧ es.length = s.put.length ∧ V w0 w (
  gJ e (.cells (.pointer (some ⟨pb, 0, none⟩) :: .pointer (some ⟨pr, 0, none⟩) :: .pointer (some ⟨pw, 0, none⟩) :: .map (some pm) :: .int .i64 s.c.mode :: .bool s.c.over :: .int .i64 s.c.last :: .int .i64 s.c.fr :: .int .i64 s.c.to :: .int .i64 s.c.res :: .bool s.c.run :: .pointer (some ⟨ph, 0, none⟩) :: .pointer (some ⟨bl, 0, none⟩) :: .bool s.given :: .bool s.minus :: .int .i64 s.arg :: .bool s.inn :: u0 :: u1 :: u2 :: u3 :: u4 :: u5 :: u6 :: u7 :: u8 :: u9 :: ua :: .int .i64 s.cls :: .bool s.killed :: .bool s.mM :: .bool s.argues :: .bool s.whole :: pv :: []).toArray 82 (0, 0)) •
  jF pb s.c.L s.c.pt s.c.mark • gY pr s.c.E s.c.at_ • gJ pw (.cells #[.int .i64 s.c.place, .map (some pt)] 122 (0, 0)) • jv yx pt (zJ s.c.tx) • M pm •
  jZ ph s.hl s.base s.most • gJ bl (.cells #[.int .i64 s.lI] 161 (0, 0)) • Row 189 3 pv s.put.length (es.flatMap gX.enc) • nD es • AY s.inn s.was [u0, u1, u2, u3, u4, u5, u6, u7, u8, u9, ua] • F) := by
  obtain ⟨⟨pb, pr, pw, pt, pm, ph, bl, pv, es, u0, u1, u2, u3, u4, u5, u6, u7, u8, u9, ua⟩, H⟩ := H.qY
  obtain ⟨⟨h1, h2⟩, H⟩ := H.flat.fact
  refine ⟨pb, pr, pw, pt, pm, ph, bl, pv, es, u0, u1, u2, u3, u4, u5, u6, u7, u8, u9, ua, h1, h2, ?_, ?_⟩
  · rw [← h2]; simp
  · dsimp only at H
    exact H.of_eq (by simp only [dY])
theorem V.ahH {pb pr pw pt pm ph bl : Nat} {pv : Value} {es : List gX} {u0 u1 u2 u3 u4 u5 u6 u7 u8 u9 ua : Value} (h1 : qE s) (h2 : es.map gX.says = s.put) (H : V w0 w (
  gJ e (.cells (.pointer (some ⟨pb, 0, none⟩) :: .pointer (some ⟨pr, 0, none⟩) :: .pointer (some ⟨pw, 0, none⟩) :: .map (some pm) :: .int .i64 s.c.mode :: .bool s.c.over :: .int .i64 s.c.last :: .int .i64 s.c.fr :: .int .i64 s.c.to :: .int .i64 s.c.res :: .bool s.c.run :: .pointer (some ⟨ph, 0, none⟩) :: .pointer (some ⟨bl, 0, none⟩) :: .bool s.given :: .bool s.minus :: .int .i64 s.arg :: .bool s.inn :: u0 :: u1 :: u2 :: u3 :: u4 :: u5 :: u6 :: u7 :: u8 :: u9 :: ua :: .int .i64 s.cls :: .bool s.killed :: .bool s.mM :: .bool s.argues :: .bool s.whole :: pv :: []).toArray 82 (0, 0)) •
  jF pb s.c.L s.c.pt s.c.mark • gY pr s.c.E s.c.at_ • gJ pw (.cells #[.int .i64 s.c.place, .map (some pt)] 122 (0, 0)) • jv yx pt (zJ s.c.tx) • M pm •
  jZ ph s.hl s.base s.most • gJ bl (.cells #[.int .i64 s.lI] 161 (0, 0)) • Row 189 3 pv s.put.length (es.flatMap gX.enc) • nD es • AY s.inn s.was [u0, u1, u2, u3, u4, u5, u6, u7, u8, u9, ua] • F)) : V w0 w (EdG e s M • F) :=
  V.kT ⟨pb, pr, pw, pt, pm, ph, bl, pv, es, u0, u1, u2, u3, u4, u5, u6, u7, u8, u9, ua⟩ (V.deep (V.oQ ⟨h1, h2⟩ (H.of_eq (by simp only [dY]))))
theorem V.ji {pb pr pw pt pm ph bl : Nat} {pv : Value} {es : List gX} {u0 u1 u2 u3 u4 u5 u6 u7 u8 u9 ua : Value} (h1 : qE s) (h2 : es.map gX.says = s.put) (H : V w0 w (
  gJ e (.cells (.pointer (some ⟨pb, 0, none⟩) :: .pointer (some ⟨pr, 0, none⟩) :: .pointer (some ⟨pw, 0, none⟩) :: .map (some pm) :: .int .i64 s.c.mode :: .bool s.c.over :: .int .i64 s.c.last :: .int .i64 s.c.fr :: .int .i64 s.c.to :: .int .i64 s.c.res :: .bool s.c.run :: .pointer (some ⟨ph, 0, none⟩) :: .pointer (some ⟨bl, 0, none⟩) :: .bool s.given :: .bool s.minus :: .int .i64 s.arg :: .bool s.inn :: u0 :: u1 :: u2 :: u3 :: u4 :: u5 :: u6 :: u7 :: u8 :: u9 :: ua :: .int .i64 s.cls :: .bool s.killed :: .bool s.mM :: .bool s.argues :: .bool s.whole :: pv :: []).toArray 82 (0, 0)) •
  jF pb s.c.L s.c.pt s.c.mark • gY pr s.c.E s.c.at_ • gJ pw (.cells #[.int .i64 s.c.place, .map (some pt)] 122 (0, 0)) • jv yx pt (zJ s.c.tx) • Ci pm s.c.un •
  jZ ph s.hl s.base s.most • gJ bl (.cells #[.int .i64 s.lI] 161 (0, 0)) • Row 189 3 pv s.put.length (es.flatMap gX.enc) • nD es • AY s.inn s.was [u0, u1, u2, u3, u4, u5, u6, u7, u8, u9, ua] • F)) : V w0 w (dZ e s • F) := V.ahH (M := fun pm => Ci pm s.c.un) h1 h2 H
theorem V.Jp (H : V w0 w (dZ e s • F)) : ∃ pb pr pw pt pm ph bl pv es u0 u1 u2 u3 u4 u5 u6 u7 u8 u9 ua, qE s ∧ es.map gX.says = s.put ∧ es.length = s.put.length ∧ V w0 w (
  gJ e (.cells (.pointer (some ⟨pb, 0, none⟩) :: .pointer (some ⟨pr, 0, none⟩) :: .pointer (some ⟨pw, 0, none⟩) :: .map (some pm) :: .int .i64 s.c.mode :: .bool s.c.over :: .int .i64 s.c.last :: .int .i64 s.c.fr :: .int .i64 s.c.to :: .int .i64 s.c.res :: .bool s.c.run :: .pointer (some ⟨ph, 0, none⟩) :: .pointer (some ⟨bl, 0, none⟩) :: .bool s.given :: .bool s.minus :: .int .i64 s.arg :: .bool s.inn :: u0 :: u1 :: u2 :: u3 :: u4 :: u5 :: u6 :: u7 :: u8 :: u9 :: ua :: .int .i64 s.cls :: .bool s.killed :: .bool s.mM :: .bool s.argues :: .bool s.whole :: pv :: []).toArray 82 (0, 0)) •
  jF pb s.c.L s.c.pt s.c.mark • gY pr s.c.E s.c.at_ • gJ pw (.cells #[.int .i64 s.c.place, .map (some pt)] 122 (0, 0)) • jv yx pt (zJ s.c.tx) • Ci pm s.c.un •
  jZ ph s.hl s.base s.most • gJ bl (.cells #[.int .i64 s.lI] 161 (0, 0)) • Row 189 3 pv s.put.length (es.flatMap gX.enc) • nD es • AY s.inn s.was [u0, u1, u2, u3, u4, u5, u6, u7, u8, u9, ua] • F) := H.edG
end
end Go.Proofs.YtpdeedplgmbopaaGreatDoor
end
section
namespace Go.Proofs.YtpdeedplgmbopaaGreatDoor
open Go.RowKit
open _root_.Go.Proofs.Tryz
def UM {β : Type} (f : Int → Option β) (S : List Int) : Int → Option β := fun k => if k ∈ S then f k else none
theorem Ws {β : Type} (f : Int → Option β) : UM f [] = fun _ => none := by funext k; simp [UM]
theorem SX {β : Type} {f : Int → Option β} {S : List Int} {a : Int} {u : β} (h : f a = some u) : UM f (S ++ [a]) = upd (UM f S) a u := by
  funext k
  unfold UM upd
  by_cases hk : k = a
  · subst hk; simp [h]
  · simp [hk]
theorem Wu {β : Type} {f : Int → Option β} {S : List Int} (h : ∀ a u, f a = some u → a ∈ S) : UM f S = f := by
  funext k
  unfold UM
  split
  · rfl
  · rename_i hk
    cases hf : f k with
    | none => rfl
    | some u => exact absurd (h k u hf) hk
theorem aad (P : Int → Nat) : Wp [] P = fun _ => none := by funext k; simp [Wp]
theorem acV {D : List Int} {P : Int → Nat} {a : Int} {u : Value} (h : Wp D P a = some u) : a ∈ D ∧ u = .pointer (some ⟨P a, 0, none⟩) := by
  unfold Wp at h
  split at h
  · rename_i hm; exact ⟨hm, by cases h; rfl⟩
  · cases h
theorem Wv {S : List Int} {P : Int → Nat} {a : Int} {q : Nat} (h : a ∉ S) : Wp (S ++ [a]) (zD P a q) = upd (Wp S P) a (.pointer (some ⟨q, 0, none⟩)) := by
  funext k
  unfold Wp upd zD
  by_cases hk : k = a
  · subst hk; simp
  · simp [hk]
theorem Po {P : Int → Nat} {U : Int → List (List jL)} {a : Int} : ∀ {S : List Int}, Nh P U (S ++ [a]) = (Nh P U S • kC (P a) (U a) [] 0)
  | [] => by show (kC (P a) (U a) [] 0 • emp) = (emp • kC (P a) (U a) [] 0); rw [BR, tV]
  | x :: S => by
    show (kC (P x) (U x) [] 0 • Nh P U (S ++ [a])) = ((kC (P x) (U x) [] 0 • Nh P U S) • kC (P a) (U a) [] 0)
    rw [Po, dY]
theorem L6 {α : Type} {o : Option α} (h : ¬ o.isSome = true) : o = none := by cases o <;> simp_all
theorem Pq {S : List Int} {a : Int} (h : S.Nodup) (ha : a ∉ S) : (S ++ [a]).Nodup := by
  rw [List.nodup_append]
  exact ⟨h, by simp, by intro x hx y hy; rw [List.mem_singleton.1 hy]; rintro rfl; exact ha hx⟩
section
variable {w0 w : World} {F : HP} {pb pr pw pt pm : Nat} {c : rC}
theorem Wx (H : V w0 w (jF pb c.L c.pt c.mark • gY pr c.E c.at_ • gJ pw (.cells #[.int .i64 c.place, .map (some pt)] 122 (0, 0)) • jv yx pt (zJ c.tx) • Ci pm c.un • F)) :
  jf prog 80 #[.agg #[.pointer (some ⟨pb, 0, none⟩), .pointer (some ⟨pr, 0, none⟩), .pointer (some ⟨pw, 0, none⟩), .map (some pm), .int .i64 c.mode, .bool c.over, .int .i64 c.last, .int .i64 c.fr, .int .i64 c.to, .int .i64 c.res, .bool c.run]] w fun v w' =>
   ∃ qb qr qw qt qm, v = .agg #[.pointer (some ⟨qb, 0, none⟩), .pointer (some ⟨qr, 0, none⟩), .pointer (some ⟨qw, 0, none⟩), .map (some qm), .int .i64 c.mode, .bool c.over, .int .i64 c.last, .int .i64 c.fr, .int .i64 c.to, .int .i64 c.res, .bool c.run] ∧
    V w0 w' (jF qb c.L c.pt c.mark • gY qr c.E c.at_ • gJ qw (.cells #[.int .i64 c.place, .map (some qt)] 122 (0, 0)) • jv yx qt (zJ c.tx) • Ci qm c.un •
     jF pb c.L c.pt c.mark • gY pr c.E c.at_ • gJ pw (.cells #[.int .i64 c.place, .map (some pt)] 122 (0, 0)) • jv yx pt (zJ c.tx) • Ci pm c.un • F) := by
 refine jE func80 ntmps80 ?_
 refine jg (kV (kK (l := [_, _, _, _, _, _, _, _, _, _, _]) H O O) ?_)
 rintro _ w1 ⟨b1, rfl, H1⟩
 refine kV (iO (l := [_, _, _, _, _, _, _, _, _, _, _]) H1 qR O) ?_
 rintro _ w2 ⟨b2, rfl, H2⟩
 refine rW ?_
 have acC := H2.drew
 have EZ := V.kp (acC.f7.f7.f7.f7.f7.f7.f7)
 refine nG [1, 4] EZ O (dJ 0 O EZ 0 aS O nX O (fM 1 O EZ (fun W hW => fQ jX O ((Kp.h hW).f2).get.2 O) (dJ 3 O EZ 1 aS O sizeOf73 O (fM 4 O EZ (fun W hW => fQ wC O ((Kp.h hW).f2).get.2 O) (ny 2 O (wM O func129 (QY acC.f3)) ?_)))))
 rintro _ w3 ⟨q3, rfl, H3⟩
 have uQ := V.kp (H3.f8.f8.f8.f8.f8.f8.f8.f8)
 refine dK uQ (fun W hW => (Kp.h hW).right.f7.f7.f7.f7.f5.f7.f7) ?_
 refine dJ 6 O uQ 0 aS O nX O (ny 5 O (wM O func85 (Hg H3.f5)) ?_)
 rintro _ w4 ⟨pc4, rfl, H4⟩
 have oH := V.kp (H4.f9.f9.f9.f9.f9.f9.f9.f9.f9)
 refine gU oH (by kernel_rfl) ?_
 refine dF 7 O (by kernel_rfl) (ig 0 (l' := [_, _, _, _, _, _, _, _, _, _, _]) H4.f6 nX O O (by first | rfl | assumption) O O) ?_
 rintro _ w5 H5
 have D8 := V.kp (H5.f9.f9.f9.f9.f9.f9.f9.f9.f9)
 refine gU D8 (by kernel_rfl) ?_
 refine dJ 8 O D8 1 aS O sizeOf73 O ?_
 refine dF 9 O (by kernel_rfl) (ig 1 (l' := [_, _, _, _, _, _, _, _, _, _, _]) H5 sizeOf73 O O (by first | rfl | assumption) O O) ?_
 rintro _ w6 H6
 have jV := V.kp (H6.f9.f9.f9.f9.f9.f9.f9.f9.f9)
 refine gU jV (by kernel_rfl) ?_
 refine lJ (aU (jg (bM 2 aS O sizeOf74 O (eH oV O (H6).get.2 O (dV O (bM 0 jk O aj O (eH aA O (H6.f7).get.2 O (kV (mY (DN .i64) H6) ?_))))))))
 rintro _ w7 ⟨b7, rfl, H7⟩
 refine aV (qx (pl := #[(0, 1), (1, 1)]) (#[_, _]) jk sW (fun w => by kernel_rfl) O (O)) (kV (kK (l := [_, _]) H7 O O) ?_)
 rintro _ w8 ⟨b8, rfl, H8⟩
 refine tX O (jg (bM 2 aS O sizeOf74 O (eH oV O (H8.f3).get.2 O (dV O (bM 1 jk O sizeOf120 O (eH underlying120 O (H8.f9).get.2 O (kV (Hw H8.f10 underlying120 O) ?_)))))))
 rintro _ w9 ⟨it9, mi, rfl, H9⟩
 refine iR (bf ?_)
 obtain ⟨R10, ahI, ahJ⟩ := V.Oq (H9.f2.f3.f3)
 have HX0 := ahJ
 rw [← Ws (zJ c.tx)] at HX0
 refine iy [(1, _), (2, _), (3, _), (30, _)] (fun (⟨S, n⟩ : List Int × Nat) => []) (fun (⟨S, n⟩ : List Int × Nat) W => V w0 W (Jm yx pt it9 (zJ c.tx) S n • jv yx b7 (UM (zJ c.tx) S) • gJ b8 (.cells #[.int .i64 c.place, .map (some b7)] 122 (0, 0)) • R10)) (fun (⟨S, n⟩ : List Int × Nat) => n) (([], _)) FC (Sub.nil _) HX0 ?_
 rintro ⟨S, n⟩ FK HL
 dsimp only [List.cons_append, List.nil_append]
 refine jg (kV (JK HL O) ?_)
 rintro _ w12 ⟨ox, Sx, mx, rfl, hNx, wQ⟩
 refine aV (acT O) (rW (bg O (fun h1 => ?_) (fun h1 => ?_)))
 ·(try simp only [Z] at h1)
  obtain ⟨⟨a, u⟩, rfl⟩ := Option.isSome_iff_exists.1 h1
  obtain ⟨ha, hns, hlt, rfl⟩ := hNx
  refine gy (bf (jg ?_))
  refine aV (UJ (wQ) (by assumption) O) ?_
  refine oZ O O (oZ O O (gW O (fO O (aF (mX O O (bM 1 jk O sizeOf120 O (eH underlying120 O (wQ.f3).get.2 O (jU O O (aQ (yZ wQ.f2 underlying120 aA O O O) ?_)))))))))
  rintro _ OL wB
  refine bT (aH ?_)
  have hres := SX (S := S) ha
  refine dN ((S ++ [a], mx)) ?_ ?_ ?_ ?_
  ·exact (Sub.nil _)
  ·exact FC
  ·(try dsimp only)
   first | done | exact (by rw [hres]; exact wB.f3.f2.f3)
  ·(try dsimp only); omega
 ·(try simp only [Z] at h1)
  obtain rfl := L6 (o := ox) (by simp [h1])
  obtain ⟨rfl, rfl, hall⟩ := hNx
  refine dR (aP ?_)
  have HX := wQ.f3.f2.f3
  rw [Wu hall] at HX
  have ahK := HX.f2
  have ahL := ahK.LZ
  subst ahI
  refine aP (bH (aU (bI O (bM 2 aS O sizeOf74 O (aQ (ig 2 (l' := [_, _, _, _, _, _, _, _, _, _, _]) ahL.f4 sizeOf74 O O (by first | rfl | assumption) O O) ?_)))))
  rintro _ w16 uT
  refine zk7 (kV (mY (DN .i64) uT) ?_)
  rintro _ Yp ⟨b17, rfl, BX⟩
  refine tX O (aI ?_)
  obtain ⟨D, P, hD1, hD2, HU⟩ := (BX.f12).afD
  refine aF (bM 3 aS O sizeOf75 O (eH oW O (HU.f4).get.2 O (kV (Hw HU oW O) ?_)))
  rintro _ ZO ⟨akA, mi, rfl, EW⟩
  refine iR (bf ?_)
  obtain ⟨R19, akB, akC⟩ := V.Oq (EW.f3.f3.f3)
  have HX0 := akC
  rw [← aad P] at HX0
  refine iy [(1, _), (2, _), (6, _), (47, _)] (fun (⟨S, n, P2⟩ : List Int × Nat × (Int → Nat)) => []) (fun (⟨S, n, P2⟩ : List Int × Nat × (Int → Nat)) W => S.Nodup ∧ V w0 W (Jm yx pm akA (Wp D P) S n • Nh P c.un D • jv yx b17 (Wp S P2) • Nh P2 c.un S • R19)) (fun (⟨S, n, P2⟩ : List Int × Nat × (Int → Nat)) => n) (([], _, P)) FC (Sub.nil _) ⟨List.nodup_nil, (HX0).of_eq (by show _ = (_ • _ • _ • emp • _); rw [tV])⟩ ?_
  rintro ⟨S, n, P2⟩ ZP ⟨hS, HL⟩
  dsimp only [List.cons_append, List.nil_append]
  refine jg (kV (JK HL O) ?_)
  rintro _ w21 ⟨ox, Sx, mx, rfl, hNx, wP⟩
  refine aV (acT O) (rW (bg O (fun h2 => ?_) (fun h2 => ?_)))
  ·(try simp only [Z] at h2)
   obtain ⟨⟨a, u⟩, rfl⟩ := Option.isSome_iff_exists.1 h2
   obtain ⟨ha, hns, hlt, rfl⟩ := hNx
   obtain ⟨hmem, rfl⟩ := acV ha
   have HF := wP.f2
   rw [y5 hmem] at HF
   have HF2 := HF.flat
   refine gy (bf (jg ?_))
   refine aV (UJ (HF2.f3) (by assumption) O) ?_
   refine oZ O O (oZ O O (gW O (fO O (aF (jU O O (bW O (dX O func130 (Pe HF2) ?_)))))))
   rintro _ w22 ⟨q22, rfl, Jh⟩
   refine aQ (yZ Jh.f5 oW aA O O O) ?_
   rintro _ w23 AQ
   refine bT (aH ?_)
   have HQ := AQ.f2.f6.f3.f5.f5.f6
   have hu1 : Nh (zD P2 a q22) c.un (S ++ [a]) = (Nh P2 c.un S • kC q22 (c.un a) [] 0) := by
    rw [Po, jo, IL (P' := P2) (U' := c.un) fun x hx => ⟨zF _ _ (by rintro rfl; exact hns hx), rfl⟩]
   refine dN ((S ++ [a], mx, zD P2 a q22)) ?_ ?_ ?_ ?_
   ·exact (Sub.nil _)
   ·exact FC
   ·(try dsimp only)
    first | done | exact ⟨Pq hS hns, HQ.of_eq (by rw [y5 hmem, hu1, Wv hns]; ac_rfl)⟩
   ·(try dsimp only); omega
  ·(try simp only [Z] at h2)
   obtain rfl := L6 (o := ox) (by simp [h2])
   obtain ⟨rfl, rfl, hall⟩ := hNx
   refine dR (aP ?_)
   have ahM := wP
   have ahN := ahM.LZ
   subst akB
   have akD := ahN.f2.f2
   have akE := V.IQ hD1 hD2 akD
   have hnS : ∀ k, k ∉ Sx → c.un k = [] := fun k hk => hD2 k fun hkD => hk (hall k _ (if_pos hkD))
   have ahO := akE.f3.f3
   have abf := V.IQ hS hnS ahO
   refine aP (bH (aU (bI O (bM 3 aS O sizeOf75 O (aQ (ig 3 (l' := [_, _, _, _, _, _, _, _, _, _, _]) abf.f3 sizeOf75 O O (by first | rfl | assumption) O O) ?_)))))
   rintro _ w30 Vq
   refine zk7 (aV (dH aS O aY O O (Vq).get.2) (aQ (dM 0 (l' := [_, _, _, _, _, _, _, _, _, _, _]) (us := [_, _, _, _, _, _, _, _, _, _, _]) Vq.f11 aY O O O (aJ (aJ (aJ (aJ (aJ (aJ (aJ (aJ (aJ (aJ (aJ dn))))))))))) O O) ?_))
   rintro _ w31 Uk
   refine zkc ?_
   refine wS (.inl O) (Ud results80 O aS O (by rw [ajm]; rfl) (Uk).get.2) ?_
   exact ⟨_, _, _, _, _, O, Uk.right.right.f2.f3.f10.f8.f10.f6.f7.f8.f9.f10⟩
end
end Go.Proofs.YtpdeedplgmbopaaGreatDoor
end
