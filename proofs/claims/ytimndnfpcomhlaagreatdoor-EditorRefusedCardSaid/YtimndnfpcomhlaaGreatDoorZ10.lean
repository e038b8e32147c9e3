import Derived.Test.YtimndnfpcomhlaaGreatDoorZ4
import Derived.Test.YtimndnfpcomhlaaGreatDoorZ3
import Derived.Maps.RangeRun
import Derived.Test.YtimndnfpcomhlaaGreatDoorZ9
set_option linter.unusedSimpArgs false
set_option linter.unusedVariables false
/- Texts of mine, joined, their names in short: Map UGroups Ed EdTwin. -/
section
namespace Go.Proofs.YtimndnfpcomhlaaGreatDoor
open Go.RowKit Go.MapKept
structure Key (α : Type) where
  mkKey ::
  d : TypeDesc
  mk : α → Value
  key : ∀ a, IsKey d (mk a)
  inj : ∀ a b, mk a = mk b → a = b
  onto : ∀ v, IsKey d v → ∃ a, mk a = v
def BR (k : IntKind) : Key Int := ⟨.int k, .int k, fun _ => rfl, fun _ _ h => by cases h; rfl, fun v h => by
  cases v <;> simp [IsKey] at h
  subst h
  exact ⟨_, rfl⟩⟩
abbrev qH : Key Int := BR .i64
abbrev adt : Key Int := BR .i32
def adu : Key ByteArray := ⟨.string, .string, fun _ => trivial, fun _ _ h => by cases h; rfl, fun v h => by
  cases v <;> simp [IsKey] at h
  exact ⟨_, rfl⟩⟩
section
variable {α : Type} {K : Key α} {f : α → Option Value} {es : Array MapEntry} {clock : Nat}
def Cm (K : Key α) (f : α → Option Value) (es : Array MapEntry) (clock : Nat) : Prop :=
  Stamped es clock ∧ (∀ x ∈ es.toList, IsKey K.d x.key) ∧ ∀ a v, f a = some v ↔ ∃ x ∈ es.toList, x.key = K.mk a ∧ x.val = v
def iI (K : Key α) (b : Nat) (f : α → Option Value) : HP := wR fun (x : Array MapEntry × Nat) => fact (Cm K f x.1 x.2) • dR b (.map x.1 x.2)
def upd [DecidableEq α] {β : Type} (f : α → Option β) (a : α) (v : β) : α → Option β := fun x => if x = a then some v else f x
theorem Cm.same (h : Cm K f es clock) {x y : MapEntry} (hx : x ∈ es.toList) (hy : y ∈ es.toList) (e : x.key = y.key) : x = y := by
  have hn := h.1.2.2
  rw [List.Nodup, List.pairwise_map] at hn
  exact yR hn hx hy e
where
  yR : ∀ {l : List MapEntry}, l.Pairwise (fun x y => x.key ≠ y.key) → ∀ {x y : MapEntry}, x ∈ l → y ∈ l → x.key = y.key → x = y
    | [], _, _, _, hx, _, _ => by cases hx
    | z :: l, hp, x, y, hx, hy, e => by
      rw [List.pairwise_cons] at hp
      rcases List.mem_cons.1 hx with hx1 | hx1
      · rcases List.mem_cons.1 hy with hy1 | hy1
        · rw [hx1, hy1]
        · exact absurd (by rw [← hx1]; exact e) (hp.1 _ hy1)
      · rcases List.mem_cons.1 hy with hy1 | hy1
        · exact absurd (by rw [← hy1]; exact e.symm) (hp.1 _ hx1)
        · exact yR hp.2 hx1 hy1 e
theorem Rh : ∀ {l : List MapEntry}, (l.map (·.born)).Nodup → ∀ {x y : MapEntry}, x ∈ l → y ∈ l → x.born = y.born → x = y
  | [], _, _, _, hx, _, _ => by cases hx
  | z :: l, hp, x, y, hx, hy, e => by
    rw [List.map_cons, List.nodup_cons] at hp
    rcases List.mem_cons.1 hx with hx1 | hx1
    · rcases List.mem_cons.1 hy with hy1 | hy1
      · rw [hx1, hy1]
      · exact absurd (List.mem_map.2 ⟨y, hy1, by rw [← hx1]; exact e.symm⟩) hp.1
    · rcases List.mem_cons.1 hy with hy1 | hy1
      · exact absurd (List.mem_map.2 ⟨x, hx1, by rw [← hy1]; exact e⟩) hp.1
      · exact Rh hp.2 hx1 hy1 e
theorem Cm.find (h : Cm K f es clock) (a : α) : (Instr.findNow K.d (K.mk a) es.toList 0 = some none ∧ f a = none ∧ ∀ x ∈ es.toList, x.key ≠ K.mk a) ∨
    ∃ j e, Instr.findNow K.d (K.mk a) es.toList 0 = some (some (j, e.val)) ∧ es.toList[j]? = some e ∧ e.key = K.mk a ∧ f a = some e.val := by
  rcases findNow_spec (K.key a) es.toList 0 h.2.1 with ⟨h1, h2⟩ | ⟨j, e, h1, h2, h3⟩
  · refine .inl ⟨h1, ?_, h2⟩
    cases hf : f a with
    | none => rfl
    | some v =>
      obtain ⟨x, hx, hk, _⟩ := (h.2.2 a v).1 hf
      exact absurd hk (h2 x hx)
  · refine .inr ⟨j, e, by simpa using h1, h2, h3, (h.2.2 a e.val).2 ⟨e, List.mem_of_getElem? h2, h3, rfl⟩⟩
theorem NQ (K : Key α) : Cm K (fun _ => none) #[] 0 := ⟨stamped_empty 0, by simp, by simp⟩
end
section
variable {α : Type} {K : Key α} {f : α → Option Value} {es : Array MapEntry} {clock : Nat} {P : Program} {L : List (Nat × Value)} {w w0 : World} {ty : TypeId} {x y z : Operand} {F : HP} {b it n : Nat} {a : α} {S : List α}
theorem V.map (H : V w0 w (iI K b f • F)) : ∃ es clock, Cm K f es clock ∧ V w0 w (dR b (.map es clock) • F) := by
  obtain ⟨⟨es, clock⟩, H⟩ := H.qP
  obtain ⟨h, H⟩ := H.flat.fact
  exact ⟨es, clock, h, H⟩
theorem V.LP (h : Cm K f es clock) (H : V w0 w (dR b (.map es clock) • F)) : V w0 w (iI K b f • F) := V.jQ (es, clock) (V.deep (V.nH h H))
theorem NR {t kt et : TypeId} {zv : Value} (ok : Bool) (h : Cm K f es clock) (hb : w.heap[b]? = some (.map es clock)) (ht : P.underlying t = some (.map kt et)) (hk : P.underlying kt = some K.d) (hz : (zeroValue et).run P w = .ok zv w) :
    (Instr.lookup t (.map (some b)) (K.mk a) ok).run P w = .ok (if ok then .tuple #[(f a).getD zv, .bool (f a).isSome] else (f a).getD zv) w := by
  rcases h.find a with ⟨h1, h2, _⟩ | ⟨j, e, h1, h2, h3, h4⟩
  · simp [Instr.lookup, run_underlying ht, MapKept.run_getObj_map hb, MapKept.run_checkKey hk (K.key a), MapKept.run_findKey hk h1, hz, Result.andThen, h2]
  · simp [Instr.lookup, run_underlying ht, MapKept.run_getObj_map hb, MapKept.run_checkKey hk (K.key a), MapKept.run_findKey hk h1, Result.andThen, h4]
theorem NS {t kt et : TypeId} {zv : Value} (H : V w0 w (iI K b f • F)) (ht : P.underlying t = some (.map kt et)) (hk : P.underlying kt = some K.d) (hz : ∀ w, (zeroValue et).run P w = .ok zv w)
    (hx : ev L x = some (.map (some b))) (hy : ev L y = some (K.mk a)) : Val P L (.lookup t x y false) ty w ((f a).getD zv) w := fun ρ hρ _ _ _ _ => by
  obtain ⟨es, clock, h, H⟩ := H.map
  simp only [execOp, hρ _ _ hx, hρ _ _ hy, Sem.run_bind]
  rw [NR false h H.get.2 ht hk (hz w)]
  rfl
theorem NT {t kt et : TypeId} {zv : Value} (H : V w0 w (iI K b f • F)) (ht : P.underlying t = some (.map kt et)) (hk : P.underlying kt = some K.d) (hz : ∀ w, (zeroValue et).run P w = .ok zv w)
    (hx : ev L x = some (.map (some b))) (hy : ev L y = some (K.mk a)) : Val P L (.lookup t x y true) ty w (.tuple #[(f a).getD zv, .bool (f a).isSome]) w := fun ρ hρ _ _ _ _ => by
  obtain ⟨es, clock, h, H⟩ := H.map
  simp only [execOp, hρ _ _ hx, hρ _ _ hy, Sem.run_bind]
  rw [NR true h H.get.2 ht hk (hz w)]
  rfl
theorem lT {t : TypeId} (K : Key α) (H : V w0 w F) : vP P L (.makeMap t none) ty w fun v w' => ∃ b, v = .map (some b) ∧ V w0 w' (iI K b (fun _ => none) • F) := by
  refine um (v := .map (some w.heap.size)) (w' := w.alloc (.map #[] 0)) ?_ ⟨_, rfl, V.LP (NQ K) (H.alloc _)⟩
  intro ρ hρ d pos nY g
  simp only [execOp, Sem.run_bind, Option.map_none]
  rfl
theorem NU {o : Obj} {b : Nat} (h : w.heap[b]? = some o) (o' : Obj) : ({ w with heap := w.heap.setIfInBounds b o' } : World).heap[b]? = some o' ∧ ∀ k, k ≠ b → ({ w with heap := w.heap.setIfInBounds b o' } : World).heap[k]? = w.heap[k]? := by
  have hlt := lt_of_block h
  exact ⟨by simp [hlt], fun k hk => by simp [Ne.symm hk]⟩
theorem V.setB {o : Obj} (H : V w0 w (dR b o • F)) (o' : Obj) : V w0 (ChangeMaps.setBlock w b o') (dR b o' • F) :=
  V.turn (w := w) (w' := ChangeMaps.setBlock w b o') H rfl rfl rfl (by simp [ChangeMaps.setBlock]) (NU H.get.2 o').1 fun k hk _ => (NU H.get.2 o').2 k hk
theorem xG [DecidableEq α] {t kt et : TypeId} {v : Value} (H : V w0 w (iI K b f • F)) (ht : P.underlying t = some (.map kt et)) (hk : P.underlying kt = some K.d)
    (hx : ev L x = some (.map (some b))) (hy : ev L y = some (K.mk a)) (hz : ev L z = some v) : vP P L (.mapUpdate t x y z) ty w fun _ w' => V w0 w' (iI K b (upd f a v) • F) := by
  obtain ⟨es, clock, h, H⟩ := H.map
  have hb := H.get.2
  rcases h.find a with ⟨h1, h2, h3⟩ | ⟨j, e, h1, h2, h3, h4⟩
  · have hrun : (Instr.mapUpdate t (.map (some b)) (K.mk a) v).run P w = .ok () (ChangeMaps.setBlock w b (.map (es.push { key := K.mk a, val := v, born := clock }) (clock + 1))) := by
      simp [ChangeMaps.setBlock, Instr.mapUpdate, run_underlying ht, MapKept.run_getObj_map hb, MapKept.run_checkKey hk (K.key a), MapKept.run_findKey hk h1, MapKept.run_setObj_map _ hb, Result.andThen]
    refine Gu (w' := ChangeMaps.setBlock w b (.map (es.push { key := K.mk a, val := v, born := clock }) (clock + 1))) (fun ρ hρ d pos nY g => ?_) (V.LP (es := es.push { key := K.mk a, val := v, born := clock }) (clock := clock + 1) ⟨stamped_push h.1 h3, ?_, ?_⟩ (H.setB _))
    · simp only [execOp, hρ _ _ hx, hρ _ _ hy, hρ _ _ hz, Sem.run_bind]
      rw [hrun]; rfl
    · intro q hq
      simp only [Array.toList_push, List.mem_append, List.mem_singleton] at hq
      rcases hq with hq | rfl
      · exact h.2.1 q hq
      · exact K.key a
    · intro c u
      simp only [Array.toList_push, List.mem_append, List.mem_singleton, upd]
      by_cases hc : c = a
      · subst hc
        rw [if_pos rfl]
        constructor
        · intro hu; cases hu; exact ⟨_, .inr rfl, rfl, rfl⟩
        · rintro ⟨q, hq | rfl, hqk, Vt⟩
          · exact absurd hqk (h3 q hq)
          · rw [← Vt]
      · rw [if_neg hc, h.2.2 c u]
        constructor
        · rintro ⟨q, hq, hqk, Vt⟩; exact ⟨q, .inl hq, hqk, Vt⟩
        · rintro ⟨q, hq | rfl, hqk, Vt⟩
          · exact ⟨q, hq, hqk, Vt⟩
          · exact absurd (K.inj _ _ hqk).symm hc
  · have hj : es[j]? = some e := by simpa using h2
    have hrun : (Instr.mapUpdate t (.map (some b)) (K.mk a) v).run P w = .ok () (ChangeMaps.setBlock w b (.map (es.modify j fun e => { e with key := K.mk a, val := v }) clock)) := by
      simp [ChangeMaps.setBlock, Instr.mapUpdate, run_underlying ht, MapKept.run_getObj_map hb, MapKept.run_checkKey hk (K.key a), MapKept.run_findKey hk h1, hj, h3, MapKept.run_keyThatStays (K.key a), MapKept.run_setObj_map _ hb, Result.andThen]
    have hkey : ∀ e', es[j]? = some e' → ({ e' with key := K.mk a, val := v } : MapEntry).key = e'.key := fun e' he' => by rw [hj] at he'; cases he'; exact h3.symm
    have hst : Stamped (es.modify j fun e => { e with key := K.mk a, val := v }) clock := stamped_modify h.1 _ _ (fun _ _ => rfl) (fun e' _ he' => hkey e' he')
    have hmem : ∀ q, q ∈ (es.modify j fun e => { e with key := K.mk a, val := v }).toList ↔ (q = { e with key := K.mk a, val := v } ∨ q ∈ es.toList ∧ q.key ≠ K.mk a) := by
      intro q
      have hee : e ∈ es.toList := List.mem_of_getElem? h2
      constructor
      · intro hq
        obtain ⟨i, hi⟩ := List.getElem?_of_mem hq
        rw [Array.getElem?_toList, Array.getElem?_modify] at hi
        by_cases hij : j = i
        · subst hij
          rw [if_pos rfl, hj] at hi
          exact .inl (by simpa using hi.symm)
        · rw [if_neg hij] at hi
          have hqm : q ∈ es.toList := Array.mem_toList_iff.2 (Array.mem_of_getElem? hi)
          refine .inr ⟨hqm, fun hqk => ?_⟩
          have he : q = e := h.same hqm hee (hqk.trans h3.symm)
          subst he
          have hn := h.1.2.1
          have h5 : (es.toList.map (·.born))[i]? = some q.born := by rw [List.getElem?_map, Array.getElem?_toList, hi]; rfl
          have h6 : (es.toList.map (·.born))[j]? = some q.born := by rw [List.getElem?_map, h2]; rfl
          have hlt : i < (es.toList.map (·.born)).length := (List.getElem?_eq_some_iff.1 h5).1
          have hlt2 : j < (es.toList.map (·.born)).length := (List.getElem?_eq_some_iff.1 h6).1
          exact hij ((List.getElem?_inj hlt2 hn).1 (h6.trans h5.symm))
      · rintro (rfl | ⟨hq, hqk⟩)
        · apply List.mem_of_getElem? (i := j)
          rw [Array.getElem?_toList, Array.getElem?_modify, if_pos rfl, hj]; rfl
        · obtain ⟨i, hi⟩ := List.getElem?_of_mem hq
          have hij : j ≠ i := by
            rintro rfl
            rw [h2] at hi; cases hi
            exact hqk h3
          apply List.mem_of_getElem? (i := i)
          rw [Array.getElem?_toList, Array.getElem?_modify, if_neg hij]
          rwa [Array.getElem?_toList] at hi
    refine Gu (w' := ChangeMaps.setBlock w b (.map (es.modify j fun e => { e with key := K.mk a, val := v }) clock)) (fun ρ hρ d pos nY g => ?_) (V.LP (es := es.modify j fun e => { e with key := K.mk a, val := v }) (clock := clock) ⟨hst, isKey_modify h.2.1 _ _ hkey, ?_⟩ (H.setB _))
    · simp only [execOp, hρ _ _ hx, hρ _ _ hy, hρ _ _ hz, Sem.run_bind]
      rw [hrun]; rfl
    · intro c u
      simp only [hmem, upd]
      by_cases hc : c = a
      · subst hc
        rw [if_pos rfl]
        constructor
        · intro hu; cases hu; exact ⟨_, .inl rfl, rfl, rfl⟩
        · rintro ⟨q, rfl | ⟨hq, hqn⟩, hqk, Vt⟩
          · rw [← Vt]
          · exact absurd hqk hqn
      · rw [if_neg hc, h.2.2 c u]
        constructor
        · rintro ⟨q, hq, hqk, Vt⟩
          exact ⟨q, .inr ⟨hq, fun hqa => hc (K.inj _ _ (hqk.symm.trans hqa))⟩, hqk, Vt⟩
        · rintro ⟨q, rfl | ⟨hq, hqn⟩, hqk, Vt⟩
          · exact absurd (K.inj _ _ hqk).symm hc
          · exact ⟨q, hq, hqk, Vt⟩
def ZB (K : Key α) (f : α → Option Value) (es : Array MapEntry) (clock : Nat) (seen : Array Nat) (S : List α) (n : Nat) : Prop :=
  Cm K f es clock ∧ (∃ xs : List MapEntry, (∀ x ∈ xs, x ∈ es.toList) ∧ seen.toList = xs.map (·.born) ∧ xs.map (·.key) = S.map K.mk) ∧ (leftOf es seen).size = n
def Eb (K : Key α) (b it : Nat) (f : α → Option Value) (S : List α) (n : Nat) : HP := wR fun (x : Array MapEntry × Nat × Array Nat) => fact (ZB K f x.1 x.2.1 x.2.2 S n) • dR it (.mapIter (some b) x.2.1 x.2.2 x.2.1) • dR b (.map x.1 x.2.1)
theorem V.Vu (H : V w0 w (Eb K b it f S n • F)) : ∃ es clock seen, ZB K f es clock seen S n ∧ V w0 w (dR it (.mapIter (some b) clock seen clock) • dR b (.map es clock) • F) := by
  obtain ⟨⟨es, clock, seen⟩, H⟩ := H.qP
  obtain ⟨h, H⟩ := H.flat.fact
  exact ⟨es, clock, seen, h, H.flat⟩
theorem V.Il {seen : Array Nat} (h : ZB K f es clock seen S n) (H : V w0 w (dR it (.mapIter (some b) clock seen clock) • dR b (.map es clock) • F)) : V w0 w (Eb K b it f S n • F) :=
  V.jQ (es, clock, seen) (V.deep (V.nH h (H.of_eq (by ac_rfl))))
theorem V.J5 (H : V w0 w (Eb K b it f S n • F)) : V w0 w (iI K b f • F) := by
  obtain ⟨es, clock, seen, h, H⟩ := H.Vu
  exact V.LP h.1 H.right
theorem Fp {t kt et : TypeId} (H : V w0 w (iI K b f • F)) (ht : P.underlying t = some (.map kt et)) (hx : ev L x = some (.map (some b))) :
    vP P L (.range t x) ty w fun v w' => ∃ it n, v = .pointer (some ⟨it, 0, none⟩) ∧ V w0 w' (Eb K b it f [] n • F) := by
  obtain ⟨es, clock, h, H⟩ := H.map
  refine um (v := .pointer (some ⟨w.heap.size, 0, none⟩)) (w' := w.alloc (.mapIter (some b) clock #[] clock)) ?_ ⟨_, _, rfl, V.Il ⟨h, ⟨[], by simp, rfl, rfl⟩, rfl⟩ (H.alloc _)⟩
  intro ρ hρ d pos nY g
  simp only [execOp, hρ _ _ hx, Sem.run_bind]
  rw [run_range_map w t kt et b es clock ht H.get.2]
  rfl
def nxV (K : Key α) : Option (α × Value) → Value
  | some (a, u) => .tuple #[.bool true, K.mk a, u]
  | none => .tuple #[.bool false]
def abR (f : α → Option Value) (S : List α) (n : Nat) (S' : List α) (n' : Nat) : Option (α × Value) → Prop
  | some (a, u) => f a = some u ∧ a ∉ S ∧ n' < n ∧ S' = S ++ [a]
  | none => S' = S ∧ n' = n ∧ ∀ a u, f a = some u → a ∈ S
theorem XW {es : Array MapEntry} {seen : Array Nat} {e : MapEntry} (he : e ∈ (leftOf es seen).toList) : (leftOf es (seen.push e.born)).size < (leftOf es seen).size := by
  unfold leftOf at *
  rw [Array.toList_filter, List.mem_filter] at he
  have e1 : ∀ q : MapEntry → Bool, (es.filter q).size = (es.toList.filter q).length := fun q => by rw [← Array.toList_filter, Array.length_toList]
  rw [e1, e1]
  refine filter_lt _ _ (fun x hx => ?_) e he.2 ?_ es.toList he.1
  · simp only [Bool.not_eq_true', Array.contains_push, Bool.or_eq_false_iff] at hx ⊢
    exact hx.1
  · simp
theorem Io (H : V w0 w (Eb K b it f S n • F)) (hx : ev L x = some (.pointer (some ⟨it, 0, none⟩))) :
    vP P L (.next x false) ty w fun v w' => ∃ o S' n', v = nxV K o ∧ abR f S n S' n' o ∧ V w0 w' (Eb K b it f S' n' • F) := by
  obtain ⟨es, clock, seen, ⟨hm, ⟨xs, hxs, hse, hS⟩, hn⟩, H⟩ := H.Vu
  have hr := H.get.2
  have hb := H.swap.get.2
  rcases run_next_at (P := P) w ty it b clock clock seen es clock hr hb hm.1.1 (Nat.le_refl _) with ⟨h0, hrun⟩ | ⟨e, he, w1, hw1, hrun⟩
  · refine um (v := nxV K none) (w' := w) (fun ρ hρ d pos nY g => ?_) ⟨none, S, n, rfl, ⟨rfl, rfl, fun a u ha => ?_⟩, V.Il ⟨hm, ⟨xs, hxs, hse, hS⟩, hn⟩ H⟩
    · simp only [execOp, hρ _ _ hx, Sem.run_bind]
      rw [hrun]; rfl
    · obtain ⟨y, hy, hyk, _⟩ := (hm.2.2 a u).1 ha
      have hys : seen.contains y.born = true := by
        cases hc : seen.contains y.born with
        | true => rfl
        | false =>
          have hyl : y ∈ (leftOf es seen).toList := by unfold leftOf; rw [Array.toList_filter, List.mem_filter]; exact ⟨hy, by rw [hc]; rfl⟩
          have := List.length_pos_of_mem hyl
          rw [Array.length_toList] at this
          omega
      have aaU : y.born ∈ seen.toList := by simpa using hys
      rw [hse] at aaU
      obtain ⟨q, hq, hqb⟩ := List.mem_map.1 aaU
      have hqy : q = y := Rh hm.1.2.1 (hxs q hq) hy hqb
      subst hqy
      have : K.mk a ∈ S.map K.mk := by rw [← hS]; exact List.mem_map.2 ⟨q, hq, hyk⟩
      obtain ⟨c, hc, hce⟩ := List.mem_map.1 this
      rw [← K.inj _ _ hce]; exact hc
  · have hel : e ∈ es.toList ∧ seen.contains e.born = false := by
      have := he
      unfold leftOf at this
      rw [Array.toList_filter, List.mem_filter] at this
      exact ⟨this.1, by simpa using this.2⟩
    obtain ⟨a, ha⟩ := K.onto e.key (hm.2.1 e hel.1)
    have hfa : f a = some e.val := (hm.2.2 a e.val).2 ⟨e, hel.1, ha.symm, rfl⟩
    have hns : a ∉ S := fun hs => by
      have : K.mk a ∈ S.map K.mk := List.mem_map.2 ⟨a, hs, rfl⟩
      rw [← hS] at this
      obtain ⟨q, hq, hqk⟩ := List.mem_map.1 this
      have hqe : q = e := hm.same (hxs q hq) hel.1 (hqk.trans ha)
      subst hqe
      have h9 : q.born ∈ seen.toList := by rw [hse]; exact List.mem_map.2 ⟨q, hq, rfl⟩
      have h8 : seen.contains q.born = true := by simpa using h9
      rw [hel.2] at h8; cases h8
    have hval : Val P L (.next x false) ty w (nxV K (some (a, e.val))) (ChangeMaps.setBlock w1 it (.mapIter (some b) clock (seen.push e.born) clock)) := fun ρ hρ d pos nY g => by
      simp only [execOp, hρ _ _ hx, Sem.run_bind]
      rw [hrun]
      simp only [nxV, ha]
      rfl
    have hheap : w1.heap = w.heap := by rcases hw1 with rfl | rfl <;> rfl
    have hr1 : w1.heap[it]? = some (.mapIter (some b) clock seen clock) := by rw [hheap]; exact hr
    refine um hval ⟨some (a, e.val), S ++ [a], (leftOf es (seen.push e.born)).size, rfl, ⟨hfa, hns, by rw [← hn]; exact XW he, rfl⟩, V.Il (seen := seen.push e.born) ⟨hm, ⟨xs ++ [e], ?_, ?_, ?_⟩, rfl⟩ (V.setB (w := w1) (o := .mapIter (some b) clock seen clock) ?_ _)⟩
    · intro q hq
      rcases List.mem_append.1 hq with hq | hq
      · exact hxs q hq
      · rw [List.mem_singleton.1 hq]; exact hel.1
    · rw [Array.toList_push, hse, List.map_append]; rfl
    · rw [List.map_append, List.map_append, hS]; simp [ha]
    · rcases hw1 with rfl | rfl
      · exact H
      · exact H.drew
theorem YF {o : Option (α × Value)} (hx : ev L x = some (nxV K o)) : Val P L (.extract x 0) ty w (.bool o.isSome) w := by
  cases o with
  | none => exact Ew hx rfl
  | some p => obtain ⟨a, u⟩ := p; exact Ew hx rfl
theorem Ri {u : Value} (H : V w0 w (Eb K b it f (S ++ [a]) n • F)) (hf : f a = some u) (hx : ev L x = some (.pointer (some ⟨it, 0, none⟩))) : Val P L (.entry x) ty w (.tuple #[K.mk a, u]) w := by
  obtain ⟨es, clock, seen, ⟨hm, ⟨xs, hxs, hse, hS⟩, hn⟩, H⟩ := H.Vu
  intro ρ hρ d pos nY g
  have hne : xs ≠ [] := by
    rintro rfl
    have := congrArg List.length hS
    simp at this
  obtain ⟨ys, e, rfl⟩ : ∃ ys e, xs = ys ++ [e] := ⟨xs.dropLast, xs.getLast hne, (List.dropLast_concat_getLast hne).symm⟩
  have he : e ∈ es.toList := hxs e (by simp)
  have hk : e.key = K.mk a := by
    rw [List.map_append, List.map_append] at hS
    have := List.append_inj_right' hS rfl
    simpa using this
  have hv : e.val = u := by
    have h9 := (hm.2.2 a e.val).2 ⟨e, he, hk, rfl⟩
    rw [hf] at h9; cases h9; rfl
  have hsp : seen = (ys.map (·.born)).toArray.push e.born := by
    apply Array.ext'
    rw [hse]; simp
  have hr := H.get.2
  rw [hsp] at hr
  simp only [execOp, hρ _ _ hx, Sem.run_bind]
  rw [run_entry_at w it b clock _ es clock e hr H.swap.get.2 he hm.1.2.1, hk, hv]
  rfl
end
end Go.Proofs.YtimndnfpcomhlaaGreatDoor
end
section
namespace Go.Proofs.YtimndnfpcomhlaaGreatDoor
open Go.RowKit
open _root_.Go.Proofs.Tryz
def CB (c : Nat) (G : List (List gV)) (N : List gV) (k : Nat) : HP := wR fun (x : Value × List (Value × List fD)) => fact (x.2.map (fun g => g.2.map fD.says) = LK N ++ G.reverse.take k) • dR c (.cells #[x.1] 164 (0, 0)) • DZ x.1 x.2
theorem rev_succ {G : List (List gV)} {k : Nat} (hk : k < G.length) : G.reverse.take (k + 1) = G.reverse.take k ++ [G.getD (G.length - (k + 1)) []] := by
  rw [List.take_succ_eq_append_getElem (by simpa using hk)]
  congr 1
  rw [List.getElem_reverse, List.getD_eq_getElem?_getD, List.getElem?_eq_getElem (by omega)]
  have e : G.length - 1 - k = G.length - (k + 1) := by omega
  simp only [Option.getD_some, e]
section
variable {w0 w : World} {F : HP} {p c k : Nat} {G : List (List gV)} {N : List gV} {op : Int} {v u : Value} {es fs : List fD} {gs hs : List (Value × List fD)}
theorem V.NV (H : V w0 w (CB c G N k • F)) : ∃ u hs, hs.map (fun g => g.2.map fD.says) = LK N ++ G.reverse.take k ∧ hs.length ≤ G.length + 1 ∧ V w0 w (dR c (.cells #[u] 164 (0, 0)) • Row 67 1 u hs.length (hs.map (·.1)) • tZ hs • F) := by
  obtain ⟨⟨u, hs⟩, H⟩ := H.qP
  obtain ⟨h, H⟩ := H.flat.fact
  refine ⟨u, hs, h, ?_, (H.flat.swap.Zk).f3⟩
  have := congrArg List.length h
  have := Vr N
  simp only [List.length_map, List.length_append, List.length_take, List.length_reverse] at *
  omega
theorem V.Ip (h : hs.map (fun g => g.2.map fD.says) = LK N ++ G.reverse.take k) (H : V w0 w (dR c (.cells #[u] 164 (0, 0)) • DZ u hs • F)) : V w0 w (CB c G N k • F) :=
  V.jQ (u, hs) (V.deep (V.nH h H.deep))
theorem Tz (H : V w0 w F) (hv : v.oneCell' = true) : iU prog 107 #[v] w fun v' w' => ∃ b, v' = .func (.func 118) #[] #[.pointer (some ⟨b, 0, none⟩)] ∧ V w0 w' (dR b (.cells #[v] 164 (0, 0)) • F) := by
  refine ji func107 ntmps107 ?_
  refine jg (jL (jG (l := [_]) H O (by first | rfl | exact EC (by first | rfl | assumption))) ?_)
  rintro _ w1 ⟨b1, rfl, H1⟩
  refine gY O (jg (aV (CU O O) (iW O (fB results107 O ?_))))
  exact ⟨_, O, H1⟩
theorem Qe (b : Nat) : Iter prog w0 (.func (.func 118) #[] #[.pointer (some ⟨b, 0, none⟩)]) (dR b (.cells #[v] 164 (0, 0)) • Row 67 1 v gs.length (gs.map (·.1)) • tZ gs) gs.length
  (fun k vs A => ∃ gl zn, gs.getD (gs.length - (k + 1)) default = (gl, zn) ∧ vs = [.int .i64 ((gs.length - (k + 1) : Nat) : Int), gl] ∧ A = Et gl zn) := by
 intro l J X w hy H
 refine ⟨118, [], [.pointer (some ⟨b, 0, none⟩)], _, _, O, func118, O, O, ?_⟩
 have H1 : V w0 w (dR b (.cells #[v] 164 (0, 0)) • Row 67 1 v gs.length (gs.map (·.1)) • tZ gs • J 0) := H.of_eq (by ac_rfl)
 obtain ⟨a, c, hv, hc1, hc2, _⟩ := (H1.swap.aP).form
 subst hv
 simp only [List.nil_append, List.cons_append]
 refine Xv func118 ntmps118 ?_
 dsimp only [Ag, Nat.reduceAdd]
 refine jg (dQ bJ O (H1).get.2 O (aV (iE ((H1.f2).aP) bJ O) (aV (lX O O (by omega)) (gY O (bn ?_)))))
 refine iR [(0, _), (1, _)] (fun (k : Nat) => [(3, .int .i64 ((k : Int) - 1))]) (fun (k : Nat) W => k ≤ gs.length ∧ V w0 W (dR b (.cells #[.slice a gs.length c] 164 (0, 0)) • Row 67 1 (.slice a gs.length c) gs.length (gs.map (·.1)) • tZ gs • J (gs.length - k))) (fun (k : Nat) => k) (gs.length) vT sJ ⟨by omega, by rw [Nat.sub_self]; exact H1⟩ ?_
 rintro k w1 ⟨hk, HL⟩
 dsimp only [List.cons_append, List.nil_append]
 refine aO (bM O (aV (Gv O O) (kK O (fun h1 => ?_) (fun h1 => ?_))))
 ·(try simp only [aH] at h1)
  refine iq (aO (bn (aO ?_)))
  obtain ⟨m, rfl⟩ : ∃ m, k = m + 1 := ⟨k - 1, by omega⟩
  rw [show (((m + 1 : Nat) : Int) - 1) = (m : Int) from by omega]
  have hkl : m < gs.length := by omega
  refine aC (mQ O O (dQ bJ O (HL).get.2 O (cZ O ?_)))
  obtain ⟨bv, ov, cv, ev⟩ := Rd.vS ((HL.f2).aP) (by omega)
  cases ev
  refine aV (gU bJ bV O O (by omega)) ?_
  refine aV (jM (fK aU O) O (by first | exact Rd.GI ((HL.f2).aP) (by omega) | exact Rd.Xx ((HL.f2).aP) (by omega) | exact Rd.Xb ((HL.f2).aP) (by omega))) ?_
  rw [show (gs.map (·.1)).getD m undef = (gs.getD m default).1 from by simp [List.getD_eq_getElem?_getD, hkl]]
  obtain ⟨gl, zn, hg⟩ : ∃ gl zn, gs.getD m default = (gl, zn) := ⟨_, _, rfl⟩
  rw [hg]
  have Ho2 := HL.f3
  have Hc3 := Ho2.LH hkl hg
  refine jL (LD O O (hy (gs.length - (m + 1)) (by omega) _ _ ⟨gl, zn, by rw [show gs.length - (gs.length - (m + 1) + 1) = m from by omega]; exact hg, by rw [show gs.length - (gs.length - (m + 1) + 1) = m from by omega], O⟩ (tZ gs • Row 67 1 (.slice (some ⟨bv, ov, none⟩) gs.length c) gs.length (gs.map (·.1)) • dR b (.cells #[.slice (some ⟨bv, ov, none⟩) gs.length c] 164 (0, 0))) _ (Hc3.of_eq (by ac_rfl))).bool) ?_
  rintro _ w4 ⟨t, rfl, ht1, ht2⟩
  refine aV (oO O) (kK O (fun h2 => ?_) (fun h2 => ?_))
  ·(try simp only [aH] at h2)
   have HX := ht2 (by simpa using h2)
   refine rV (bD (aK (aK (bD (we0 results118 ?_)))))
   exact .inr (HX.of_eq (by ac_rfl))
  ·(try simp only [aH] at h2)
   have HN : V w0 w4 (dR b (.cells #[.slice (some ⟨bv, ov, none⟩) gs.length c] 164 (0, 0)) • Row 67 1 (.slice (some ⟨bv, ov, none⟩) gs.length c) gs.length (gs.map (·.1)) • tZ gs • J (gs.length - m)) := by
    have h9 := ht1 (by simpa using h2)
    rw [show gs.length - (m + 1) + 1 = gs.length - m from by omega] at h9
    exact h9.of_eq (by ac_rfl)
   refine fU (aN (bg (aC (cZ O (aV (lX O O (by omega)) (lU O (bY ?_)))))))
   refine fG (m) ?_ ?_ ?_ ?_
   ·exact sJ
   ·exact vT
   ·(try dsimp only)
    first | done | exact ⟨by omega, HN.f3.f3.f3⟩
   ·(try dsimp only); omega
 ·(try simp only [aH] at h1)
  refine iJ (aX (aX (dA (gQ (.inr O) results118 ?_))))
  obtain rfl : k = 0 := by omega
  rw [Nat.sub_zero] at HL
  exact .inl (HL.of_eq (by ac_rfl))
theorem FY (H : V w0 w (iL p G N op • F)) : iU prog 73 #[.pointer (some ⟨p, 0, none⟩)] w fun v w' => ∃ c, v = .func (.func 108) #[] #[.pointer (some ⟨c, 0, none⟩)] ∧ V w0 w' (CB c G N G.length • iL p G N op • F) := by
 refine ji func73 ntmps73 ?_
 refine lZ O (jg (jL (fE (l := [_]) H zeroValue164 O) ?_))
 rintro _ w1 ⟨b1, rfl, H1⟩
 refine qj (bM O (dZ O func95 (lu H1.f2) ?_))
 rintro _ _ ⟨rfl, rfl⟩
 refine aV (oO O) ?_
 obtain ⟨Ac, xX, nU, mV, lI, uF, sQ, EK, EL, Ju, qg⟩ := (H1.f2).wB
 have hLn : mV.length ≤ 16384 := by omega
 have hBn := NM sQ lI.2.2.2.2.2
 refine iT (wcE O (fun h1 => ?_))
 (try simp only [aH] at h1)
 refine Dz [(0, _), (3, _)] (fun (_ : Unit) => []) (fun (_ : Unit) W => V w0 W (CB b1 G N 0 • dR p (.cells #[Ac, xX, .int .i64 op, .int .i64 (gI G N : Nat), .bool true] 168 (0, 0)) • Row 67 1 Ac nU.length (nU.map (·.1)) • tZ nU • Row 124 3 xX mV.length (mV.flatMap fD.enc) • nC mV • F)) vT ?_ ?_
 ·rintro _ w4 HJ
  dsimp only [List.cons_append, List.nil_append]
  refine bM O (dM O (bf 0 bC O dw O (bf 0 bF O gW O (dQ bJ O (HJ.f2).get.2 O (dZ O func107 (Tz HJ (Rd.one ((HJ.f3).aP))) ?_)))))
  rintro _ w5 ⟨bB5, rfl, H5⟩
  refine iT (bn ?_)
  obtain ⟨R6, hR6, HR6⟩ := V.Yo (H5.f5.f5.f3.f4)
  refine zk O (Qe bB5) (fun k => CB b1 G N k • R6) (fact False) (fun _ => fact False) (HR6.f4.f4.f4.f4.f4.f4.f4.g3.comm) (by rfl) ?_ ?_ ?_ ?_
  ·rintro l7 k Zo vs7 A7 ⟨gl, zn, hg, rfl, rfl⟩ G7 w7 H7
   try simp only [dI, oh, wF] at H7
   refine ⟨O, ?_⟩
   dsimp only [P7]
   obtain ⟨u, hs, Tv, hhl, HI⟩ := (H7.f2).NV
   have hge : zn.map fD.says = G.getD (G.length - (k + 1)) [] := by
    rw [← EK, ← uF]
    have h9 : (nU.map (fun g => g.2.map fD.says)).getD (nU.length - (k + 1)) [] = (nU.getD (nU.length - (k + 1)) default).2.map fD.says := by simp [List.getD_eq_getElem?_getD, show nU.length - (k + 1) < nU.length by omega]
    rw [h9, hg]
   have hgm : G.getD (G.length - (k + 1)) [] ∈ G := yK (by omega)
   have hBg := NM hge (lI.2.2.2.2.1 _ hgm)
   have hLg : zn.length ≤ 16384 := by
    have h8 := lI.2.1
    unfold gI at h8
    have h7 := congrArg List.length hge
    rw [List.length_map] at h7
    have h6 := LJ hgm
    omega
   refine aC (lU O (bY ?_))
   refine P6 (HI.g5) ?_
   intro G8 w8 H8
   try simp only [dI] at H8
   refine bn ?_
   have aaV := H8.drew
   have Vw := V.kp (aaV.f4.f4.f4.f4)
   refine xP [0] Vw O (jq 0 O Vw (fun W hW => jV bJ O ((Kp.h hW)).get.2 O) (jc 1 O Vw O (mP 2 O (wu O func96 (xZ aaV.f4 hBg hLg)) ?_)))
   rintro u9 w9 ⟨fs9, abS, H9⟩
   obtain ⟨es2, rfl⟩ : ∃ q, q = fs9 := ⟨_, rfl⟩
   have hes2 := abS
   have Vd := V.kp (H9.f6.f6.f6.f6.f6.f6)
   refine dK Vd (fun W hW => (Kp.h hW).right.right.f4.f4.f4) ?_
   refine mP 3 O (pO (vs := [_]) H9 bJ bV zeroValue67 O O O (by decide) (aZ (by first | rfl | exact Rd.one ((H9).aP)) bK)) ?_
   rintro l10 w10 sV
   have Vp := V.kp (sV.f7.f7.f7.f7.f7.f7.f7)
   refine dK Vp (fun W hW => (Kp.h hW).right.f6.f6.f6.f6.f6.f6) ?_
   refine mP 4 O (iQ sV.f6 bJ NG O O O ((sV).aP) (aZ (by first | rfl | exact Rd.one ((sV.f2).aP)) bK) (by omega) (by omega)) ?_
   rintro l11 I9 yt
   have Jv := yt.f2.right
   have Ht := V.kp (Jv.f6.f6.f6.f6.f6.f6)
   refine iC Ht (by kernel_rfl) ?_
   refine eF 5 O (by kernel_rfl) (fM 0 (l' := [_]) Jv.f5 gW O O (by first | rfl | exact Rd.one ((Jv).aP)) O O) ?_
   rintro _ O8 yY
   have Hu := V.kp (yY.f6.f6.f6.f6.f6.f6)
   refine iC Hu (by kernel_rfl) ?_
   refine qp (aN ?_)
   refine Hy ?_
   have X := V.xg (es := es2) (yY.f5.right.f5.f3.f5.f5).deep
   exact (V.Ip (hs := hs ++ [(u9, es2)]) (by rw [List.map_append, Tv, rev_succ (by omega), ← hge, ← hes2, List.append_assoc]; rfl) (V.yO X.swap).swap).deep
  ·rintro D14 MK yu
   have Nu := yu.ed
   try simp only [dI, oh, wF] at Nu
   have Zp := Nu.QH
   subst hR6
   refine aN (bg (jg (aV (CU O O) (iW O ?_))))
   refine F8 (.inl O) (Zp) (fun SX BA => ?_)
   refine ⟨_, Y4 results73 O, ?_⟩
   have hgl : CB b1 G N nU.length = CB b1 G N G.length := by rw [EK]
   rw [hgl] at BA
   have abT := BA.f7.f7.f5.f5.f7
   have abU := V.nG lI uF sQ rfl abT
   exact ⟨_, O, abU.f2.right.f2⟩
  ·rintro D w H; exact absurd H.swap.fact.1 id
  ·rintro id D w H; exact absurd H.swap.fact.1 fun h => h
 ·skip
  refine bM O (dM O (bf 0 bC O dw O (bf 1 bF O bV O (dQ aU O (qg).get.2 O (aV (iE ((qg.f4).aP) aU O) (aV (fZ O O) (kK O (fun h2 => ?_) (fun h2 => ?_))))))))
  ·(try simp only [aH] at h2)
   have hN : LK N = [N] := if_neg (by rintro rfl; exact absurd EL (by simp only [List.length_nil]; omega))
   have YG := qg.drew
   have Dk := V.kp (YG.f6.f6.f6.f6.f6.f6)
   refine xP [0, 5] Dk O (jq 0 O Dk (fun W hW => jV bJ O ((Kp.h hW).f6).get.2 O) (jc 1 O Dk O (kN 2 O Dk O (fV 3 O Dk 0 bC O dw O (fV 4 O Dk 1 bF O bV O (jq 5 O Dk (fun W hW => jV aU O ((Kp.h hW)).get.2 O) (mP 6 O (wu O func96 (AO YG.f5.f5 hBn hLn)) ?_)))))))
   rintro u19 Xf ⟨abV, aaW, zO⟩
   obtain ⟨es1, rfl⟩ : ∃ q, q = abV := ⟨_, rfl⟩
   have hes1 := aaW
   have NW := V.kp (zO.f8.f8.f8.f8.f8.f8.f8.f8)
   refine dK NW (fun W hW => (Kp.h hW).right.right.f6.f3.f3.f6.f6.f6) ?_
   refine mP 7 O (pO (vs := [_]) zO bJ bV zeroValue67 O O O (by decide) (aZ (by first | rfl | exact Rd.one ((zO).aP)) bK)) ?_
   rintro l20 XJ BD
   have Ec := V.kp (BD.f9.f9.f9.f9.f9.f9.f9.f9.f9)
   refine dK Ec (fun W hW => (Kp.h hW).right.f8.f8.f8.f8.f8.f8.f8.f8) ?_
   refine mP 8 O (iQ (BD.jH none) bJ NG O O O ((BD).aP) (aZ (by first | rfl | exact Rd.one ((BD.f2).aP)) bK) (by omega) (by omega)) ?_
   rintro l21 XK sW
   have LQ := sW.f2.right
   have Ed := V.kp (LQ.f9.f9.f9.f9.f9.f9.f9.f9.f9)
   refine iC Ed (by kernel_rfl) ?_
   refine eF 9 O (by kernel_rfl) (fM 0 (l' := [_]) LQ.f9 gW O O (by first | rfl | exact Rd.one ((LQ).aP)) O O) ?_
   rintro _ UZ xu
   have Fq := V.kp (xu.f9.f9.f9.f9.f9.f9.f9.f9.f9)
   refine iC Fq (by kernel_rfl) ?_
   have X := V.xg (es := es1) (xu.f6.f6.f9.f9.f9.f6.f7.f9.f9).deep
   have hJn : V w0 UZ (CB b1 G N 0 • dR p (.cells #[Ac, xX, .int .i64 op, .int .i64 (gI G N : Nat), .bool true] 168 (0, 0)) • Row 67 1 Ac nU.length (nU.map (·.1)) • tZ nU • Row 124 3 xX mV.length (mV.flatMap fD.enc) • nC mV • F) :=
    V.Ip (hs := [(u19, es1)]) (by rw [hN, ← sQ, ← hes1]; rfl) (V.yO (gs := []) X.Nv.f3.f3.f2).swap
   refine qp ?_
   refine nJ (()) ?_ ?_ ?_
   ·exact (Sub.nil _)
   ·exact vT
   ·(try dsimp only)
    first | done | exact hJn
  ·(try simp only [aH] at h2)
   have hN : LK N = [] := if_pos (by rw [← sQ, List.eq_nil_of_length_eq_zero (show mV.length = 0 by omega)]; rfl)
   have hJn : V w0 w1 (CB b1 G N 0 • dR p (.cells #[Ac, xX, .int .i64 op, .int .i64 (gI G N : Nat), .bool true] 168 (0, 0)) • Row 67 1 Ac nU.length (nU.map (·.1)) • tZ nU • Row 124 3 xX mV.length (mV.flatMap fD.enc) • nC mV • F) :=
    V.Ip (hs := []) (by rw [hN]; rfl) ((qg.f5.f5.f5.f5.f5.f6).D5 none).swap
   refine fU ?_
   refine nJ (()) ?_ ?_ ?_
   ·exact (Sub.nil _)
   ·exact vT
   ·(try dsimp only)
    first | done | exact hJn
theorem NY (c : Nat) (hB : ∀ g ∈ Dj G N, ∀ e ∈ g, EB e) (hL : ∀ g ∈ Dj G N, g.length ≤ 16384) : Iter prog w0 (.func (.func 108) #[] #[.pointer (some ⟨c, 0, none⟩)]) (CB c G N G.length) (Dj G N).length
  (fun k vs A => ∃ u, ∃ fs : List fD, fs.map fD.says = (Dj G N).getD k [] ∧ vs = [u] ∧ A = Jt u fs) := by
 intro l J X w hy H
 refine ⟨108, [], [.pointer (some ⟨c, 0, none⟩)], _, _, O, func108, O, O, ?_⟩
 obtain ⟨v, hs, Tv, hhl, H1⟩ := H.comm.NV
 have aaX := Tv
 rw [List.take_of_length_le (by simp), ← XQ] at Tv
 have hlen : hs.length = (Dj G N).length := by have := congrArg List.length Tv; simpa using this
 obtain ⟨a, d, hv, hc1, hc2, _⟩ := (H1.swap.aP).form
 subst hv
 simp only [List.nil_append, List.cons_append]
 refine Xv func108 ntmps108 ?_
 dsimp only [Ag, Nat.reduceAdd]
 refine jg (dQ bJ O (H1).get.2 O (aV (iE ((H1.f2).aP) bJ O) (cZ O (iT (bn ?_)))))
 refine iR [(0, _), (5, _), (6, _)] (fun (k : Nat) => [(7, .int .i64 (k : Int))]) (fun (k : Nat) W => k ≤ hs.length ∧ V w0 W (dR c (.cells #[.slice a hs.length d] 164 (0, 0)) • Row 67 1 (.slice a hs.length d) hs.length (hs.map (·.1)) • tZ hs • J k)) (fun (k : Nat) => hs.length - k) (0) Gf sJ ⟨by omega, H1⟩ ?_
 rintro k w1 ⟨hk, HL⟩
 dsimp only [List.cons_append, List.nil_append]
 refine jg (aV (fJ O O) (qj (bI O (fun h1 => ?_) (fun h1 => ?_))))
 ·(try simp only [aH] at h1)
  refine iq (aO (bn (jg ?_)))
  obtain ⟨bv, ov, cv, ev⟩ := Rd.vS ((HL.f2).aP) (by omega)
  cases ev
  refine aV (gU bJ bV O O (by omega)) ?_
  refine aV (jM (fK aU O) O (by first | exact Rd.GI ((HL.f2).aP) (by omega) | exact Rd.Xx ((HL.f2).aP) (by omega) | exact Rd.Xb ((HL.f2).aP) (by omega))) ?_
  have hkl : k < hs.length := by omega
  rw [show (hs.map (·.1)).getD k undef = (hs.getD k default).1 from by simp [List.getD_eq_getElem?_getD, hkl]]
  obtain ⟨gl, zn, hg⟩ : ∃ gl zn, hs.getD k default = (gl, zn) := ⟨_, _, rfl⟩
  rw [hg]
  have Ho2 := HL.f3
  have Hc3 := Ho2.LH hkl hg
  have hge : zn.map fD.says = (Dj G N).getD k [] := by
   rw [← Tv]
   have h9 : (hs.map (fun g => g.2.map fD.says)).getD k [] = (hs.getD k default).2.map fD.says := by simp [List.getD_eq_getElem?_getD, hkl]
   rw [h9, hg]
  have hgm : (Dj G N).getD k [] ∈ Dj G N := yK (by omega)
  have hBg := NM hge (hB _ hgm)
  have hLg : zn.length ≤ 16384 := by
   have h7 := congrArg List.length hge
   rw [List.length_map] at h7
   have := hL _ hgm
   omega
  refine gY O (bM O (cZ O (dZ O func96 (xZ Hc3 hBg hLg) ?_)))
  rintro u4 w4 ⟨fs4, abW, H4⟩
  obtain ⟨es2, rfl⟩ : ∃ q, q = fs4 := ⟨_, rfl⟩
  have hes2 := abW
  have Hd5 := H4.f3.right
  refine jL (LD O O (hy k (by omega) _ _ ⟨_, es2, hes2.trans hge, O, O⟩ (tZ hs • Row 67 1 (.slice (some ⟨bv, ov, none⟩) hs.length d) hs.length (hs.map (·.1)) • dR c (.cells #[.slice (some ⟨bv, ov, none⟩) hs.length d] 164 (0, 0))) _ (Hd5.of_eq (by unfold Jt; ac_rfl))).bool) ?_
  rintro _ w6 ⟨t, rfl, ht1, ht2⟩
  refine aV (oO O) (kK O (fun h2 => ?_) (fun h2 => ?_))
  ·(try simp only [aH] at h2)
   have HX := ht2 (by simpa using h2)
   refine rV (bD (aK (aK (bD (we0 results108 ?_)))))
   exact .inr (V.comm (V.Ip (u := .slice (some ⟨bv, ov, none⟩) hs.length d) aaX (HX.of_eq (by unfold DZ; ac_rfl))))
  ·(try simp only [aH] at h2)
   have HN : V w0 w6 (dR c (.cells #[.slice (some ⟨bv, ov, none⟩) hs.length d] 164 (0, 0)) • Row 67 1 (.slice (some ⟨bv, ov, none⟩) hs.length d) hs.length (hs.map (·.1)) • tZ hs • J (k + 1)) := by
    have h9 := ht1 (by simpa using h2)
    exact h9.of_eq (by ac_rfl)
   refine fU (aN (bg (aC (aV (gX O O (by omega)) (cZ O (bY ?_))))))
   refine fG (k + 1) ?_ ?_ ?_ ?_
   ·exact sJ
   ·exact Gf
   ·(try dsimp only)
    first | done | exact ⟨by omega, HN.f3.f3.f3⟩
   ·(try dsimp only); omega
 ·(try simp only [aH] at h1)
  refine iJ (aX (aX (dA (gQ (.inr O) results108 ?_))))
  obtain rfl : k = hs.length := by omega
  rw [← hlen]
  exact .inl (V.comm (V.Ip (u := .slice a hs.length d) aaX (HL.of_eq (by unfold DZ; ac_rfl))))
end
end Go.Proofs.YtimndnfpcomhlaaGreatDoor
end
section
namespace Go.Proofs.YtimndnfpcomhlaaGreatDoor
open Go.RowKit
def Fv (P : Int → Nat) (U : Int → List (List gV)) : List Int → HP
  | [] => emp
  | k :: D => iL (P k) (U k) [] 0 • Fv P U D
def NZ (D : List Int) (P : Int → Nat) : Int → Option Value := fun k => if k ∈ D then some (.pointer (some ⟨P k, 0, none⟩)) else none
theorem sO {P : Int → Nat} {U : Int → List (List gV)} {k : Int} : ∀ {D : List Int}, k ∈ D → Fv P U D = (iL (P k) (U k) [] 0 • Fv P U (D.erase k))
  | x :: D, h => by
    by_cases e : x = k
    · subst e; rw [List.erase_cons_head]; rfl
    · rw [List.erase_cons_tail (by simpa using e)]
      have hk : k ∈ D := (List.mem_cons.1 h).resolve_left (Ne.symm e)
      show (iL (P x) (U x) [] 0 • Fv P U D) = _
      rw [sO hk]
      show (iL (P x) (U x) [] 0 • iL (P k) (U k) [] 0 • Fv P U (D.erase k)) = (iL (P k) (U k) [] 0 • (iL (P x) (U x) [] 0 • Fv P U (D.erase k)))
      ac_rfl
theorem BI {P P' : Int → Nat} {U U' : Int → List (List gV)} : ∀ {D : List Int}, (∀ k ∈ D, P k = P' k ∧ U k = U' k) → Fv P U D = Fv P' U' D
  | [], _ => rfl
  | x :: D, h => by
    show (iL (P x) (U x) [] 0 • Fv P U D) = (iL (P' x) (U' x) [] 0 • Fv P' U' D)
    rw [(h x (by simp)).1, (h x (by simp)).2, BI fun k hk => h k (List.mem_cons_of_mem _ hk)]
def vW (b : Nat) (U : Int → List (List gV)) : HP := wR fun (x : List Int × (Int → Nat)) => fact (x.1.Nodup ∧ ∀ k, k ∉ x.1 → U k = []) • iI qH b (NZ x.1 x.2) • Fv x.2 U x.1
def J6 (b : Nat) (U : Int → List (List gV)) (k : Int) (p : Nat) : HP := wR fun (x : List Int × (Int → Nat)) => fact (x.1.Nodup ∧ (∀ k, k ∉ x.1 → U k = []) ∧ k ∈ x.1 ∧ x.2 k = p) • iI qH b (NZ x.1 x.2) • Fv x.2 U (x.1.erase k)
section
variable {w0 w : World} {F : HP} {b p : Nat} {k : Int} {U : Int → List (List gV)} {G : List (List gV)}
theorem V.Vx (H : V w0 w (vW b U • F)) : ∃ D P, (D : List Int).Nodup ∧ (∀ k, k ∉ D → U k = []) ∧ V w0 w (iI qH b (NZ D P) • Fv P U D • F) := by
  obtain ⟨⟨D, P⟩, H⟩ := H.qP
  obtain ⟨⟨h1, h2⟩, H⟩ := H.flat.fact
  exact ⟨D, P, h1, h2, H.flat⟩
theorem V.BJ {D : List Int} {P : Int → Nat} (h1 : D.Nodup) (h2 : ∀ k, k ∉ D → U k = []) (H : V w0 w (iI qH b (NZ D P) • Fv P U D • F)) : V w0 w (vW b U • F) :=
  V.jQ (D, P) (V.deep (V.nH ⟨h1, h2⟩ H.deep))
theorem V.Vy {D : List Int} {P : Int → Nat} (h1 : D.Nodup) (h2 : ∀ k, k ∉ D → U k = []) (hk : k ∈ D) (H : V w0 w (iI qH b (NZ D P) • Fv P U D • F)) : V w0 w (iL (P k) (U k) [] 0 • J6 b U k (P k) • F) := by
  have H1 : V w0 w ((iI qH b (NZ D P) • Fv P U (D.erase k)) • iL (P k) (U k) [] 0 • F) := H.of_eq (by rw [sO hk]; ac_rfl)
  have H2 : V w0 w (J6 b U k (P k) • iL (P k) (U k) [] 0 • F) := V.jQ (D, P) (V.deep (V.nH ⟨h1, h2, hk, rfl⟩ H1))
  exact H2.swap
theorem V.wO (H : V w0 w (J6 b U k p • iL p G [] 0 • F)) : V w0 w (vW b (vF U k G) • F) := by
  obtain ⟨⟨D, P⟩, H⟩ := H.qP
  obtain ⟨⟨h1, h2, hk, hp⟩, H⟩ := H.flat.fact
  dsimp only at h1 h2 hk hp H
  subst hp
  refine V.BJ (D := D) (P := P) h1 (fun x hx => ?_) ?_
  · rw [vG _ _ (by rintro rfl; exact hx hk)]; exact h2 x hx
  · rw [sO (U := vF U k G) hk, gZ, BI (P' := P) (U' := U) fun x hx => ⟨rfl, vG _ _ (by rintro rfl; exact (List.Nodup.not_mem_erase h1) hx)⟩]
    exact H.of_eq (by ac_rfl)
end
def qI (t : Int → Option ByteArray) : Int → Option Value := fun k => (t k).map .string
def Qg (pb pr pw pt pm : Nat) (c : pX) : HP := fF pb c.L c.pt c.mark • dL pr c.E c.at_ • dR pw (.cells #[.int .i64 c.place, .map (some pt)] 81 (0, 0)) • iI qH pt (qI c.tx) • vW pm c.un
def N7 (pb pr pw pm : Nat) (c : pX) : List Value := [.pointer (some ⟨pb, 0, none⟩), .pointer (some ⟨pr, 0, none⟩), .pointer (some ⟨pw, 0, none⟩), .map (some pm), .int .i64 c.mode, .bool c.over, .int .i64 c.last, .int .i64 c.fr, .int .i64 c.to, .int .i64 c.res, .bool c.run]
def vH (inn : Bool) (c : pX) (u : List Value) : HP := if inn = true then wR fun (x : Nat × Nat × Nat × Nat × Nat) => fact (u = N7 x.1 x.2.1 x.2.2.1 x.2.2.2.2 c) • Qg x.1 x.2.1 x.2.2.1 x.2.2.2.1 x.2.2.2.2 c else (fact ((u.all fun x => x.oneCell') = true))
def LU (hl : List qE) (c : pX) : Prop := 0 ≤ c.place ∧ c.place ≤ hl.length ∧ (∀ k t, c.tx k = some t → t.size ≤ 16384)
def zA (e : gV) : Prop := 0 ≤ e.1 ∧ 0 < e.2.1.length + e.2.2.length ∧ e.2.1.length ≤ 1024 ∧ e.2.2.length ≤ 1024
def oV (s : aY) : Prop := LU s.hl s.c ∧ (s.inn = true → LU s.hl s.was ∧ gI (s.was.un s.was.place) [] ≤ 16384 ∧ ∀ k, ∀ g ∈ s.was.un k, ∀ e ∈ g, zA e) ∧ (-1 ≤ s.arg ∧ s.arg ≤ 1000000) ∧ (∀ e ∈ s.put, zA e) ∧ gI s.here s.put ≤ 16384 ∧ (∀ k, ∀ g ∈ s.c.un k, ∀ e ∈ g, zA e)
structure EdP where
  pb : Nat
  pr : Nat
  pw : Nat
  pt : Nat
  pm : Nat
  ph : Nat
  bl : Nat
  pv : Value
  es : List fD
  u0 : Value
  u1 : Value
  u2 : Value
  u3 : Value
  u4 : Value
  u5 : Value
  u6 : Value
  u7 : Value
  u8 : Value
  u9 : Value
  ua : Value
def EdG (e : Nat) (s : aY) (M : Nat → HP) : HP := wR fun (x : EdP) => fact (oV s ∧ x.es.map fD.says = s.put) •
  dR e (.cells (.pointer (some ⟨x.pb, 0, none⟩) :: .pointer (some ⟨x.pr, 0, none⟩) :: .pointer (some ⟨x.pw, 0, none⟩) :: .map (some x.pm) :: .int .i64 s.c.mode :: .bool s.c.over :: .int .i64 s.c.last :: .int .i64 s.c.fr :: .int .i64 s.c.to :: .int .i64 s.c.res :: .bool s.c.run :: .pointer (some ⟨x.ph, 0, none⟩) :: .pointer (some ⟨x.bl, 0, none⟩) :: .bool s.given :: .bool s.minus :: .int .i64 s.arg :: .bool s.inn :: x.u0 :: x.u1 :: x.u2 :: x.u3 :: x.u4 :: x.u5 :: x.u6 :: x.u7 :: x.u8 :: x.u9 :: x.ua :: .int .i64 s.cls :: .bool s.killed :: .bool s.lW :: .bool s.argues :: .bool s.whole :: x.pv :: []).toArray 69 (0, 0)) •
  fF x.pb s.c.L s.c.pt s.c.mark • dL x.pr s.c.E s.c.at_ • dR x.pw (.cells #[.int .i64 s.c.place, .map (some x.pt)] 81 (0, 0)) • iI qH x.pt (qI s.c.tx) • M x.pm •
  gK x.ph s.hl s.base s.most • dR x.bl (.cells #[.int .i64 s.kE] 97 (0, 0)) • Row 124 3 x.pv s.put.length (x.es.flatMap fD.enc) • nC x.es • vH s.inn s.was [x.u0, x.u1, x.u2, x.u3, x.u4, x.u5, x.u6, x.u7, x.u8, x.u9, x.ua]
def eH (e : Nat) (s : aY) : HP := EdG e s fun pm => vW pm s.c.un
def abX (e : Nat) (s : aY) (p : Nat) : HP := EdG e s fun pm => J6 pm s.c.un s.c.place p
section
variable {w0 w : World} {F : HP} {e : Nat} {s : aY} {M : Nat → HP}
theorem V.edG (H : V w0 w (EdG e s M • F)) : ∃ pb pr pw pt pm ph bl pv es u0 u1 u2 u3 u4 u5 u6 u7 u8 u9 ua, oV s ∧ es.map fD.says = s.put ∧ es.length = s.put.length ∧ V w0 w (
  dR e (.cells (.pointer (some ⟨pb, 0, none⟩) :: .pointer (some ⟨pr, 0, none⟩) :: .pointer (some ⟨pw, 0, none⟩) :: .map (some pm) :: .int .i64 s.c.mode :: .bool s.c.over :: .int .i64 s.c.last :: .int .i64 s.c.fr :: .int .i64 s.c.to :: .int .i64 s.c.res :: .bool s.c.run :: .pointer (some ⟨ph, 0, none⟩) :: .pointer (some ⟨bl, 0, none⟩) :: .bool s.given :: .bool s.minus :: .int .i64 s.arg :: .bool s.inn :: u0 :: u1 :: u2 :: u3 :: u4 :: u5 :: u6 :: u7 :: u8 :: u9 :: ua :: .int .i64 s.cls :: .bool s.killed :: .bool s.lW :: .bool s.argues :: .bool s.whole :: pv :: []).toArray 69 (0, 0)) •
  fF pb s.c.L s.c.pt s.c.mark • dL pr s.c.E s.c.at_ • dR pw (.cells #[.int .i64 s.c.place, .map (some pt)] 81 (0, 0)) • iI qH pt (qI s.c.tx) • M pm •
  gK ph s.hl s.base s.most • dR bl (.cells #[.int .i64 s.kE] 97 (0, 0)) • Row 124 3 pv s.put.length (es.flatMap fD.enc) • nC es • vH s.inn s.was [u0, u1, u2, u3, u4, u5, u6, u7, u8, u9, ua] • F) := by
  obtain ⟨⟨pb, pr, pw, pt, pm, ph, bl, pv, es, u0, u1, u2, u3, u4, u5, u6, u7, u8, u9, ua⟩, H⟩ := H.qP
  obtain ⟨⟨h1, h2⟩, H⟩ := H.flat.fact
  refine ⟨pb, pr, pw, pt, pm, ph, bl, pv, es, u0, u1, u2, u3, u4, u5, u6, u7, u8, u9, ua, h1, h2, ?_, ?_⟩
  · rw [← h2]; simp
  · dsimp only at H
    exact H.of_eq (by simp only [dI])
theorem V.ZC {pb pr pw pt pm ph bl : Nat} {pv : Value} {es : List fD} {u0 u1 u2 u3 u4 u5 u6 u7 u8 u9 ua : Value} (h1 : oV s) (h2 : es.map fD.says = s.put) (H : V w0 w (
  dR e (.cells (.pointer (some ⟨pb, 0, none⟩) :: .pointer (some ⟨pr, 0, none⟩) :: .pointer (some ⟨pw, 0, none⟩) :: .map (some pm) :: .int .i64 s.c.mode :: .bool s.c.over :: .int .i64 s.c.last :: .int .i64 s.c.fr :: .int .i64 s.c.to :: .int .i64 s.c.res :: .bool s.c.run :: .pointer (some ⟨ph, 0, none⟩) :: .pointer (some ⟨bl, 0, none⟩) :: .bool s.given :: .bool s.minus :: .int .i64 s.arg :: .bool s.inn :: u0 :: u1 :: u2 :: u3 :: u4 :: u5 :: u6 :: u7 :: u8 :: u9 :: ua :: .int .i64 s.cls :: .bool s.killed :: .bool s.lW :: .bool s.argues :: .bool s.whole :: pv :: []).toArray 69 (0, 0)) •
  fF pb s.c.L s.c.pt s.c.mark • dL pr s.c.E s.c.at_ • dR pw (.cells #[.int .i64 s.c.place, .map (some pt)] 81 (0, 0)) • iI qH pt (qI s.c.tx) • M pm •
  gK ph s.hl s.base s.most • dR bl (.cells #[.int .i64 s.kE] 97 (0, 0)) • Row 124 3 pv s.put.length (es.flatMap fD.enc) • nC es • vH s.inn s.was [u0, u1, u2, u3, u4, u5, u6, u7, u8, u9, ua] • F)) : V w0 w (EdG e s M • F) :=
  V.jQ ⟨pb, pr, pw, pt, pm, ph, bl, pv, es, u0, u1, u2, u3, u4, u5, u6, u7, u8, u9, ua⟩ (V.deep (V.nH ⟨h1, h2⟩ (H.of_eq (by simp only [dI]))))
theorem V.eY {pb pr pw pt pm ph bl : Nat} {pv : Value} {es : List fD} {u0 u1 u2 u3 u4 u5 u6 u7 u8 u9 ua : Value} (h1 : oV s) (h2 : es.map fD.says = s.put) (H : V w0 w (
  dR e (.cells (.pointer (some ⟨pb, 0, none⟩) :: .pointer (some ⟨pr, 0, none⟩) :: .pointer (some ⟨pw, 0, none⟩) :: .map (some pm) :: .int .i64 s.c.mode :: .bool s.c.over :: .int .i64 s.c.last :: .int .i64 s.c.fr :: .int .i64 s.c.to :: .int .i64 s.c.res :: .bool s.c.run :: .pointer (some ⟨ph, 0, none⟩) :: .pointer (some ⟨bl, 0, none⟩) :: .bool s.given :: .bool s.minus :: .int .i64 s.arg :: .bool s.inn :: u0 :: u1 :: u2 :: u3 :: u4 :: u5 :: u6 :: u7 :: u8 :: u9 :: ua :: .int .i64 s.cls :: .bool s.killed :: .bool s.lW :: .bool s.argues :: .bool s.whole :: pv :: []).toArray 69 (0, 0)) •
  fF pb s.c.L s.c.pt s.c.mark • dL pr s.c.E s.c.at_ • dR pw (.cells #[.int .i64 s.c.place, .map (some pt)] 81 (0, 0)) • iI qH pt (qI s.c.tx) • vW pm s.c.un •
  gK ph s.hl s.base s.most • dR bl (.cells #[.int .i64 s.kE] 97 (0, 0)) • Row 124 3 pv s.put.length (es.flatMap fD.enc) • nC es • vH s.inn s.was [u0, u1, u2, u3, u4, u5, u6, u7, u8, u9, ua] • F)) : V w0 w (eH e s • F) := V.ZC (M := fun pm => vW pm s.c.un) h1 h2 H
theorem V.Dy (H : V w0 w (eH e s • F)) : ∃ pb pr pw pt pm ph bl pv es u0 u1 u2 u3 u4 u5 u6 u7 u8 u9 ua, oV s ∧ es.map fD.says = s.put ∧ es.length = s.put.length ∧ V w0 w (
  dR e (.cells (.pointer (some ⟨pb, 0, none⟩) :: .pointer (some ⟨pr, 0, none⟩) :: .pointer (some ⟨pw, 0, none⟩) :: .map (some pm) :: .int .i64 s.c.mode :: .bool s.c.over :: .int .i64 s.c.last :: .int .i64 s.c.fr :: .int .i64 s.c.to :: .int .i64 s.c.res :: .bool s.c.run :: .pointer (some ⟨ph, 0, none⟩) :: .pointer (some ⟨bl, 0, none⟩) :: .bool s.given :: .bool s.minus :: .int .i64 s.arg :: .bool s.inn :: u0 :: u1 :: u2 :: u3 :: u4 :: u5 :: u6 :: u7 :: u8 :: u9 :: ua :: .int .i64 s.cls :: .bool s.killed :: .bool s.lW :: .bool s.argues :: .bool s.whole :: pv :: []).toArray 69 (0, 0)) •
  fF pb s.c.L s.c.pt s.c.mark • dL pr s.c.E s.c.at_ • dR pw (.cells #[.int .i64 s.c.place, .map (some pt)] 81 (0, 0)) • iI qH pt (qI s.c.tx) • vW pm s.c.un •
  gK ph s.hl s.base s.most • dR bl (.cells #[.int .i64 s.kE] 97 (0, 0)) • Row 124 3 pv s.put.length (es.flatMap fD.enc) • nC es • vH s.inn s.was [u0, u1, u2, u3, u4, u5, u6, u7, u8, u9, ua] • F) := H.edG
end
end Go.Proofs.YtimndnfpcomhlaaGreatDoor
end
section
namespace Go.Proofs.YtimndnfpcomhlaaGreatDoor
open Go.RowKit
open _root_.Go.Proofs.Tryz
def N8 {β : Type} (f : Int → Option β) (S : List Int) : Int → Option β := fun k => if k ∈ S then f k else none
theorem Vz {β : Type} (f : Int → Option β) : N8 f [] = fun _ => none := by funext k; simp [N8]
theorem TA {β : Type} {f : Int → Option β} {S : List Int} {a : Int} {u : β} (h : f a = some u) : N8 f (S ++ [a]) = upd (N8 f S) a u := by
  funext k
  unfold N8 upd
  by_cases hk : k = a
  · subst hk; simp [h]
  · simp [hk]
theorem VA {β : Type} {f : Int → Option β} {S : List Int} (h : ∀ a u, f a = some u → a ∈ S) : N8 f S = f := by
  funext k
  unfold N8
  split
  · rfl
  · rename_i hk
    cases hf : f k with
    | none => rfl
    | some u => exact absurd (h k u hf) hk
theorem Rj (P : Int → Nat) : NZ [] P = fun _ => none := by funext k; simp [NZ]
theorem VB {D : List Int} {P : Int → Nat} {a : Int} {u : Value} (h : NZ D P a = some u) : a ∈ D ∧ u = .pointer (some ⟨P a, 0, none⟩) := by
  unfold NZ at h
  split at h
  · rename_i hm; exact ⟨hm, by cases h; rfl⟩
  · cases h
theorem N9 {S : List Int} {P : Int → Nat} {a : Int} {q : Nat} (h : a ∉ S) : NZ (S ++ [a]) (vF P a q) = upd (NZ S P) a (.pointer (some ⟨q, 0, none⟩)) := by
  funext k
  unfold NZ upd vF
  by_cases hk : k = a
  · subst hk; simp
  · simp [hk]
theorem Iq {P : Int → Nat} {U : Int → List (List gV)} {a : Int} : ∀ {S : List Int}, Fv P U (S ++ [a]) = (Fv P U S • iL (P a) (U a) [] 0)
  | [] => by show (iL (P a) (U a) [] 0 • emp) = (emp • iL (P a) (U a) [] 0); rw [wF, oh]
  | x :: S => by
    show (iL (P x) (U x) [] 0 • Fv P U (S ++ [a])) = ((iL (P x) (U x) [] 0 • Fv P U S) • iL (P a) (U a) [] 0)
    rw [Iq, dI]
theorem J7 {α : Type} {o : Option α} (h : ¬ o.isSome = true) : o = none := by cases o <;> simp_all
theorem Ir {S : List Int} {a : Int} (h : S.Nodup) (ha : a ∉ S) : (S ++ [a]).Nodup := by
  rw [List.nodup_append]
  exact ⟨h, by simp, by intro x hx y hy; rw [List.mem_singleton.1 hy]; rintro rfl; exact ha hx⟩
section
variable {w0 w : World} {F : HP} {pb pr pw pt pm : Nat} {c : pX}
theorem VD (H : V w0 w (fF pb c.L c.pt c.mark • dL pr c.E c.at_ • dR pw (.cells #[.int .i64 c.place, .map (some pt)] 81 (0, 0)) • iI qH pt (qI c.tx) • vW pm c.un • F)) :
  iU prog 18 #[.agg #[.pointer (some ⟨pb, 0, none⟩), .pointer (some ⟨pr, 0, none⟩), .pointer (some ⟨pw, 0, none⟩), .map (some pm), .int .i64 c.mode, .bool c.over, .int .i64 c.last, .int .i64 c.fr, .int .i64 c.to, .int .i64 c.res, .bool c.run]] w fun v w' =>
   ∃ qb qr qw qt qm, v = .agg #[.pointer (some ⟨qb, 0, none⟩), .pointer (some ⟨qr, 0, none⟩), .pointer (some ⟨qw, 0, none⟩), .map (some qm), .int .i64 c.mode, .bool c.over, .int .i64 c.last, .int .i64 c.fr, .int .i64 c.to, .int .i64 c.res, .bool c.run] ∧
    V w0 w' (fF qb c.L c.pt c.mark • dL qr c.E c.at_ • dR qw (.cells #[.int .i64 c.place, .map (some qt)] 81 (0, 0)) • iI qH qt (qI c.tx) • vW qm c.un •
     fF pb c.L c.pt c.mark • dL pr c.E c.at_ • dR pw (.cells #[.int .i64 c.place, .map (some pt)] 81 (0, 0)) • iI qH pt (qI c.tx) • vW pm c.un • F) := by
 refine ji func18 ntmps18 ?_
 refine jg (jL (jG (l := [_, _, _, _, _, _, _, _, _, _, _]) H O O) ?_)
 rintro _ w1 ⟨b1, rfl, H1⟩
 refine jL (fE (l := [_, _, _, _, _, _, _, _, _, _, _]) H1 mF O) ?_
 rintro _ w2 ⟨b2, rfl, H2⟩
 refine qj ?_
 have U6 := H2.drew
 have yL := V.kp (U6.f7.f7.f7.f7.f7.f7.f7)
 refine xP [1, 4] yL O (fV 0 O yL 0 aA O iD O (jq 1 O yL (fun W hW => jV dU O ((Kp.h hW).f2).get.2 O) (fV 3 O yL 1 aA O sizeOf61 O (jq 4 O yL (fun W hW => jV nT O ((Kp.h hW).f2).get.2 O) (mP 2 O (wu O func51 (Ji U6.f3)) ?_)))))
 rintro _ w3 ⟨q3, rfl, H3⟩
 have wG := V.kp (H3.f8.f8.f8.f8.f8.f8.f8.f8)
 refine dK wG (fun W hW => (Kp.h hW).right.f7.f7.f7.f7.f5.f7.f7) ?_
 refine fV 6 O wG 0 aA O iD O (mP 5 O (wu O func52 (wZ H3.f5)) ?_)
 rintro _ w4 ⟨pc4, rfl, H4⟩
 have kW := V.kp (H4.f9.f9.f9.f9.f9.f9.f9.f9.f9)
 refine iC kW (by kernel_rfl) ?_
 refine eF 7 O (by kernel_rfl) (fM 0 (l' := [_, _, _, _, _, _, _, _, _, _, _]) H4.f6 iD O O (by first | rfl | assumption) O O) ?_
 rintro _ w5 H5
 have Dc := V.kp (H5.f9.f9.f9.f9.f9.f9.f9.f9.f9)
 refine iC Dc (by kernel_rfl) ?_
 refine fV 8 O Dc 1 aA O sizeOf61 O ?_
 refine eF 9 O (by kernel_rfl) (fM 1 (l' := [_, _, _, _, _, _, _, _, _, _, _]) H5 sizeOf61 O O (by first | rfl | assumption) O O) ?_
 rintro _ w6 H6
 have yF := V.kp (H6.f9.f9.f9.f9.f9.f9.f9.f9.f9)
 refine iC yF (by kernel_rfl) ?_
 refine qp (bg (jg (bf 2 aA O kJ O (dQ iM O (H6).get.2 O (dM O (bf 0 dP O aj O (dQ ay O (H6.f7).get.2 O (jL (lT (BR .i64) H6) ?_))))))))
 rintro _ w7 ⟨b7, rfl, H7⟩
 refine aV (lQ (pl := #[(0, 1), (1, 1)]) (#[_, _]) dP zeroValue81 (fun w => by kernel_rfl) O (O)) (jL (jG (l := [_, _]) H7 O O) ?_)
 rintro _ w8 ⟨b8, rfl, H8⟩
 refine tJ O (jg (bf 2 aA O kJ O (dQ iM O (H8.f3).get.2 O (dM O (bf 1 dP O sizeOf79 O (dQ mJ O (H8.f9).get.2 O (jL (Fp H8.f10 mJ O) ?_)))))))
 rintro _ w9 ⟨it9, mi, rfl, H9⟩
 refine iT (bn ?_)
 obtain ⟨R10, ZE, ZF⟩ := V.JD (H9.f2.f3.f3)
 have HX0 := ZF
 rw [← Vz (qI c.tx)] at HX0
 refine iR [(1, _), (2, _), (3, _), (30, _)] (fun (⟨S, n⟩ : List Int × Nat) => []) (fun (⟨S, n⟩ : List Int × Nat) W => V w0 W (Eb qH pt it9 (qI c.tx) S n • iI qH b7 (N8 (qI c.tx) S) • dR b8 (.cells #[.int .i64 c.place, .map (some b7)] 81 (0, 0)) • R10)) (fun (⟨S, n⟩ : List Int × Nat) => n) (([], _)) SC (Sub.nil _) HX0 ?_
 rintro ⟨S, n⟩ I9 HL
 dsimp only [List.cons_append, List.nil_append]
 refine jg (jL (Io HL O) ?_)
 rintro _ w12 ⟨ox, Sx, mx, rfl, hNx, wz⟩
 refine aV (YF O) (qj (bI O (fun h1 => ?_) (fun h1 => ?_)))
 ·(try simp only [aH] at h1)
  obtain ⟨⟨a, u⟩, rfl⟩ := Option.isSome_iff_exists.1 h1
  obtain ⟨ha, hns, hlt, rfl⟩ := hNx
  refine iq (bn (jg ?_))
  refine aV (Ri (wz) (by assumption) O) ?_
  refine rO O O (rO O O (lU O (gY O (aC (ny O O (bf 1 dP O sizeOf79 O (dQ mJ O (wz.f3).get.2 O (mQ O O (aI (xG wz.f2 mJ ay O O O) ?_)))))))))
  rintro _ O8 yY
  refine bY (aN ?_)
  have hres := TA (S := S) ha
  refine fG ((S ++ [a], mx)) ?_ ?_ ?_ ?_
  ·exact (Sub.nil _)
  ·exact SC
  ·(try dsimp only)
   first | done | exact (by rw [hres]; exact yY.f3.f2.f3)
  ·(try dsimp only); omega
 ·(try simp only [aH] at h1)
  obtain rfl := J7 (o := ox) (by simp [h1])
  obtain ⟨rfl, rfl, hall⟩ := hNx
  refine iJ (aX ?_)
  have HX := wz.f3.f2.f3
  rw [VA hall] at HX
  have VE := HX.f2
  have VF := VE.J5
  subst ZE
  refine aX (dA (bg (bM O (bf 2 aA O kJ O (aI (fM 2 (l' := [_, _, _, _, _, _, _, _, _, _, _]) VF.f4 kJ O O (by first | rfl | assumption) O O) ?_)))))
  rintro _ w16 uO
  refine Xy (jL (lT (BR .i64) uO) ?_)
  rintro _ Xc ⟨b17, rfl, Dx⟩
  refine tJ O (aO ?_)
  obtain ⟨D, P, hD1, hD2, HU⟩ := (Dx.f12).Vx
  refine aC (bf 3 aA O sizeOf63 O (dQ lD O (HU.f4).get.2 O (jL (Fp HU lD O) ?_)))
  rintro _ Xd ⟨abY, mi, rfl, Es⟩
  refine iT (bn ?_)
  obtain ⟨R19, abZ, ab0⟩ := V.JD (Es.f3.f3.f3)
  have HX0 := ab0
  rw [← Rj P] at HX0
  refine iR [(1, _), (2, _), (6, _), (47, _)] (fun (⟨S, n, P2⟩ : List Int × Nat × (Int → Nat)) => []) (fun (⟨S, n, P2⟩ : List Int × Nat × (Int → Nat)) W => S.Nodup ∧ V w0 W (Eb qH pm abY (NZ D P) S n • Fv P c.un D • iI qH b17 (NZ S P2) • Fv P2 c.un S • R19)) (fun (⟨S, n, P2⟩ : List Int × Nat × (Int → Nat)) => n) (([], _, P)) SC (Sub.nil _) ⟨List.nodup_nil, (HX0).of_eq (by show _ = (_ • _ • _ • emp • _); rw [oh])⟩ ?_
  rintro ⟨S, n, P2⟩ XJ ⟨hS, HL⟩
  dsimp only [List.cons_append, List.nil_append]
  refine jg (jL (Io HL O) ?_)
  rintro _ XK ⟨ox, Sx, mx, rfl, hNx, sW⟩
  refine aV (YF O) (qj (bI O (fun h2 => ?_) (fun h2 => ?_)))
  ·(try simp only [aH] at h2)
   obtain ⟨⟨a, u⟩, rfl⟩ := Option.isSome_iff_exists.1 h2
   obtain ⟨ha, hns, hlt, rfl⟩ := hNx
   obtain ⟨hmem, rfl⟩ := VB ha
   have HF := sW.f2
   rw [sO hmem] at HF
   have HF2 := HF.flat
   refine iq (bn (jg ?_))
   refine aV (Ri (HF2.f3) (by assumption) O) ?_
   refine rO O O (rO O O (lU O (gY O (aC (mQ O O (cZ O (dZ O func53 (Ic HF2) ?_)))))))
   rintro _ w22 ⟨q22, rfl, Gi⟩
   refine aI (xG Gi.f5 lD ay O O O) ?_
   rintro _ UZ xu
   refine bY (aN ?_)
   have HQ := xu.f2.f6.f3.f5.f5.f6
   have hu1 : Fv (vF P2 a q22) c.un (S ++ [a]) = (Fv P2 c.un S • iL q22 (c.un a) [] 0) := by
    rw [Iq, gZ, BI (P' := P2) (U' := c.un) fun x hx => ⟨vG _ _ (by rintro rfl; exact hns hx), rfl⟩]
   refine fG ((S ++ [a], mx, vF P2 a q22)) ?_ ?_ ?_ ?_
   ·exact (Sub.nil _)
   ·exact SC
   ·(try dsimp only)
    first | done | exact ⟨Ir hS hns, HQ.of_eq (by rw [sO hmem, hu1, N9 hns]; ac_rfl)⟩
   ·(try dsimp only); omega
  ·(try simp only [aH] at h2)
   obtain rfl := J7 (o := ox) (by simp [h2])
   obtain ⟨rfl, rfl, hall⟩ := hNx
   refine iJ (aX ?_)
   have ab1 := sW
   have ab2 := ab1.J5
   subst abZ
   have ab3 := ab2.f2.f2
   have ab4 := V.BJ hD1 hD2 ab3
   have hnS : ∀ k, k ∉ Sx → c.un k = [] := fun k hk => hD2 k fun hkD => hk (hall k _ (if_pos hkD))
   have ab5 := ab4.f3.f3
   have ab6 := V.BJ hS hnS ab5
   refine aX (dA (bg (bM O (bf 3 aA O sizeOf63 O (aI (fM 3 (l' := [_, _, _, _, _, _, _, _, _, _, _]) ab6.f3 sizeOf63 O O (by first | rfl | assumption) O O) ?_)))))
   rintro _ w30 PK
   refine Xy (aV (dG aA O aJ O O (PK).get.2) (aI (dh 0 (l' := [_, _, _, _, _, _, _, _, _, _, _]) (us := [_, _, _, _, _, _, _, _, _, _, _]) PK.f11 aJ O O O (aF (aF (aF (aF (aF (aF (aF (aF (aF (aF (aF bK))))))))))) O O) ?_))
   rintro _ w31 KZ
   refine zkc ?_
   refine rW (.inl O) (Pv results18 O aA O (by rw [aaY]; rfl) (KZ).get.2) ?_
   exact ⟨_, _, _, _, _, O, KZ.right.right.f2.f3.f10.f8.f10.f6.f7.f8.f9.f10⟩
end
end Go.Proofs.YtimndnfpcomhlaaGreatDoor
end
