import Derived.Test.YtgmpclifphbjkaaGreatDoorZ2
import Derived.Test.YtgmpclifphbjkaaGreatDoorZ4
import Derived.Maps.RangeRun
import Derived.Test.YtgmpclifphbjkaaGreatDoorZ10
set_option linter.unusedSimpArgs false
set_option linter.unusedVariables false
/- Texts of mine, joined, their names in short: Map UGroups Ed. -/
section
namespace Go.Proofs.YtgmpclifphbjkaaGreatDoor
open Go.RowKit Go.MapKept
structure Key (α : Type) where
  mkKey ::
  d : TypeDesc
  mk : α → Value
  key : ∀ a, IsKey d (mk a)
  inj : ∀ a b, mk a = mk b → a = b
  onto : ∀ v, IsKey d v → ∃ a, mk a = v
def zf (k : IntKind) : Key Int := ⟨.int k, .int k, fun _ => rfl, fun _ _ h => by cases h; rfl, fun v h => by
  cases v <;> simp [IsKey] at h
  subst h
  exact ⟨_, rfl⟩⟩
abbrev mQ : Key Int := zf .i64
abbrev acf : Key Int := zf .i32
def acg : Key ByteArray := ⟨.string, .string, fun _ => trivial, fun _ _ h => by cases h; rfl, fun v h => by
  cases v <;> simp [IsKey] at h
  exact ⟨_, rfl⟩⟩
section
variable {α : Type} {K : Key α} {f : α → Option Value} {es : Array MapEntry} {clock : Nat}
def zu (K : Key α) (f : α → Option Value) (es : Array MapEntry) (clock : Nat) : Prop :=
  Stamped es clock ∧ (∀ x ∈ es.toList, IsKey K.d x.key) ∧ ∀ a v, f a = some v ↔ ∃ x ∈ es.toList, x.key = K.mk a ∧ x.val = v
def fF (K : Key α) (b : Nat) (f : α → Option Value) : HP := sS fun (x : Array MapEntry × Nat) => fact (zu K f x.1 x.2) • dA b (.map x.1 x.2)
def upd [DecidableEq α] {β : Type} (f : α → Option β) (a : α) (v : β) : α → Option β := fun x => if x = a then some v else f x
theorem zu.same (h : zu K f es clock) {x y : MapEntry} (hx : x ∈ es.toList) (hy : y ∈ es.toList) (e : x.key = y.key) : x = y := by
  have hn := h.1.2.2
  rw [List.Nodup, List.pairwise_map] at hn
  exact vV hn hx hy e
where
  vV : ∀ {l : List MapEntry}, l.Pairwise (fun x y => x.key ≠ y.key) → ∀ {x y : MapEntry}, x ∈ l → y ∈ l → x.key = y.key → x = y
    | [], _, _, _, hx, _, _ => by cases hx
    | z :: l, hp, x, y, hx, hy, e => by
      rw [List.pairwise_cons] at hp
      rcases List.mem_cons.1 hx with hx1 | hx1
      · rcases List.mem_cons.1 hy with hy1 | hy1
        · rw [hx1, hy1]
        · exact absurd (by rw [← hx1]; exact e) (hp.1 _ hy1)
      · rcases List.mem_cons.1 hy with hy1 | hy1
        · exact absurd (by rw [← hy1]; exact e.symm) (hp.1 _ hx1)
        · exact vV hp.2 hx1 hy1 e
theorem OO : ∀ {l : List MapEntry}, (l.map (·.born)).Nodup → ∀ {x y : MapEntry}, x ∈ l → y ∈ l → x.born = y.born → x = y
  | [], _, _, _, hx, _, _ => by cases hx
  | z :: l, hp, x, y, hx, hy, e => by
    rw [List.map_cons, List.nodup_cons] at hp
    rcases List.mem_cons.1 hx with hx1 | hx1
    · rcases List.mem_cons.1 hy with hy1 | hy1
      · rw [hx1, hy1]
      · exact absurd (List.mem_map.2 ⟨y, hy1, by rw [← hx1]; exact e.symm⟩) hp.1
    · rcases List.mem_cons.1 hy with hy1 | hy1
      · exact absurd (List.mem_map.2 ⟨x, hx1, by rw [← hy1]; exact e⟩) hp.1
      · exact OO hp.2 hx1 hy1 e
theorem zu.find (h : zu K f es clock) (a : α) : (Instr.findNow K.d (K.mk a) es.toList 0 = some none ∧ f a = none ∧ ∀ x ∈ es.toList, x.key ≠ K.mk a) ∨
    ∃ j e, Instr.findNow K.d (K.mk a) es.toList 0 = some (some (j, e.val)) ∧ es.toList[j]? = some e ∧ e.key = K.mk a ∧ f a = some e.val := by
  rcases findNow_spec (K.key a) es.toList 0 h.2.1 with ⟨h1, h2⟩ | ⟨j, e, h1, h2, h3⟩
  · refine .inl ⟨h1, ?_, h2⟩
    cases hf : f a with
    | none => rfl
    | some v =>
      obtain ⟨x, hx, hk, _⟩ := (h.2.2 a v).1 hf
      exact absurd hk (h2 x hx)
  · refine .inr ⟨j, e, by simpa using h1, h2, h3, (h.2.2 a e.val).2 ⟨e, List.mem_of_getElem? h2, h3, rfl⟩⟩
theorem KC (K : Key α) : zu K (fun _ => none) #[] 0 := ⟨stamped_empty 0, by simp, by simp⟩
end
section
variable {α : Type} {K : Key α} {f : α → Option Value} {es : Array MapEntry} {clock : Nat} {P : Program} {L : List (Nat × Value)} {w w0 : World} {ty : TypeId} {x y z : Operand} {F : HP} {b it n : Nat} {a : α} {S : List α}
theorem aB.map (H : aB w0 w (fF K b f • F)) : ∃ es clock, zu K f es clock ∧ aB w0 w (dA b (.map es clock) • F) := by
  obtain ⟨⟨es, clock⟩, H⟩ := H.oh
  obtain ⟨h, H⟩ := H.flat.fact
  exact ⟨es, clock, h, H⟩
theorem aB.Ji (h : zu K f es clock) (H : aB w0 w (dA b (.map es clock) • F)) : aB w0 w (fF K b f • F) := aB.iF (es, clock) (aB.deep (aB.kJ h H))
theorem KD {t kt et : TypeId} {zv : Value} (ok : Bool) (h : zu K f es clock) (hb : w.heap[b]? = some (.map es clock)) (ht : P.underlying t = some (.map kt et)) (hk : P.underlying kt = some K.d) (hz : (zeroValue et).run P w = .ok zv w) :
    (Instr.lookup t (.map (some b)) (K.mk a) ok).run P w = .ok (if ok then .tuple #[(f a).getD zv, .bool (f a).isSome] else (f a).getD zv) w := by
  rcases h.find a with ⟨h1, h2, _⟩ | ⟨j, e, h1, h2, h3, h4⟩
  · simp [Instr.lookup, run_underlying ht, MapKept.run_getObj_map hb, MapKept.run_checkKey hk (K.key a), MapKept.run_findKey hk h1, hz, Result.andThen, h2]
  · simp [Instr.lookup, run_underlying ht, MapKept.run_getObj_map hb, MapKept.run_checkKey hk (K.key a), MapKept.run_findKey hk h1, Result.andThen, h4]
theorem KE {t kt et : TypeId} {zv : Value} (H : aB w0 w (fF K b f • F)) (ht : P.underlying t = some (.map kt et)) (hk : P.underlying kt = some K.d) (hz : ∀ w, (zeroValue et).run P w = .ok zv w)
    (hx : ev L x = some (.map (some b))) (hy : ev L y = some (K.mk a)) : Val P L (.lookup t x y false) ty w ((f a).getD zv) w := fun ρ hρ _ _ _ _ => by
  obtain ⟨es, clock, h, H⟩ := H.map
  simp only [execOp, hρ _ _ hx, hρ _ _ hy, Sem.run_bind]
  rw [KD false h H.get.2 ht hk (hz w)]
  rfl
theorem KF {t kt et : TypeId} {zv : Value} (H : aB w0 w (fF K b f • F)) (ht : P.underlying t = some (.map kt et)) (hk : P.underlying kt = some K.d) (hz : ∀ w, (zeroValue et).run P w = .ok zv w)
    (hx : ev L x = some (.map (some b))) (hy : ev L y = some (K.mk a)) : Val P L (.lookup t x y true) ty w (.tuple #[(f a).getD zv, .bool (f a).isSome]) w := fun ρ hρ _ _ _ _ => by
  obtain ⟨es, clock, h, H⟩ := H.map
  simp only [execOp, hρ _ _ hx, hρ _ _ hy, Sem.run_bind]
  rw [KD true h H.get.2 ht hk (hz w)]
  rfl
theorem jw {t : TypeId} (K : Key α) (H : aB w0 w F) : tZ P L (.makeMap t none) ty w fun v w' => ∃ b, v = .map (some b) ∧ aB w0 w' (fF K b (fun _ => none) • F) := by
  refine pV (v := .map (some w.heap.size)) (w' := w.alloc (.map #[] 0)) ?_ ⟨_, rfl, aB.Ji (KC K) (H.alloc _)⟩
  intro ρ hρ d pos nG g
  simp only [execOp, Sem.run_bind, Option.map_none]
  rfl
theorem KG {o : Obj} {b : Nat} (h : w.heap[b]? = some o) (o' : Obj) : ({ w with heap := w.heap.setIfInBounds b o' } : World).heap[b]? = some o' ∧ ∀ k, k ≠ b → ({ w with heap := w.heap.setIfInBounds b o' } : World).heap[k]? = w.heap[k]? := by
  have hlt := lt_of_block h
  exact ⟨by simp [hlt], fun k hk => by simp [Ne.symm hk]⟩
theorem aB.setB {o : Obj} (H : aB w0 w (dA b o • F)) (o' : Obj) : aB w0 (ChangeMaps.setBlock w b o') (dA b o' • F) :=
  aB.turn (w := w) (w' := ChangeMaps.setBlock w b o') H rfl rfl rfl (by simp [ChangeMaps.setBlock]) (KG H.get.2 o').1 fun k hk _ => (KG H.get.2 o').2 k hk
theorem uq [DecidableEq α] {t kt et : TypeId} {v : Value} (H : aB w0 w (fF K b f • F)) (ht : P.underlying t = some (.map kt et)) (hk : P.underlying kt = some K.d)
    (hx : ev L x = some (.map (some b))) (hy : ev L y = some (K.mk a)) (hz : ev L z = some v) : tZ P L (.mapUpdate t x y z) ty w fun _ w' => aB w0 w' (fF K b (upd f a v) • F) := by
  obtain ⟨es, clock, h, H⟩ := H.map
  have hb := H.get.2
  rcases h.find a with ⟨h1, h2, h3⟩ | ⟨j, e, h1, h2, h3, h4⟩
  · have hrun : (Instr.mapUpdate t (.map (some b)) (K.mk a) v).run P w = .ok () (ChangeMaps.setBlock w b (.map (es.push { key := K.mk a, val := v, born := clock }) (clock + 1))) := by
      simp [ChangeMaps.setBlock, Instr.mapUpdate, run_underlying ht, MapKept.run_getObj_map hb, MapKept.run_checkKey hk (K.key a), MapKept.run_findKey hk h1, MapKept.run_setObj_map _ hb, Result.andThen]
    refine D6 (w' := ChangeMaps.setBlock w b (.map (es.push { key := K.mk a, val := v, born := clock }) (clock + 1))) (fun ρ hρ d pos nG g => ?_) (aB.Ji (es := es.push { key := K.mk a, val := v, born := clock }) (clock := clock + 1) ⟨stamped_push h.1 h3, ?_, ?_⟩ (H.setB _))
    · simp only [execOp, hρ _ _ hx, hρ _ _ hy, hρ _ _ hz, Sem.run_bind]
      rw [hrun]; rfl
    · intro q hq
      simp only [Array.toList_push, List.mem_append, List.mem_singleton] at hq
      rcases hq with hq | rfl
      · exact h.2.1 q hq
      · exact K.key a
    · intro c u
      simp only [Array.toList_push, List.mem_append, List.mem_singleton, upd]
      by_cases hc : c = a
      · subst hc
        rw [if_pos rfl]
        constructor
        · intro hu; cases hu; exact ⟨_, .inr rfl, rfl, rfl⟩
        · rintro ⟨q, hq | rfl, hqk, SX⟩
          · exact absurd hqk (h3 q hq)
          · rw [← SX]
      · rw [if_neg hc, h.2.2 c u]
        constructor
        · rintro ⟨q, hq, hqk, SX⟩; exact ⟨q, .inl hq, hqk, SX⟩
        · rintro ⟨q, hq | rfl, hqk, SX⟩
          · exact ⟨q, hq, hqk, SX⟩
          · exact absurd (K.inj _ _ hqk).symm hc
  · have hj : es[j]? = some e := by simpa using h2
    have hrun : (Instr.mapUpdate t (.map (some b)) (K.mk a) v).run P w = .ok () (ChangeMaps.setBlock w b (.map (es.modify j fun e => { e with key := K.mk a, val := v }) clock)) := by
      simp [ChangeMaps.setBlock, Instr.mapUpdate, run_underlying ht, MapKept.run_getObj_map hb, MapKept.run_checkKey hk (K.key a), MapKept.run_findKey hk h1, hj, h3, MapKept.run_keyThatStays (K.key a), MapKept.run_setObj_map _ hb, Result.andThen]
    have hkey : ∀ e', es[j]? = some e' → ({ e' with key := K.mk a, val := v } : MapEntry).key = e'.key := fun e' he' => by rw [hj] at he'; cases he'; exact h3.symm
    have hst : Stamped (es.modify j fun e => { e with key := K.mk a, val := v }) clock := stamped_modify h.1 _ _ (fun _ _ => rfl) (fun e' _ he' => hkey e' he')
    have hmem : ∀ q, q ∈ (es.modify j fun e => { e with key := K.mk a, val := v }).toList ↔ (q = { e with key := K.mk a, val := v } ∨ q ∈ es.toList ∧ q.key ≠ K.mk a) := by
      intro q
      have hee : e ∈ es.toList := List.mem_of_getElem? h2
      constructor
      · intro hq
        obtain ⟨i, hi⟩ := List.getElem?_of_mem hq
        rw [Array.getElem?_toList, Array.getElem?_modify] at hi
        by_cases hij : j = i
        · subst hij
          rw [if_pos rfl, hj] at hi
          exact .inl (by simpa using hi.symm)
        · rw [if_neg hij] at hi
          have hqm : q ∈ es.toList := Array.mem_toList_iff.2 (Array.mem_of_getElem? hi)
          refine .inr ⟨hqm, fun hqk => ?_⟩
          have he : q = e := h.same hqm hee (hqk.trans h3.symm)
          subst he
          have hn := h.1.2.1
          have h5 : (es.toList.map (·.born))[i]? = some q.born := by rw [List.getElem?_map, Array.getElem?_toList, hi]; rfl
          have h6 : (es.toList.map (·.born))[j]? = some q.born := by rw [List.getElem?_map, h2]; rfl
          have hlt : i < (es.toList.map (·.born)).length := (List.getElem?_eq_some_iff.1 h5).1
          have hlt2 : j < (es.toList.map (·.born)).length := (List.getElem?_eq_some_iff.1 h6).1
          exact hij ((List.getElem?_inj hlt2 hn).1 (h6.trans h5.symm))
      · rintro (rfl | ⟨hq, hqk⟩)
        · apply List.mem_of_getElem? (i := j)
          rw [Array.getElem?_toList, Array.getElem?_modify, if_pos rfl, hj]; rfl
        · obtain ⟨i, hi⟩ := List.getElem?_of_mem hq
          have hij : j ≠ i := by
            rintro rfl
            rw [h2] at hi; cases hi
            exact hqk h3
          apply List.mem_of_getElem? (i := i)
          rw [Array.getElem?_toList, Array.getElem?_modify, if_neg hij]
          rwa [Array.getElem?_toList] at hi
    refine D6 (w' := ChangeMaps.setBlock w b (.map (es.modify j fun e => { e with key := K.mk a, val := v }) clock)) (fun ρ hρ d pos nG g => ?_) (aB.Ji (es := es.modify j fun e => { e with key := K.mk a, val := v }) (clock := clock) ⟨hst, isKey_modify h.2.1 _ _ hkey, ?_⟩ (H.setB _))
    · simp only [execOp, hρ _ _ hx, hρ _ _ hy, hρ _ _ hz, Sem.run_bind]
      rw [hrun]; rfl
    · intro c u
      simp only [hmem, upd]
      by_cases hc : c = a
      · subst hc
        rw [if_pos rfl]
        constructor
        · intro hu; cases hu; exact ⟨_, .inl rfl, rfl, rfl⟩
        · rintro ⟨q, rfl | ⟨hq, hqn⟩, hqk, SX⟩
          · rw [← SX]
          · exact absurd hqk hqn
      · rw [if_neg hc, h.2.2 c u]
        constructor
        · rintro ⟨q, hq, hqk, SX⟩
          exact ⟨q, .inr ⟨hq, fun hqa => hc (K.inj _ _ (hqk.symm.trans hqa))⟩, hqk, SX⟩
        · rintro ⟨q, rfl | ⟨hq, hqn⟩, hqk, SX⟩
          · exact absurd (K.inj _ _ hqk).symm hc
          · exact ⟨q, hq, hqk, SX⟩
def XF (K : Key α) (f : α → Option Value) (es : Array MapEntry) (clock : Nat) (seen : Array Nat) (S : List α) (n : Nat) : Prop :=
  zu K f es clock ∧ (∃ xs : List MapEntry, (∀ x ∈ xs, x ∈ es.toList) ∧ seen.toList = xs.map (·.born) ∧ xs.map (·.key) = S.map K.mk) ∧ (leftOf es seen).size = n
def Bd (K : Key α) (b it : Nat) (f : α → Option Value) (S : List α) (n : Nat) : HP := sS fun (x : Array MapEntry × Nat × Array Nat) => fact (XF K f x.1 x.2.1 x.2.2 S n) • dA it (.mapIter (some b) x.2.1 x.2.2 x.2.1) • dA b (.map x.1 x.2.1)
theorem aB.SY (H : aB w0 w (Bd K b it f S n • F)) : ∃ es clock seen, XF K f es clock seen S n ∧ aB w0 w (dA it (.mapIter (some b) clock seen clock) • dA b (.map es clock) • F) := by
  obtain ⟨⟨es, clock, seen⟩, H⟩ := H.oh
  obtain ⟨h, H⟩ := H.flat.fact
  exact ⟨es, clock, seen, h, H.flat⟩
theorem aB.ET {seen : Array Nat} (h : XF K f es clock seen S n) (H : aB w0 w (dA it (.mapIter (some b) clock seen clock) • dA b (.map es clock) • F)) : aB w0 w (Bd K b it f S n • F) :=
  aB.iF (es, clock, seen) (aB.deep (aB.kJ h (H.of_eq (by ac_rfl))))
theorem aB.Hl (H : aB w0 w (Bd K b it f S n • F)) : aB w0 w (fF K b f • F) := by
  obtain ⟨es, clock, seen, h, H⟩ := H.SY
  exact aB.Ji h.1 H.right
theorem CX {t kt et : TypeId} (H : aB w0 w (fF K b f • F)) (ht : P.underlying t = some (.map kt et)) (hx : ev L x = some (.map (some b))) :
    tZ P L (.range t x) ty w fun v w' => ∃ it n, v = .pointer (some ⟨it, 0, none⟩) ∧ aB w0 w' (Bd K b it f [] n • F) := by
  obtain ⟨es, clock, h, H⟩ := H.map
  refine pV (v := .pointer (some ⟨w.heap.size, 0, none⟩)) (w' := w.alloc (.mapIter (some b) clock #[] clock)) ?_ ⟨_, _, rfl, aB.ET ⟨h, ⟨[], by simp, rfl, rfl⟩, rfl⟩ (H.alloc _)⟩
  intro ρ hρ d pos nG g
  simp only [execOp, hρ _ _ hx, Sem.run_bind]
  rw [run_range_map w t kt et b es clock ht H.get.2]
  rfl
def Zn (K : Key α) : Option (α × Value) → Value
  | some (a, u) => .tuple #[.bool true, K.mk a, u]
  | none => .tuple #[.bool false]
def aaF (f : α → Option Value) (S : List α) (n : Nat) (S' : List α) (n' : Nat) : Option (α × Value) → Prop
  | some (a, u) => f a = some u ∧ a ∉ S ∧ n' < n ∧ S' = S ++ [a]
  | none => S' = S ∧ n' = n ∧ ∀ a u, f a = some u → a ∈ S
theorem Vu {es : Array MapEntry} {seen : Array Nat} {e : MapEntry} (he : e ∈ (leftOf es seen).toList) : (leftOf es (seen.push e.born)).size < (leftOf es seen).size := by
  unfold leftOf at *
  rw [Array.toList_filter, List.mem_filter] at he
  have e1 : ∀ q : MapEntry → Bool, (es.filter q).size = (es.toList.filter q).length := fun q => by rw [← Array.toList_filter, Array.length_toList]
  rw [e1, e1]
  refine filter_lt _ _ (fun x hx => ?_) e he.2 ?_ es.toList he.1
  · simp only [Bool.not_eq_true', Array.contains_push, Bool.or_eq_false_iff] at hx ⊢
    exact hx.1
  · simp
theorem EU (H : aB w0 w (Bd K b it f S n • F)) (hx : ev L x = some (.pointer (some ⟨it, 0, none⟩))) :
    tZ P L (.next x false) ty w fun v w' => ∃ o S' n', v = Zn K o ∧ aaF f S n S' n' o ∧ aB w0 w' (Bd K b it f S' n' • F) := by
  obtain ⟨es, clock, seen, ⟨hm, ⟨xs, hxs, hse, hS⟩, hn⟩, H⟩ := H.SY
  have hr := H.get.2
  have hb := H.swap.get.2
  rcases run_next_at (P := P) w ty it b clock clock seen es clock hr hb hm.1.1 (Nat.le_refl _) with ⟨h0, hrun⟩ | ⟨e, he, w1, hw1, hrun⟩
  · refine pV (v := Zn K none) (w' := w) (fun ρ hρ d pos nG g => ?_) ⟨none, S, n, rfl, ⟨rfl, rfl, fun a u ha => ?_⟩, aB.ET ⟨hm, ⟨xs, hxs, hse, hS⟩, hn⟩ H⟩
    · simp only [execOp, hρ _ _ hx, Sem.run_bind]
      rw [hrun]; rfl
    · obtain ⟨y, hy, hyk, _⟩ := (hm.2.2 a u).1 ha
      have hys : seen.contains y.born = true := by
        cases hc : seen.contains y.born with
        | true => rfl
        | false =>
          have hyl : y ∈ (leftOf es seen).toList := by unfold leftOf; rw [Array.toList_filter, List.mem_filter]; exact ⟨hy, by rw [hc]; rfl⟩
          have := List.length_pos_of_mem hyl
          rw [Array.length_toList] at this
          omega
      have Zo : y.born ∈ seen.toList := by simpa using hys
      rw [hse] at Zo
      obtain ⟨q, hq, hqb⟩ := List.mem_map.1 Zo
      have hqy : q = y := OO hm.1.2.1 (hxs q hq) hy hqb
      subst hqy
      have : K.mk a ∈ S.map K.mk := by rw [← hS]; exact List.mem_map.2 ⟨q, hq, hyk⟩
      obtain ⟨c, hc, hce⟩ := List.mem_map.1 this
      rw [← K.inj _ _ hce]; exact hc
  · have hel : e ∈ es.toList ∧ seen.contains e.born = false := by
      have := he
      unfold leftOf at this
      rw [Array.toList_filter, List.mem_filter] at this
      exact ⟨this.1, by simpa using this.2⟩
    obtain ⟨a, ha⟩ := K.onto e.key (hm.2.1 e hel.1)
    have hfa : f a = some e.val := (hm.2.2 a e.val).2 ⟨e, hel.1, ha.symm, rfl⟩
    have hns : a ∉ S := fun hs => by
      have : K.mk a ∈ S.map K.mk := List.mem_map.2 ⟨a, hs, rfl⟩
      rw [← hS] at this
      obtain ⟨q, hq, hqk⟩ := List.mem_map.1 this
      have hqe : q = e := hm.same (hxs q hq) hel.1 (hqk.trans ha)
      subst hqe
      have h9 : q.born ∈ seen.toList := by rw [hse]; exact List.mem_map.2 ⟨q, hq, rfl⟩
      have h8 : seen.contains q.born = true := by simpa using h9
      rw [hel.2] at h8; cases h8
    have hval : Val P L (.next x false) ty w (Zn K (some (a, e.val))) (ChangeMaps.setBlock w1 it (.mapIter (some b) clock (seen.push e.born) clock)) := fun ρ hρ d pos nG g => by
      simp only [execOp, hρ _ _ hx, Sem.run_bind]
      rw [hrun]
      simp only [Zn, ha]
      rfl
    have hheap : w1.heap = w.heap := by rcases hw1 with rfl | rfl <;> rfl
    have hr1 : w1.heap[it]? = some (.mapIter (some b) clock seen clock) := by rw [hheap]; exact hr
    refine pV hval ⟨some (a, e.val), S ++ [a], (leftOf es (seen.push e.born)).size, rfl, ⟨hfa, hns, by rw [← hn]; exact Vu he, rfl⟩, aB.ET (seen := seen.push e.born) ⟨hm, ⟨xs ++ [e], ?_, ?_, ?_⟩, rfl⟩ (aB.setB (w := w1) (o := .mapIter (some b) clock seen clock) ?_ _)⟩
    · intro q hq
      rcases List.mem_append.1 hq with hq | hq
      · exact hxs q hq
      · rw [List.mem_singleton.1 hq]; exact hel.1
    · rw [Array.toList_push, hse, List.map_append]; rfl
    · rw [List.map_append, List.map_append, hS]; simp [ha]
    · rcases hw1 with rfl | rfl
      · exact H
      · exact H.drew
theorem Wq {o : Option (α × Value)} (hx : ev L x = some (Zn K o)) : Val P L (.extract x 0) ty w (.bool o.isSome) w := by
  cases o with
  | none => exact BJ hx rfl
  | some p => obtain ⟨a, u⟩ := p; exact BJ hx rfl
theorem OQ {u : Value} (H : aB w0 w (Bd K b it f (S ++ [a]) n • F)) (hf : f a = some u) (hx : ev L x = some (.pointer (some ⟨it, 0, none⟩))) : Val P L (.entry x) ty w (.tuple #[K.mk a, u]) w := by
  obtain ⟨es, clock, seen, ⟨hm, ⟨xs, hxs, hse, hS⟩, hn⟩, H⟩ := H.SY
  intro ρ hρ d pos nG g
  have hne : xs ≠ [] := by
    rintro rfl
    have := congrArg List.length hS
    simp at this
  obtain ⟨ys, e, rfl⟩ : ∃ ys e, xs = ys ++ [e] := ⟨xs.dropLast, xs.getLast hne, (List.dropLast_concat_getLast hne).symm⟩
  have he : e ∈ es.toList := hxs e (by simp)
  have hk : e.key = K.mk a := by
    rw [List.map_append, List.map_append] at hS
    have := List.append_inj_right' hS rfl
    simpa using this
  have hv : e.val = u := by
    have h9 := (hm.2.2 a e.val).2 ⟨e, he, hk, rfl⟩
    rw [hf] at h9; cases h9; rfl
  have hsp : seen = (ys.map (·.born)).toArray.push e.born := by
    apply Array.ext'
    rw [hse]; simp
  have hr := H.get.2
  rw [hsp] at hr
  simp only [execOp, hρ _ _ hx, Sem.run_bind]
  rw [run_entry_at w it b clock _ es clock e hr H.swap.get.2 he hm.1.2.1, hk, hv]
  rfl
end
end Go.Proofs.YtgmpclifphbjkaaGreatDoor
end
section
namespace Go.Proofs.YtgmpclifphbjkaaGreatDoor
open Go.RowKit
open _root_.Go.Proofs.Tryz
def zx (c : Nat) (G : List (List eH)) (N : List eH) (k : Nat) : HP := sS fun (x : Value × List (Value × List dH)) => fact (x.2.map (fun g => g.2.map dH.says) = Jg N ++ G.reverse.take k) • dA c (.cells #[x.1] 167 (0, 0)) • AV x.1 x.2
theorem rev_succ {G : List (List eH)} {k : Nat} (hk : k < G.length) : G.reverse.take (k + 1) = G.reverse.take k ++ [G.getD (G.length - (k + 1)) []] := by
  rw [List.take_succ_eq_append_getElem (by simpa using hk)]
  congr 1
  rw [List.getElem_reverse, List.getD_eq_getElem?_getD, List.getElem?_eq_getElem (by omega)]
  have e : G.length - 1 - k = G.length - (k + 1) := by omega
  simp only [Option.getD_some, e]
section
variable {w0 w : World} {F : HP} {p c k : Nat} {G : List (List eH)} {N : List eH} {op : Int} {v u : Value} {es fs : List dH} {gs hs : List (Value × List dH)}
theorem aB.KH (H : aB w0 w (zx c G N k • F)) : ∃ u hs, hs.map (fun g => g.2.map dH.says) = Jg N ++ G.reverse.take k ∧ hs.length ≤ G.length + 1 ∧ aB w0 w (dA c (.cells #[u] 167 (0, 0)) • Row 64 1 u hs.length (hs.map (·.1)) • pJ hs • F) := by
  obtain ⟨⟨u, hs⟩, H⟩ := H.oh
  obtain ⟨h, H⟩ := H.flat.fact
  refine ⟨u, hs, h, ?_, (H.flat.swap.Xn).f3⟩
  have := congrArg List.length h
  have := SS N
  simp only [List.length_map, List.length_append, List.length_take, List.length_reverse] at *
  omega
theorem aB.EW (h : hs.map (fun g => g.2.map dH.says) = Jg N ++ G.reverse.take k) (H : aB w0 w (dA c (.cells #[u] 167 (0, 0)) • AV u hs • F)) : aB w0 w (zx c G N k • F) :=
  aB.iF (u, hs) (aB.deep (aB.kJ h H.deep))
theorem Qk (H : aB w0 w F) (hv : v.oneCell' = true) : fQ prog 168 #[v] w fun v' w' => ∃ b, v' = .func (.func 195) #[] #[.pointer (some ⟨b, 0, none⟩)] ∧ aB w0 w' (dA b (.cells #[v] 167 (0, 0)) • F) := by
 refine gX func168 ntmps168 ?_
 dsimp only [bg, Nat.reduceAdd]
 refine ay (ah (iy (iq (l := [_]) H rfl (by first | rfl | exact BM (by first | rfl | assumption))) ?_))
 rintro _ w1 ⟨b1, rfl, H1⟩
 refine aV rfl (aA (aj (ay (ah (aU (zH rfl rfl) (aV rfl (aA (aj (aJ (aP (.inl rfl) results168 rfl ?_))))))))))
 exact ⟨_, rfl, H1⟩
theorem ND (b : Nat) : Iter prog w0 (.func (.func 195) #[] #[.pointer (some ⟨b, 0, none⟩)]) (dA b (.cells #[v] 167 (0, 0)) • Row 64 1 v gs.length (gs.map (·.1)) • pJ gs) gs.length
  (fun k vs A => ∃ gl wI, gs.getD (gs.length - (k + 1)) default = (gl, wI) ∧ vs = [.int .i64 ((gs.length - (k + 1) : Nat) : Int), gl] ∧ A = BG gl wI) := by
 intro l J X w hy H
 refine ⟨195, [], [.pointer (some ⟨b, 0, none⟩)], _, _, rfl, func195, rfl, rfl, ?_⟩
 have H1 : aB w0 w (dA b (.cells #[v] 167 (0, 0)) • Row 64 1 v gs.length (gs.map (·.1)) • pJ gs • J 0) := H.of_eq (by ac_rfl)
 obtain ⟨a, c, hv, hc1, hc2, _⟩ := (H1.swap.aT).form
 subst hv
 simp only [List.nil_append, List.cons_append]
 refine gX func195 ntmps195 ?_
 dsimp only [bg, Nat.reduceAdd]
 refine ay (ah (cO underlying167 rfl (H1).get.2 rfl (aU (fB ((H1.f2).aT) underlying167 rfl) (aU (jB rfl rfl (by omega)) (aV rfl (aA (aj (bf ?_))))))))
 refine fM [(0, _), (1, _)] (fun (k : Nat) => [(3, .int .i64 ((k : Int) - 1))]) (fun (k : Nat) W => k ≤ gs.length ∧ aB w0 W (dA b (.cells #[.slice a gs.length c] 167 (0, 0)) • Row 64 1 (.slice a gs.length c) gs.length (gs.map (·.1)) • pJ gs • J (gs.length - k))) (fun (k : Nat) => k) (gs.length) (Sub.cons rfl (Sub.cons rfl (Sub.nil _))) (Sub.cons rfl (Sub.nil _)) ⟨by omega, by rw [Nat.sub_self]; exact H1⟩ ?_
 rintro k w1 ⟨hk, HL⟩
 dsimp only [List.cons_append, List.nil_append]
 refine ay (ay (ah (aO rfl (aU (D7 rfl rfl) (aA (aj (aH rfl (fun h1 => ?_) (fun h1 => ?_))))))))
 ·(try simp only [aG] at h1)
  try (exfalso; first | contradiction | omega)
  all_goals
   refine aS (aj (ay (bf (ay ?_))))
   obtain ⟨m, rfl⟩ : ∃ m, k = m + 1 := ⟨k - 1, by omega⟩
   rw [show (((m + 1 : Nat) : Int) - 1) = (m : Int) from by omega]
   have hkl : m < gs.length := by omega
   refine ah (aO rfl (aO rfl (cO underlying167 rfl (HL).get.2 rfl (aO rfl ?_))))
   obtain ⟨bv, ov, cv, ev⟩ := Rd.rG ((HL.f2).aT) (by omega)
   cases ev
   refine aU (eF underlying167 sizeOf64 rfl rfl (by omega)) ?_
   refine aU (iC (dM underlying64 rfl) rfl (by first | exact Rd.Ee ((HL.f2).aT) (by omega) | exact Rd.U9 ((HL.f2).aT) (by omega) | exact Rd.UM ((HL.f2).aT) (by omega))) ?_
   rw [show (gs.map (·.1)).getD m undef = (gs.getD m default).1 from by simp [List.getD_eq_getElem?_getD, hkl]]
   obtain ⟨gl, wI, hg⟩ : ∃ gl wI, gs.getD m default = (gl, wI) := ⟨_, _, rfl⟩
   rw [hg]
   have Ho2 := HL.f3
   have Hc3 := Ho2.Je hkl hg
   refine iy (Jc rfl rfl (hy (gs.length - (m + 1)) (by omega) _ _ ⟨gl, wI, by rw [show gs.length - (gs.length - (m + 1) + 1) = m from by omega]; exact hg, by rw [show gs.length - (gs.length - (m + 1) + 1) = m from by omega], rfl⟩ (pJ gs • Row 64 1 (.slice (some ⟨bv, ov, none⟩) gs.length c) gs.length (gs.map (·.1)) • dA b (.cells #[.slice (some ⟨bv, ov, none⟩) gs.length c] 167 (0, 0))) _ (Hc3.of_eq (by ac_rfl))).bool) ?_
   rintro _ w4 ⟨t, rfl, ht1, ht2⟩
   refine aU (kM rfl) (aA (aj (aH rfl (fun h2 => ?_) (fun h2 => ?_))))
   ·(try simp only [aG] at h2)
    try (exfalso; first | contradiction | omega)
    all_goals
     have HX := ht2 (by simpa using h2)
     refine aJ (aW (aK (aK (aW (dN (.inl rfl) results195 ?_)))))
     exact .inr (HX.of_eq (by ac_rfl))
   ·(try simp only [aG] at h2)
    try (exfalso; first | contradiction | omega)
    all_goals
     have HN : aB w0 w4 (dA b (.cells #[.slice (some ⟨bv, ov, none⟩) gs.length c] 167 (0, 0)) • Row 64 1 (.slice (some ⟨bv, ov, none⟩) gs.length c) gs.length (gs.map (·.1)) • pJ gs • J (gs.length - m)) := by
      have h9 := ht1 (by simpa using h2)
      rw [show gs.length - (m + 1) + 1 = gs.length - m from by omega] at h9
      exact h9.of_eq (by ac_rfl)
     refine aS (aQ (aj (ah (aO rfl (aU (jB rfl rfl (by omega)) (aV rfl (aA ?_)))))))
     refine dK (m) ?_ ?_ ?_ ?_
     ·exact (Sub.cons rfl (Sub.nil _))
     ·exact (Sub.cons rfl (Sub.cons rfl (Sub.nil _)))
     ·(try dsimp only)
      first | done | exact ⟨by omega, HN.f3.f3.f3⟩
     ·(try dsimp only); omega
 ·(try simp only [aG] at h1)
  try (exfalso; first | contradiction | omega)
  all_goals
   refine fG (aX (aX (bM (dN (.inr rfl) results195 ?_))))
   obtain rfl : k = 0 := by omega
   rw [Nat.sub_zero] at HL
   exact .inl (HL.of_eq (by ac_rfl))
theorem Dx (H : aB w0 w (fH p G N op • F)) : fQ prog 120 #[.pointer (some ⟨p, 0, none⟩)] w fun v w' => ∃ c, v = .func (.func 169) #[] #[.pointer (some ⟨c, 0, none⟩)] ∧ aB w0 w' (zx c G N G.length • fH p G N op • F) := by
 refine gX func120 ntmps120 ?_
 dsimp only [bg, Nat.reduceAdd]
 refine ay (ah (aV rfl (aA (aj (ay (ah (iy (dI (l := [_]) H zeroValue167 rfl) ?_)))))))
 rintro _ w1 ⟨b1, rfl, H1⟩
 refine aA (aj (ay (ay (ah (aO rfl (dw rfl func127 (ji H1.f2) ?_))))))
 rintro _ _ ⟨rfl, rfl⟩
 refine aU (kM rfl) ?_
 obtain ⟨xI, uO, kF, jJ, jl, qp, oO, BU, BX, Gm, lX⟩ := (H1.f2).rW
 have hLn : jJ.length ≤ 16384 := by omega
 have hBn := KA oO jl.2.2.2.2.2
 refine aA (aj (aH rfl (fun h1 => ?_) (fun h => by exfalso; (try simp only [aG] at h); simp at h)))
 (try simp only [aG] at h1)
 refine Am [(0, _), (3, _)] (fun (_ : Unit) => []) (fun (_ : Unit) W => aB w0 W (zx b1 G N 0 • dA p (.cells #[xI, uO, .int .i64 op, .int .i64 (dX G N : Nat), .bool true] 171 (0, 0)) • Row 64 1 xI kF.length (kF.map (·.1)) • pJ kF • Row 120 3 uO jJ.length (jJ.flatMap dH.enc) • jT jJ • F)) (Sub.cons rfl (Sub.cons rfl (Sub.nil _))) ?_ ?_
 ·rintro _ w4 HJ
  dsimp only [List.cons_append, List.nil_append]
  refine ay (ah (aO rfl (bH rfl (aZ 0 underlying171 rfl sizeOf169 rfl (aZ 0 underlying169 rfl sizeOf167 rfl (cO underlying167 rfl (HJ.f2).get.2 rfl (dw rfl func168 (Qk HJ (Rd.one ((HJ.f3).aT))) ?_)))))))
  rintro _ w5 ⟨bB5, rfl, H5⟩
  refine aA (aj (bf ?_))
  obtain ⟨R6, hR6, HR6⟩ := aB.VX (H5.f5.f5.f3.f4)
  refine wH rfl (ND bB5) (fun k => zx b1 G N k • R6) (fact False) (fun _ => fact False) (HR6.f4.f4.f4.f4.f4.f4.f4.g3.comm) (by rfl) ?_ ?_ ?_ ?_
  ·rintro l7 k Xt vs7 A7 ⟨gl, wI, hg, rfl, rfl⟩ G7 w7 H7
   try simp only [bV, kH, rZ] at H7
   refine ⟨rfl, ?_⟩
   dsimp only [Ns]
   obtain ⟨u, hs, Qj, hhl, HI⟩ := (H7.f2).KH
   have hge : wI.map dH.says = G.getD (G.length - (k + 1)) [] := by
    rw [← BU, ← qp]
    have h9 : (kF.map (fun g => g.2.map dH.says)).getD (kF.length - (k + 1)) [] = (kF.getD (kF.length - (k + 1)) default).2.map dH.says := by simp [List.getD_eq_getElem?_getD, show kF.length - (k + 1) < kF.length by omega]
    rw [h9, hg]
   have hgm : G.getD (G.length - (k + 1)) [] ∈ G := vM (by omega)
   have hBg := KA hge (jl.2.2.2.2.1 _ hgm)
   have Zj : wI.length ≤ 16384 := by
    have h8 := jl.2.1
    unfold dX at h8
    have h7 := congrArg List.length hge
    rw [List.length_map] at h7
    have h6 := Jf hgm
    omega
   refine ah (aV rfl (aA ?_))
   refine Nr (HI.g5) ?_
   intro G8 w8 H8
   try simp only [bV] at H8
   refine bf ?_
   have Zp := H8.drew
   have S9 := aB.kp (Zp.f4.f4.f4.f4)
   refine uH [0] S9 rfl (gQ 0 rfl S9 (fun W hW => iI underlying167 rfl ((Kp.h hW)).get.2 rfl) (fU 1 rfl S9 rfl (jH 2 rfl (rU rfl func164 (uQ Zp.f4 hBg Zj)) ?_)))
   rintro u9 w9 ⟨fs9, aaG, H9⟩
   obtain ⟨es2, rfl⟩ : ∃ q, q = fs9 := ⟨_, rfl⟩
   have hes2 := aaG
   have Sv := aB.kp (H9.f6.f6.f6.f6.f6.f6)
   refine bW Sv (fun W hW => (Kp.h hW).right.right.f4.f4.f4) ?_
   refine jH 3 rfl (lQ (vs := [_]) H9 underlying167 sizeOf64 zeroValue64 rfl rfl rfl (by decide) (aC (by first | rfl | exact Rd.one ((H9).aT)) bn)) ?_
   rintro l10 w10 oP
   have SN := aB.kp (oP.f7.f7.f7.f7.f7.f7.f7)
   refine bW SN (fun W hW => (Kp.h hW).right.f6.f6.f6.f6.f6.f6) ?_
   refine jH 4 rfl (fK oP.f6 underlying167 (show (prog.info? 64).map (fun i => (i.zero, i.size, i.bytes)) = some (some (.slice none 0 0), 1, 24) by kernel_rfl) rfl rfl rfl ((oP).aT) (aC (by first | rfl | exact Rd.one ((oP.f2).aT)) bn) (by omega) (by omega)) ?_
   rintro l11 FT uV
   have Gn := uV.f2.right
   have ED := aB.kp (Gn.f6.f6.f6.f6.f6.f6)
   refine fA ED (by kernel_rfl) ?_
   refine dB 5 rfl (by kernel_rfl) (aN 0 (l' := [_]) Gn.f5 sizeOf167 rfl rfl (by first | rfl | exact Rd.one ((Gn).aT)) rfl rfl) ?_
   rintro _ MB vZ
   have EF := aB.kp (vZ.f6.f6.f6.f6.f6.f6)
   refine fA EF (by kernel_rfl) ?_
   refine mg (aQ ?_)
   refine EH ?_
   have X := aB.tH (es := es2) (vZ.f5.right.f5.f3.f5.f5).deep
   exact (aB.EW (hs := hs ++ [(u9, es2)]) (by rw [List.map_append, Qj, rev_succ (by omega), ← hge, ← hes2, List.append_assoc]; rfl) (aB.vS X.swap).swap).deep
  ·rintro D14 JE uX
   have J8 := uX.ed
   try simp only [bV, kH, rZ] at J8
   have Xu := J8.Ol
   subst hR6
   refine aQ (aj (ay (ah (aU (zH rfl rfl) (aV rfl (aA (aj (aJ ?_))))))))
   refine DJ (.inl rfl) (Xu) (fun P8 yQ => ?_)
   refine ⟨_, WY results120 rfl, ?_⟩
   have hgl : zx b1 G N kF.length = zx b1 G N G.length := by rw [BU]
   rw [hgl] at yQ
   have aaH := yQ.f7.f7.f5.f5.f7
   have aaI := aB.jV jl qp oO rfl aaH
   exact ⟨_, rfl, aaI.f2.right.f2⟩
  ·rintro D w H; exact absurd H.swap.fact.1 id
  ·rintro id D w H; exact absurd H.swap.fact.1 fun h => h
 ·skip
  refine ay (ah (aO rfl (bH rfl (aZ 0 underlying171 rfl sizeOf169 rfl (aZ 1 underlying169 rfl sizeOf64 rfl (cO underlying64 rfl (lX).get.2 rfl (aU (fB ((lX.f4).aT) underlying64 rfl) (aU (dQ rfl rfl) (aA (aj (aH rfl (fun h2 => ?_) (fun h2 => ?_))))))))))))
  ·(try simp only [aG] at h2)
   have hN : Jg N = [N] := if_neg (by rintro rfl; exact absurd BX (by simp only [List.length_nil]; omega))
   have Ws := lX.drew
   have zW := aB.kp (Ws.f6.f6.f6.f6.f6.f6)
   refine uH [0, 5] zW rfl (gQ 0 rfl zW (fun W hW => iI underlying167 rfl ((Kp.h hW).f6).get.2 rfl) (fU 1 rfl zW rfl (iT 2 rfl zW rfl (dP 3 rfl zW 0 underlying171 rfl sizeOf169 rfl (dP 4 rfl zW 1 underlying169 rfl sizeOf64 rfl (gQ 5 rfl zW (fun W hW => iI underlying64 rfl ((Kp.h hW)).get.2 rfl) (jH 6 rfl (rU rfl func164 (yw Ws.f5.f5 hBn hLn)) ?_)))))))
   rintro u19 UQ ⟨aaJ, Zq, xk⟩
   obtain ⟨es1, rfl⟩ : ∃ q, q = aaJ := ⟨_, rfl⟩
   have hes1 := Zq
   have KI := aB.kp (xk.f8.f8.f8.f8.f8.f8.f8.f8)
   refine bW KI (fun W hW => (Kp.h hW).right.right.f6.f3.f3.f6.f6.f6) ?_
   refine jH 7 rfl (lQ (vs := [_]) xk underlying167 sizeOf64 zeroValue64 rfl rfl rfl (by decide) (aC (by first | rfl | exact Rd.one ((xk).aT)) bn)) ?_
   rintro l20 Vh yR
   have Bf := aB.kp (yR.f9.f9.f9.f9.f9.f9.f9.f9.f9)
   refine bW Bf (fun W hW => (Kp.h hW).right.f8.f8.f8.f8.f8.f8.f8.f8) ?_
   refine jH 8 rfl (fK (yR.fZ none) underlying167 (show (prog.info? 64).map (fun i => (i.zero, i.size, i.bytes)) = some (some (.slice none 0 0), 1, 24) by kernel_rfl) rfl rfl rfl ((yR).aT) (aC (by first | rfl | exact Rd.one ((yR.f2).aT)) bn) (by omega) (by omega)) ?_
   rintro l21 Vj oQ
   have Jj := oQ.f2.right
   have Bg := aB.kp (Jj.f9.f9.f9.f9.f9.f9.f9.f9.f9)
   refine fA Bg (by kernel_rfl) ?_
   refine dB 9 rfl (by kernel_rfl) (aN 0 (l' := [_]) Jj.f9 sizeOf167 rfl rfl (by first | rfl | exact Rd.one ((Jj).aT)) rfl rfl) ?_
   rintro _ RJ tY
   have CY := aB.kp (tY.f9.f9.f9.f9.f9.f9.f9.f9.f9)
   refine fA CY (by kernel_rfl) ?_
   have X := aB.tH (es := es1) (tY.f6.f6.f9.f9.f9.f6.f7.f9.f9).deep
   have hJn : aB w0 RJ (zx b1 G N 0 • dA p (.cells #[xI, uO, .int .i64 op, .int .i64 (dX G N : Nat), .bool true] 171 (0, 0)) • Row 64 1 xI kF.length (kF.map (·.1)) • pJ kF • Row 120 3 uO jJ.length (jJ.flatMap dH.enc) • jT jJ • F) :=
    aB.EW (hs := [(u19, es1)]) (by rw [hN, ← oO, ← hes1]; rfl) (aB.vS (gs := []) X.J9.f3.f3.f2).swap
   refine mg ?_
   refine jW (()) ?_ ?_ ?_
   ·exact (Sub.nil _)
   ·exact (Sub.cons rfl (Sub.cons rfl (Sub.nil _)))
   ·(try dsimp only)
    first | done | exact hJn
  ·(try simp only [aG] at h2)
   have hN : Jg N = [] := if_pos (by rw [← oO, List.eq_nil_of_length_eq_zero (show jJ.length = 0 by omega)]; rfl)
   have hJn : aB w0 w1 (zx b1 G N 0 • dA p (.cells #[xI, uO, .int .i64 op, .int .i64 (dX G N : Nat), .bool true] 171 (0, 0)) • Row 64 1 xI kF.length (kF.map (·.1)) • pJ kF • Row 120 3 uO jJ.length (jJ.flatMap dH.enc) • jT jJ • F) :=
    aB.EW (hs := []) (by rw [hN]; rfl) ((lX.f5.f5.f5.f5.f5.f6).AX none).swap
   refine aS ?_
   refine jW (()) ?_ ?_ ?_
   ·exact (Sub.nil _)
   ·exact (Sub.cons rfl (Sub.cons rfl (Sub.nil _)))
   ·(try dsimp only)
    first | done | exact hJn
theorem KJ (c : Nat) (hB : ∀ g ∈ zV G N, ∀ e ∈ g, EB e) (hL : ∀ g ∈ zV G N, g.length ≤ 16384) : Iter prog w0 (.func (.func 169) #[] #[.pointer (some ⟨c, 0, none⟩)]) (zx c G N G.length) (zV G N).length
  (fun k vs A => ∃ u, ∃ fs : List dH, fs.map dH.says = (zV G N).getD k [] ∧ vs = [u] ∧ A = Gl u fs) := by
 intro l J X w hy H
 refine ⟨169, [], [.pointer (some ⟨c, 0, none⟩)], _, _, rfl, func169, rfl, rfl, ?_⟩
 obtain ⟨v, hs, Qj, hhl, H1⟩ := H.comm.KH
 have Zr := Qj
 rw [List.take_of_length_le (by simp), ← Vp] at Qj
 have hlen : hs.length = (zV G N).length := by have := congrArg List.length Qj; simpa using this
 obtain ⟨a, d, hv, hc1, hc2, _⟩ := (H1.swap.aT).form
 subst hv
 simp only [List.nil_append, List.cons_append]
 refine gX func169 ntmps169 ?_
 dsimp only [bg, Nat.reduceAdd]
 refine ay (ah (cO underlying167 rfl (H1).get.2 rfl (aU (fB ((H1.f2).aT) underlying167 rfl) (aO rfl (aA (aj (bf ?_)))))))
 refine fM [(0, _), (5, _), (6, _)] (fun (k : Nat) => [(7, .int .i64 (k : Int))]) (fun (k : Nat) W => k ≤ hs.length ∧ aB w0 W (dA c (.cells #[.slice a hs.length d] 167 (0, 0)) • Row 64 1 (.slice a hs.length d) hs.length (hs.map (·.1)) • pJ hs • J k)) (fun (k : Nat) => hs.length - k) (0) (Sub.cons rfl (Sub.cons rfl (Sub.cons rfl (Sub.nil _)))) (Sub.cons rfl (Sub.nil _)) ⟨by omega, H1⟩ ?_
 rintro k w1 ⟨hk, HL⟩
 dsimp only [List.cons_append, List.nil_append]
 refine ay (ah (aU (dL rfl rfl) (aA (aj (ay (aH rfl (fun h1 => ?_) (fun h1 => ?_)))))))
 ·(try simp only [aG] at h1)
  try (exfalso; first | contradiction | omega)
  all_goals
   refine aS (aj (ay (bf (ay (ah ?_)))))
   obtain ⟨bv, ov, cv, ev⟩ := Rd.rG ((HL.f2).aT) (by omega)
   cases ev
   refine aU (eF underlying167 sizeOf64 rfl rfl (by omega)) ?_
   refine aU (iC (dM underlying64 rfl) rfl (by first | exact Rd.Ee ((HL.f2).aT) (by omega) | exact Rd.U9 ((HL.f2).aT) (by omega) | exact Rd.UM ((HL.f2).aT) (by omega))) ?_
   have hkl : k < hs.length := by omega
   rw [show (hs.map (·.1)).getD k undef = (hs.getD k default).1 from by simp [List.getD_eq_getElem?_getD, hkl]]
   obtain ⟨gl, wI, hg⟩ : ∃ gl wI, hs.getD k default = (gl, wI) := ⟨_, _, rfl⟩
   rw [hg]
   have Ho2 := HL.f3
   have Hc3 := Ho2.Je hkl hg
   have hge : wI.map dH.says = (zV G N).getD k [] := by
    rw [← Qj]
    have h9 : (hs.map (fun g => g.2.map dH.says)).getD k [] = (hs.getD k default).2.map dH.says := by simp [List.getD_eq_getElem?_getD, hkl]
    rw [h9, hg]
   have hgm : (zV G N).getD k [] ∈ zV G N := vM (by omega)
   have hBg := KA hge (hB _ hgm)
   have Zj : wI.length ≤ 16384 := by
    have h7 := congrArg List.length hge
    rw [List.length_map] at h7
    have := hL _ hgm
    omega
   refine aV rfl (aA (aj (ay (ah (aO rfl (aO rfl (dw rfl func164 (uQ Hc3 hBg Zj) ?_)))))))
   rintro u4 w4 ⟨fs4, aaK, H4⟩
   obtain ⟨es2, rfl⟩ : ∃ q, q = fs4 := ⟨_, rfl⟩
   have hes2 := aaK
   have Hd5 := H4.f3.right
   refine iy (Jc rfl rfl (hy k (by omega) _ _ ⟨_, es2, hes2.trans hge, rfl, rfl⟩ (pJ hs • Row 64 1 (.slice (some ⟨bv, ov, none⟩) hs.length d) hs.length (hs.map (·.1)) • dA c (.cells #[.slice (some ⟨bv, ov, none⟩) hs.length d] 167 (0, 0))) _ (Hd5.of_eq (by unfold Gl; ac_rfl))).bool) ?_
   rintro _ w6 ⟨t, rfl, ht1, ht2⟩
   refine aU (kM rfl) (aA (aj (aH rfl (fun h2 => ?_) (fun h2 => ?_))))
   ·(try simp only [aG] at h2)
    try (exfalso; first | contradiction | omega)
    all_goals
     have HX := ht2 (by simpa using h2)
     refine aJ (aW (aK (aK (aW (dN (.inl rfl) results169 ?_)))))
     exact .inr (aB.comm (aB.EW (u := .slice (some ⟨bv, ov, none⟩) hs.length d) Zr (HX.of_eq (by unfold AV; ac_rfl))))
   ·(try simp only [aG] at h2)
    try (exfalso; first | contradiction | omega)
    all_goals
     have HN : aB w0 w6 (dA c (.cells #[.slice (some ⟨bv, ov, none⟩) hs.length d] 167 (0, 0)) • Row 64 1 (.slice (some ⟨bv, ov, none⟩) hs.length d) hs.length (hs.map (·.1)) • pJ hs • J (k + 1)) := by
      have h9 := ht1 (by simpa using h2)
      exact h9.of_eq (by ac_rfl)
     refine aS (aQ (aj (ah (aU (eP rfl rfl (by omega)) (aO rfl (aA ?_))))))
     refine dK (k + 1) ?_ ?_ ?_ ?_
     ·exact (Sub.cons rfl (Sub.nil _))
     ·exact (Sub.cons rfl (Sub.cons rfl (Sub.cons rfl (Sub.nil _))))
     ·(try dsimp only)
      first | done | exact ⟨by omega, HN.f3.f3.f3⟩
     ·(try dsimp only); omega
 ·(try simp only [aG] at h1)
  try (exfalso; first | contradiction | omega)
  all_goals
   refine fG (aX (aX (bM (dN (.inr rfl) results169 ?_))))
   obtain rfl : k = hs.length := by omega
   rw [← hlen]
   exact .inl (aB.comm (aB.EW (u := .slice a hs.length d) Zr (HL.of_eq (by unfold AV; ac_rfl))))
end
end Go.Proofs.YtgmpclifphbjkaaGreatDoor
end
section
namespace Go.Proofs.YtgmpclifphbjkaaGreatDoor
open Go.RowKit
def CZ (P : Int → Nat) (U : Int → List (List eH)) : List Int → HP
  | [] => emp
  | k :: D => fH (P k) (U k) [] 0 • CZ P U D
def KL (D : List Int) (P : Int → Nat) : Int → Option Value := fun k => if k ∈ D then some (.pointer (some ⟨P k, 0, none⟩)) else none
theorem oN {P : Int → Nat} {U : Int → List (List eH)} {k : Int} : ∀ {D : List Int}, k ∈ D → CZ P U D = (fH (P k) (U k) [] 0 • CZ P U (D.erase k))
  | x :: D, h => by
    by_cases e : x = k
    · subst e; rw [List.erase_cons_head]; rfl
    · rw [List.erase_cons_tail (by simpa using e)]
      have hk : k ∈ D := (List.mem_cons.1 h).resolve_left (Ne.symm e)
      show (fH (P x) (U x) [] 0 • CZ P U D) = _
      rw [oN hk]
      show (fH (P x) (U x) [] 0 • fH (P k) (U k) [] 0 • CZ P U (D.erase k)) = (fH (P k) (U k) [] 0 • (fH (P x) (U x) [] 0 • CZ P U (D.erase k)))
      ac_rfl
theorem yU {P P' : Int → Nat} {U U' : Int → List (List eH)} : ∀ {D : List Int}, (∀ k ∈ D, P k = P' k ∧ U k = U' k) → CZ P U D = CZ P' U' D
  | [], _ => rfl
  | x :: D, h => by
    show (fH (P x) (U x) [] 0 • CZ P U D) = (fH (P' x) (U' x) [] 0 • CZ P' U' D)
    rw [(h x (by simp)).1, (h x (by simp)).2, yU fun k hk => h k (List.mem_cons_of_mem _ hk)]
def rM (b : Nat) (U : Int → List (List eH)) : HP := sS fun (x : List Int × (Int → Nat)) => fact (x.1.Nodup ∧ ∀ k, k ∉ x.1 → U k = []) • fF mQ b (KL x.1 x.2) • CZ x.2 U x.1
def Ho (b : Nat) (U : Int → List (List eH)) (k : Int) (p : Nat) : HP := sS fun (x : List Int × (Int → Nat)) => fact (x.1.Nodup ∧ (∀ k, k ∉ x.1 → U k = []) ∧ k ∈ x.1 ∧ x.2 k = p) • fF mQ b (KL x.1 x.2) • CZ x.2 U (x.1.erase k)
section
variable {w0 w : World} {F : HP} {b p : Nat} {k : Int} {U : Int → List (List eH)} {G : List (List eH)}
theorem aB.Tc (H : aB w0 w (rM b U • F)) : ∃ D P, (D : List Int).Nodup ∧ (∀ k, k ∉ D → U k = []) ∧ aB w0 w (fF mQ b (KL D P) • CZ P U D • F) := by
  obtain ⟨⟨D, P⟩, H⟩ := H.oh
  obtain ⟨⟨h1, h2⟩, H⟩ := H.flat.fact
  exact ⟨D, P, h1, h2, H.flat⟩
theorem aB.yV {D : List Int} {P : Int → Nat} (h1 : D.Nodup) (h2 : ∀ k, k ∉ D → U k = []) (H : aB w0 w (fF mQ b (KL D P) • CZ P U D • F)) : aB w0 w (rM b U • F) :=
  aB.iF (D, P) (aB.deep (aB.kJ ⟨h1, h2⟩ H.deep))
theorem aB.Td {D : List Int} {P : Int → Nat} (h1 : D.Nodup) (h2 : ∀ k, k ∉ D → U k = []) (hk : k ∈ D) (H : aB w0 w (fF mQ b (KL D P) • CZ P U D • F)) : aB w0 w (fH (P k) (U k) [] 0 • Ho b U k (P k) • F) := by
  have H1 : aB w0 w ((fF mQ b (KL D P) • CZ P U (D.erase k)) • fH (P k) (U k) [] 0 • F) := H.of_eq (by rw [oN hk]; ac_rfl)
  have H2 : aB w0 w (Ho b U k (P k) • fH (P k) (U k) [] 0 • F) := aB.iF (D, P) (aB.deep (aB.kJ ⟨h1, h2, hk, rfl⟩ H1))
  exact H2.swap
theorem aB.sN (H : aB w0 w (Ho b U k p • fH p G [] 0 • F)) : aB w0 w (rM b (qY U k G) • F) := by
  obtain ⟨⟨D, P⟩, H⟩ := H.oh
  obtain ⟨⟨h1, h2, hk, hp⟩, H⟩ := H.flat.fact
  dsimp only at h1 h2 hk hp H
  subst hp
  refine aB.yV (D := D) (P := P) h1 (fun x hx => ?_) ?_
  · rw [qZ _ _ (by rintro rfl; exact hx hk)]; exact h2 x hx
  · rw [oN (U := qY U k G) hk, eX, yU (P' := P) (U' := U) fun x hx => ⟨rfl, qZ _ _ (by rintro rfl; exact (List.Nodup.not_mem_erase h1) hx)⟩]
    exact H.of_eq (by ac_rfl)
end
def mV (t : Int → Option ByteArray) : Int → Option Value := fun k => (t k).map .string
def NG (pb pr pw pt pm : Nat) (c : mD) : HP := dJ pb c.L c.pt c.mark • bY pr c.E c.at_ • dA pw (.cells #[.int .i64 c.place, .map (some pt)] 112 (0, 0)) • fF mQ pt (mV c.tx) • rM pm c.un
def KN (pb pr pw pm : Nat) (c : mD) : List Value := [.pointer (some ⟨pb, 0, none⟩), .pointer (some ⟨pr, 0, none⟩), .pointer (some ⟨pw, 0, none⟩), .map (some pm), .int .i64 c.mode, .bool c.over, .int .i64 c.last, .int .i64 c.fr, .int .i64 c.to, .int .i64 c.res, .bool c.run]
def tK (inn : Bool) (c : mD) (u : List Value) : HP := if inn = true then sS fun (x : Nat × Nat × Nat × Nat × Nat) => fact (u = KN x.1 x.2.1 x.2.2.1 x.2.2.2.2 c) • NG x.1 x.2.1 x.2.2.1 x.2.2.2.1 x.2.2.2.2 c else emp
def Jk (hl : List mM) (c : mD) : Prop := 0 ≤ c.place ∧ c.place ≤ hl.length ∧ (∀ k t, c.tx k = some t → t.size ≤ 16384)
def wP (e : eH) : Prop := 0 ≤ e.1 ∧ 0 < e.2.1.length + e.2.2.length ∧ e.2.1.length ≤ 1024 ∧ e.2.2.length ≤ 1024
def lg (s : aY) : Prop := Jk s.hl s.c ∧ (s.inn = true → Jk s.hl s.was ∧ dX (s.was.un s.was.place) [] ≤ 16384 ∧ ∀ k, ∀ g ∈ s.was.un k, ∀ e ∈ g, wP e) ∧ (-1 ≤ s.arg ∧ s.arg ≤ 1000000) ∧ (∀ e ∈ s.put, wP e) ∧ dX s.here s.put ≤ 16384 ∧ (∀ k, ∀ g ∈ s.c.un k, ∀ e ∈ g, wP e)
structure EdP where
  pb : Nat
  pr : Nat
  pw : Nat
  pt : Nat
  pm : Nat
  ph : Nat
  bl : Nat
  pv : Value
  es : List dH
  u0 : Value
  u1 : Value
  u2 : Value
  u3 : Value
  u4 : Value
  u5 : Value
  u6 : Value
  u7 : Value
  u8 : Value
  u9 : Value
  ua : Value
def EdG (e : Nat) (s : aY) (M : Nat → HP) : HP := sS fun (x : EdP) => fact (lg s ∧ x.es.map dH.says = s.put) •
  dA e (.cells (.pointer (some ⟨x.pb, 0, none⟩) :: .pointer (some ⟨x.pr, 0, none⟩) :: .pointer (some ⟨x.pw, 0, none⟩) :: .map (some x.pm) :: .int .i64 s.c.mode :: .bool s.c.over :: .int .i64 s.c.last :: .int .i64 s.c.fr :: .int .i64 s.c.to :: .int .i64 s.c.res :: .bool s.c.run :: .pointer (some ⟨x.ph, 0, none⟩) :: .pointer (some ⟨x.bl, 0, none⟩) :: .bool s.given :: .bool s.minus :: .int .i64 s.arg :: .bool s.inn :: x.u0 :: x.u1 :: x.u2 :: x.u3 :: x.u4 :: x.u5 :: x.u6 :: x.u7 :: x.u8 :: x.u9 :: x.ua :: .int .i64 s.cls :: .bool s.killed :: .bool s.jy :: .bool s.argues :: .bool s.whole :: x.pv :: []).toArray 66 (0, 0)) •
  dJ x.pb s.c.L s.c.pt s.c.mark • bY x.pr s.c.E s.c.at_ • dA x.pw (.cells #[.int .i64 s.c.place, .map (some x.pt)] 112 (0, 0)) • fF mQ x.pt (mV s.c.tx) • M x.pm •
  dZ x.ph s.hl s.base s.most • dA x.bl (.cells #[.int .i64 s.iO] 102 (0, 0)) • Row 120 3 x.pv s.put.length (x.es.flatMap dH.enc) • jT x.es • tK s.inn s.was [x.u0, x.u1, x.u2, x.u3, x.u4, x.u5, x.u6, x.u7, x.u8, x.u9, x.ua]
def dD (e : Nat) (s : aY) : HP := EdG e s fun pm => rM pm s.c.un
def aaL (e : Nat) (s : aY) (p : Nat) : HP := EdG e s fun pm => Ho pm s.c.un s.c.place p
section
variable {w0 w : World} {F : HP} {e : Nat} {s : aY} {M : Nat → HP}
theorem aB.edG (H : aB w0 w (EdG e s M • F)) : ∃ pb pr pw pt pm ph bl pv es u0 u1 u2 u3 u4 u5 u6 u7 u8 u9 ua, lg s ∧ es.map dH.says = s.put ∧ es.length = s.put.length ∧ aB w0 w (
  dA e (.cells (.pointer (some ⟨pb, 0, none⟩) :: .pointer (some ⟨pr, 0, none⟩) :: .pointer (some ⟨pw, 0, none⟩) :: .map (some pm) :: .int .i64 s.c.mode :: .bool s.c.over :: .int .i64 s.c.last :: .int .i64 s.c.fr :: .int .i64 s.c.to :: .int .i64 s.c.res :: .bool s.c.run :: .pointer (some ⟨ph, 0, none⟩) :: .pointer (some ⟨bl, 0, none⟩) :: .bool s.given :: .bool s.minus :: .int .i64 s.arg :: .bool s.inn :: u0 :: u1 :: u2 :: u3 :: u4 :: u5 :: u6 :: u7 :: u8 :: u9 :: ua :: .int .i64 s.cls :: .bool s.killed :: .bool s.jy :: .bool s.argues :: .bool s.whole :: pv :: []).toArray 66 (0, 0)) •
  dJ pb s.c.L s.c.pt s.c.mark • bY pr s.c.E s.c.at_ • dA pw (.cells #[.int .i64 s.c.place, .map (some pt)] 112 (0, 0)) • fF mQ pt (mV s.c.tx) • M pm •
  dZ ph s.hl s.base s.most • dA bl (.cells #[.int .i64 s.iO] 102 (0, 0)) • Row 120 3 pv s.put.length (es.flatMap dH.enc) • jT es • tK s.inn s.was [u0, u1, u2, u3, u4, u5, u6, u7, u8, u9, ua] • F) := by
  obtain ⟨⟨pb, pr, pw, pt, pm, ph, bl, pv, es, u0, u1, u2, u3, u4, u5, u6, u7, u8, u9, ua⟩, H⟩ := H.oh
  obtain ⟨⟨h1, h2⟩, H⟩ := H.flat.fact
  refine ⟨pb, pr, pw, pt, pm, ph, bl, pv, es, u0, u1, u2, u3, u4, u5, u6, u7, u8, u9, ua, h1, h2, ?_, ?_⟩
  · rw [← h2]; simp
  · dsimp only at H
    exact H.of_eq (by simp only [bV])
theorem aB.XG {pb pr pw pt pm ph bl : Nat} {pv : Value} {es : List dH} {u0 u1 u2 u3 u4 u5 u6 u7 u8 u9 ua : Value} (h1 : lg s) (h2 : es.map dH.says = s.put) (H : aB w0 w (
  dA e (.cells (.pointer (some ⟨pb, 0, none⟩) :: .pointer (some ⟨pr, 0, none⟩) :: .pointer (some ⟨pw, 0, none⟩) :: .map (some pm) :: .int .i64 s.c.mode :: .bool s.c.over :: .int .i64 s.c.last :: .int .i64 s.c.fr :: .int .i64 s.c.to :: .int .i64 s.c.res :: .bool s.c.run :: .pointer (some ⟨ph, 0, none⟩) :: .pointer (some ⟨bl, 0, none⟩) :: .bool s.given :: .bool s.minus :: .int .i64 s.arg :: .bool s.inn :: u0 :: u1 :: u2 :: u3 :: u4 :: u5 :: u6 :: u7 :: u8 :: u9 :: ua :: .int .i64 s.cls :: .bool s.killed :: .bool s.jy :: .bool s.argues :: .bool s.whole :: pv :: []).toArray 66 (0, 0)) •
  dJ pb s.c.L s.c.pt s.c.mark • bY pr s.c.E s.c.at_ • dA pw (.cells #[.int .i64 s.c.place, .map (some pt)] 112 (0, 0)) • fF mQ pt (mV s.c.tx) • M pm •
  dZ ph s.hl s.base s.most • dA bl (.cells #[.int .i64 s.iO] 102 (0, 0)) • Row 120 3 pv s.put.length (es.flatMap dH.enc) • jT es • tK s.inn s.was [u0, u1, u2, u3, u4, u5, u6, u7, u8, u9, ua] • F)) : aB w0 w (EdG e s M • F) :=
  aB.iF ⟨pb, pr, pw, pt, pm, ph, bl, pv, es, u0, u1, u2, u3, u4, u5, u6, u7, u8, u9, ua⟩ (aB.deep (aB.kJ ⟨h1, h2⟩ (H.of_eq (by simp only [bV]))))
theorem aB.dG {pb pr pw pt pm ph bl : Nat} {pv : Value} {es : List dH} {u0 u1 u2 u3 u4 u5 u6 u7 u8 u9 ua : Value} (h1 : lg s) (h2 : es.map dH.says = s.put) (H : aB w0 w (
  dA e (.cells (.pointer (some ⟨pb, 0, none⟩) :: .pointer (some ⟨pr, 0, none⟩) :: .pointer (some ⟨pw, 0, none⟩) :: .map (some pm) :: .int .i64 s.c.mode :: .bool s.c.over :: .int .i64 s.c.last :: .int .i64 s.c.fr :: .int .i64 s.c.to :: .int .i64 s.c.res :: .bool s.c.run :: .pointer (some ⟨ph, 0, none⟩) :: .pointer (some ⟨bl, 0, none⟩) :: .bool s.given :: .bool s.minus :: .int .i64 s.arg :: .bool s.inn :: u0 :: u1 :: u2 :: u3 :: u4 :: u5 :: u6 :: u7 :: u8 :: u9 :: ua :: .int .i64 s.cls :: .bool s.killed :: .bool s.jy :: .bool s.argues :: .bool s.whole :: pv :: []).toArray 66 (0, 0)) •
  dJ pb s.c.L s.c.pt s.c.mark • bY pr s.c.E s.c.at_ • dA pw (.cells #[.int .i64 s.c.place, .map (some pt)] 112 (0, 0)) • fF mQ pt (mV s.c.tx) • rM pm s.c.un •
  dZ ph s.hl s.base s.most • dA bl (.cells #[.int .i64 s.iO] 102 (0, 0)) • Row 120 3 pv s.put.length (es.flatMap dH.enc) • jT es • tK s.inn s.was [u0, u1, u2, u3, u4, u5, u6, u7, u8, u9, ua] • F)) : aB w0 w (dD e s • F) := aB.XG (M := fun pm => rM pm s.c.un) h1 h2 H
theorem aB.Ak (H : aB w0 w (dD e s • F)) : ∃ pb pr pw pt pm ph bl pv es u0 u1 u2 u3 u4 u5 u6 u7 u8 u9 ua, lg s ∧ es.map dH.says = s.put ∧ es.length = s.put.length ∧ aB w0 w (
  dA e (.cells (.pointer (some ⟨pb, 0, none⟩) :: .pointer (some ⟨pr, 0, none⟩) :: .pointer (some ⟨pw, 0, none⟩) :: .map (some pm) :: .int .i64 s.c.mode :: .bool s.c.over :: .int .i64 s.c.last :: .int .i64 s.c.fr :: .int .i64 s.c.to :: .int .i64 s.c.res :: .bool s.c.run :: .pointer (some ⟨ph, 0, none⟩) :: .pointer (some ⟨bl, 0, none⟩) :: .bool s.given :: .bool s.minus :: .int .i64 s.arg :: .bool s.inn :: u0 :: u1 :: u2 :: u3 :: u4 :: u5 :: u6 :: u7 :: u8 :: u9 :: ua :: .int .i64 s.cls :: .bool s.killed :: .bool s.jy :: .bool s.argues :: .bool s.whole :: pv :: []).toArray 66 (0, 0)) •
  dJ pb s.c.L s.c.pt s.c.mark • bY pr s.c.E s.c.at_ • dA pw (.cells #[.int .i64 s.c.place, .map (some pt)] 112 (0, 0)) • fF mQ pt (mV s.c.tx) • rM pm s.c.un •
  dZ ph s.hl s.base s.most • dA bl (.cells #[.int .i64 s.iO] 102 (0, 0)) • Row 120 3 pv s.put.length (es.flatMap dH.enc) • jT es • tK s.inn s.was [u0, u1, u2, u3, u4, u5, u6, u7, u8, u9, ua] • F) := H.edG
end
end Go.Proofs.YtgmpclifphbjkaaGreatDoor
end
