import Derived.Test.YtddekefihgejoaaGreatDoorZ2
import Derived.Test.YtddekefihgejoaaGreatDoorZ4
import Derived.Maps.RangeRun
import Derived.Test.YtddekefihgejoaaGreatDoorZ9
set_option linter.unusedSimpArgs false
set_option linter.unusedVariables false
/- Texts of mine, joined, their names in short: Map UGroups Ed. -/
section
namespace Go.Proofs.YtddekefihgejoaaGreatDoor
open Go.RowKit Go.MapKept
structure Key (α : Type) where
  mkKey ::
  d : TypeDesc
  mk : α → Value
  key : ∀ a, IsKey d (mk a)
  inj : ∀ a b, mk a = mk b → a = b
  onto : ∀ v, IsKey d v → ∃ a, mk a = v
def yt (k : IntKind) : Key Int := ⟨.int k, .int k, fun _ => rfl, fun _ _ h => by cases h; rfl, fun v h => by
  cases v <;> simp [IsKey] at h
  subst h
  exact ⟨_, rfl⟩⟩
abbrev lI : Key Int := yt .i64
abbrev acN : Key Int := yt .i32
def acO : Key ByteArray := ⟨.string, .string, fun _ => trivial, fun _ _ h => by cases h; rfl, fun v h => by
  cases v <;> simp [IsKey] at h
  exact ⟨_, rfl⟩⟩
section
variable {α : Type} {K : Key α} {f : α → Option Value} {es : Array MapEntry} {clock : Nat}
def yH (K : Key α) (f : α → Option Value) (es : Array MapEntry) (clock : Nat) : Prop :=
  Stamped es clock ∧ (∀ x ∈ es.toList, IsKey K.d x.key) ∧ ∀ a v, f a = some v ↔ ∃ x ∈ es.toList, x.key = K.mk a ∧ x.val = v
def dY (K : Key α) (b : Nat) (f : α → Option Value) : HP := qC fun (x : Array MapEntry × Nat) => fact (yH K f x.1 x.2) • cO b (.map x.1 x.2)
def upd [DecidableEq α] {β : Type} (f : α → Option β) (a : α) (v : β) : α → Option β := fun x => if x = a then some v else f x
theorem yH.same (h : yH K f es clock) {x y : MapEntry} (hx : x ∈ es.toList) (hy : y ∈ es.toList) (e : x.key = y.key) : x = y := by
  have hn := h.1.2.2
  rw [List.Nodup, List.pairwise_map] at hn
  exact uV hn hx hy e
where
  uV : ∀ {l : List MapEntry}, l.Pairwise (fun x y => x.key ≠ y.key) → ∀ {x y : MapEntry}, x ∈ l → y ∈ l → x.key = y.key → x = y
    | [], _, _, _, hx, _, _ => by cases hx
    | z :: l, hp, x, y, hx, hy, e => by
      rw [List.pairwise_cons] at hp
      rcases List.mem_cons.1 hx with hx1 | hx1
      · rcases List.mem_cons.1 hy with hy1 | hy1
        · rw [hx1, hy1]
        · exact absurd (by rw [← hx1]; exact e) (hp.1 _ hy1)
      · rcases List.mem_cons.1 hy with hy1 | hy1
        · exact absurd (by rw [← hy1]; exact e.symm) (hp.1 _ hx1)
        · exact uV hp.2 hx1 hy1 e
theorem NU : ∀ {l : List MapEntry}, (l.map (·.born)).Nodup → ∀ {x y : MapEntry}, x ∈ l → y ∈ l → x.born = y.born → x = y
  | [], _, _, _, hx, _, _ => by cases hx
  | z :: l, hp, x, y, hx, hy, e => by
    rw [List.map_cons, List.nodup_cons] at hp
    rcases List.mem_cons.1 hx with hx1 | hx1
    · rcases List.mem_cons.1 hy with hy1 | hy1
      · rw [hx1, hy1]
      · exact absurd (List.mem_map.2 ⟨y, hy1, by rw [← hx1]; exact e.symm⟩) hp.1
    · rcases List.mem_cons.1 hy with hy1 | hy1
      · exact absurd (List.mem_map.2 ⟨x, hx1, by rw [← hy1]; exact e⟩) hp.1
      · exact NU hp.2 hx1 hy1 e
theorem yH.find (h : yH K f es clock) (a : α) : (Instr.findNow K.d (K.mk a) es.toList 0 = some none ∧ f a = none ∧ ∀ x ∈ es.toList, x.key ≠ K.mk a) ∨
    ∃ j e, Instr.findNow K.d (K.mk a) es.toList 0 = some (some (j, e.val)) ∧ es.toList[j]? = some e ∧ e.key = K.mk a ∧ f a = some e.val := by
  rcases findNow_spec (K.key a) es.toList 0 h.2.1 with ⟨h1, h2⟩ | ⟨j, e, h1, h2, h3⟩
  · refine .inl ⟨h1, ?_, h2⟩
    cases hf : f a with
    | none => rfl
    | some v =>
      obtain ⟨x, hx, hk, _⟩ := (h.2.2 a v).1 hf
      exact absurd hk (h2 x hx)
  · refine .inr ⟨j, e, by simpa using h1, h2, h3, (h.2.2 a e.val).2 ⟨e, List.mem_of_getElem? h2, h3, rfl⟩⟩
theorem JM (K : Key α) : yH K (fun _ => none) #[] 0 := ⟨stamped_empty 0, by simp, by simp⟩
end
section
variable {α : Type} {K : Key α} {f : α → Option Value} {es : Array MapEntry} {clock : Nat} {P : Program} {L : List (Nat × Value)} {w w0 : World} {ty : TypeId} {x y z : Operand} {F : HP} {b it n : Nat} {a : α} {S : List α}
theorem aA.map (H : aA w0 w (dY K b f • F)) : ∃ es clock, yH K f es clock ∧ aA w0 w (cO b (.map es clock) • F) := by
  obtain ⟨⟨es, clock⟩, H⟩ := H.kU
  obtain ⟨h, H⟩ := H.flat.fact
  exact ⟨es, clock, h, H⟩
theorem aA.Ii (h : yH K f es clock) (H : aA w0 w (cO b (.map es clock) • F)) : aA w0 w (dY K b f • F) := aA.gY (es, clock) (aA.deep (aA.jU h H))
theorem JO {t kt et : TypeId} {zv : Value} (ok : Bool) (h : yH K f es clock) (hb : w.heap[b]? = some (.map es clock)) (ht : P.underlying t = some (.map kt et)) (hk : P.underlying kt = some K.d) (hz : (zeroValue et).run P w = .ok zv w) :
    (Instr.lookup t (.map (some b)) (K.mk a) ok).run P w = .ok (if ok then .tuple #[(f a).getD zv, .bool (f a).isSome] else (f a).getD zv) w := by
  rcases h.find a with ⟨h1, h2, _⟩ | ⟨j, e, h1, h2, h3, h4⟩
  · simp [Instr.lookup, run_underlying ht, MapKept.run_getObj_map hb, MapKept.run_checkKey hk (K.key a), MapKept.run_findKey hk h1, hz, Result.andThen, h2]
  · simp [Instr.lookup, run_underlying ht, MapKept.run_getObj_map hb, MapKept.run_checkKey hk (K.key a), MapKept.run_findKey hk h1, Result.andThen, h4]
theorem JQ {t kt et : TypeId} {zv : Value} (H : aA w0 w (dY K b f • F)) (ht : P.underlying t = some (.map kt et)) (hk : P.underlying kt = some K.d) (hz : ∀ w, (zeroValue et).run P w = .ok zv w)
    (hx : ev L x = some (.map (some b))) (hy : ev L y = some (K.mk a)) : Val P L (.lookup t x y false) ty w ((f a).getD zv) w := fun ρ hρ _ _ _ _ => by
  obtain ⟨es, clock, h, H⟩ := H.map
  simp only [execOp, hρ _ _ hx, hρ _ _ hy, Sem.run_bind]
  rw [JO false h H.get.2 ht hk (hz w)]
  rfl
theorem JR {t kt et : TypeId} {zv : Value} (H : aA w0 w (dY K b f • F)) (ht : P.underlying t = some (.map kt et)) (hk : P.underlying kt = some K.d) (hz : ∀ w, (zeroValue et).run P w = .ok zv w)
    (hx : ev L x = some (.map (some b))) (hy : ev L y = some (K.mk a)) : Val P L (.lookup t x y true) ty w (.tuple #[(f a).getD zv, .bool (f a).isSome]) w := fun ρ hρ _ _ _ _ => by
  obtain ⟨es, clock, h, H⟩ := H.map
  simp only [execOp, hρ _ _ hx, hρ _ _ hy, Sem.run_bind]
  rw [JO true h H.get.2 ht hk (hz w)]
  rfl
theorem iY {t : TypeId} (K : Key α) (H : aA w0 w F) : rU P L (.makeMap t none) ty w fun v w' => ∃ b, v = .map (some b) ∧ aA w0 w' (dY K b (fun _ => none) • F) := by
  refine nR (v := .map (some w.heap.size)) (w' := w.alloc (.map #[] 0)) ?_ ⟨_, rfl, aA.Ii (JM K) (H.alloc _)⟩
  intro ρ hρ d pos lM g
  simp only [execOp, Sem.run_bind, Option.map_none]
  rfl
theorem JU {o : Obj} {b : Nat} (h : w.heap[b]? = some o) (o' : Obj) : ({ w with heap := w.heap.setIfInBounds b o' } : World).heap[b]? = some o' ∧ ∀ k, k ≠ b → ({ w with heap := w.heap.setIfInBounds b o' } : World).heap[k]? = w.heap[k]? := by
  have hlt := lt_of_block h
  exact ⟨by simp [hlt], fun k hk => by simp [Ne.symm hk]⟩
theorem aA.setB {o : Obj} (H : aA w0 w (cO b o • F)) (o' : Obj) : aA w0 (ChangeMaps.setBlock w b o') (cO b o' • F) :=
  aA.turn (w := w) (w' := ChangeMaps.setBlock w b o') H rfl rfl rfl (by simp [ChangeMaps.setBlock]) (JU H.get.2 o').1 fun k hk _ => (JU H.get.2 o').2 k hk
theorem tV [DecidableEq α] {t kt et : TypeId} {v : Value} (H : aA w0 w (dY K b f • F)) (ht : P.underlying t = some (.map kt et)) (hk : P.underlying kt = some K.d)
    (hx : ev L x = some (.map (some b))) (hy : ev L y = some (K.mk a)) (hz : ev L z = some v) : rU P L (.mapUpdate t x y z) ty w fun _ w' => aA w0 w' (dY K b (upd f a v) • F) := by
  obtain ⟨es, clock, h, H⟩ := H.map
  have hb := H.get.2
  rcases h.find a with ⟨h1, h2, h3⟩ | ⟨j, e, h1, h2, h3, h4⟩
  · have hrun : (Instr.mapUpdate t (.map (some b)) (K.mk a) v).run P w = .ok () (ChangeMaps.setBlock w b (.map (es.push { key := K.mk a, val := v, born := clock }) (clock + 1))) := by
      simp [ChangeMaps.setBlock, Instr.mapUpdate, run_underlying ht, MapKept.run_getObj_map hb, MapKept.run_checkKey hk (K.key a), MapKept.run_findKey hk h1, MapKept.run_setObj_map _ hb, Result.andThen]
    refine Dz (w' := ChangeMaps.setBlock w b (.map (es.push { key := K.mk a, val := v, born := clock }) (clock + 1))) (fun ρ hρ d pos lM g => ?_) (aA.Ii (es := es.push { key := K.mk a, val := v, born := clock }) (clock := clock + 1) ⟨stamped_push h.1 h3, ?_, ?_⟩ (H.setB _))
    · simp only [execOp, hρ _ _ hx, hρ _ _ hy, hρ _ _ hz, Sem.run_bind]
      rw [hrun]; rfl
    · intro q hq
      simp only [Array.toList_push, List.mem_append, List.mem_singleton] at hq
      rcases hq with hq | rfl
      · exact h.2.1 q hq
      · exact K.key a
    · intro c u
      simp only [Array.toList_push, List.mem_append, List.mem_singleton, upd]
      by_cases hc : c = a
      · subst hc
        rw [if_pos rfl]
        constructor
        · intro hu; cases hu; exact ⟨_, .inr rfl, rfl, rfl⟩
        · rintro ⟨q, hq | rfl, hqk, RI⟩
          · exact absurd hqk (h3 q hq)
          · rw [← RI]
      · rw [if_neg hc, h.2.2 c u]
        constructor
        · rintro ⟨q, hq, hqk, RI⟩; exact ⟨q, .inl hq, hqk, RI⟩
        · rintro ⟨q, hq | rfl, hqk, RI⟩
          · exact ⟨q, hq, hqk, RI⟩
          · exact absurd (K.inj _ _ hqk).symm hc
  · have hj : es[j]? = some e := by simpa using h2
    have hrun : (Instr.mapUpdate t (.map (some b)) (K.mk a) v).run P w = .ok () (ChangeMaps.setBlock w b (.map (es.modify j fun e => { e with key := K.mk a, val := v }) clock)) := by
      simp [ChangeMaps.setBlock, Instr.mapUpdate, run_underlying ht, MapKept.run_getObj_map hb, MapKept.run_checkKey hk (K.key a), MapKept.run_findKey hk h1, hj, h3, MapKept.run_keyThatStays (K.key a), MapKept.run_setObj_map _ hb, Result.andThen]
    have hkey : ∀ e', es[j]? = some e' → ({ e' with key := K.mk a, val := v } : MapEntry).key = e'.key := fun e' he' => by rw [hj] at he'; cases he'; exact h3.symm
    have hst : Stamped (es.modify j fun e => { e with key := K.mk a, val := v }) clock := stamped_modify h.1 _ _ (fun _ _ => rfl) (fun e' _ he' => hkey e' he')
    have hmem : ∀ q, q ∈ (es.modify j fun e => { e with key := K.mk a, val := v }).toList ↔ (q = { e with key := K.mk a, val := v } ∨ q ∈ es.toList ∧ q.key ≠ K.mk a) := by
      intro q
      have hee : e ∈ es.toList := List.mem_of_getElem? h2
      constructor
      · intro hq
        obtain ⟨i, hi⟩ := List.getElem?_of_mem hq
        rw [Array.getElem?_toList, Array.getElem?_modify] at hi
        by_cases hij : j = i
        · subst hij
          rw [if_pos rfl, hj] at hi
          exact .inl (by simpa using hi.symm)
        · rw [if_neg hij] at hi
          have hqm : q ∈ es.toList := Array.mem_toList_iff.2 (Array.mem_of_getElem? hi)
          refine .inr ⟨hqm, fun hqk => ?_⟩
          have he : q = e := h.same hqm hee (hqk.trans h3.symm)
          subst he
          have hn := h.1.2.1
          have h5 : (es.toList.map (·.born))[i]? = some q.born := by rw [List.getElem?_map, Array.getElem?_toList, hi]; rfl
          have h6 : (es.toList.map (·.born))[j]? = some q.born := by rw [List.getElem?_map, h2]; rfl
          have hlt : i < (es.toList.map (·.born)).length := (List.getElem?_eq_some_iff.1 h5).1
          have hlt2 : j < (es.toList.map (·.born)).length := (List.getElem?_eq_some_iff.1 h6).1
          exact hij ((List.getElem?_inj hlt2 hn).1 (h6.trans h5.symm))
      · rintro (rfl | ⟨hq, hqk⟩)
        · apply List.mem_of_getElem? (i := j)
          rw [Array.getElem?_toList, Array.getElem?_modify, if_pos rfl, hj]; rfl
        · obtain ⟨i, hi⟩ := List.getElem?_of_mem hq
          have hij : j ≠ i := by
            rintro rfl
            rw [h2] at hi; cases hi
            exact hqk h3
          apply List.mem_of_getElem? (i := i)
          rw [Array.getElem?_toList, Array.getElem?_modify, if_neg hij]
          rwa [Array.getElem?_toList] at hi
    refine Dz (w' := ChangeMaps.setBlock w b (.map (es.modify j fun e => { e with key := K.mk a, val := v }) clock)) (fun ρ hρ d pos lM g => ?_) (aA.Ii (es := es.modify j fun e => { e with key := K.mk a, val := v }) (clock := clock) ⟨hst, isKey_modify h.2.1 _ _ hkey, ?_⟩ (H.setB _))
    · simp only [execOp, hρ _ _ hx, hρ _ _ hy, hρ _ _ hz, Sem.run_bind]
      rw [hrun]; rfl
    · intro c u
      simp only [hmem, upd]
      by_cases hc : c = a
      · subst hc
        rw [if_pos rfl]
        constructor
        · intro hu; cases hu; exact ⟨_, .inl rfl, rfl, rfl⟩
        · rintro ⟨q, rfl | ⟨hq, hqn⟩, hqk, RI⟩
          · rw [← RI]
          · exact absurd hqk hqn
      · rw [if_neg hc, h.2.2 c u]
        constructor
        · rintro ⟨q, hq, hqk, RI⟩
          exact ⟨q, .inr ⟨hq, fun hqa => hc (K.inj _ _ (hqk.symm.trans hqa))⟩, hqk, RI⟩
        · rintro ⟨q, rfl | ⟨hq, hqn⟩, hqk, RI⟩
          · exact absurd (K.inj _ _ hqk).symm hc
          · exact ⟨q, hq, hqk, RI⟩
def WI (K : Key α) (f : α → Option Value) (es : Array MapEntry) (clock : Nat) (seen : Array Nat) (S : List α) (n : Nat) : Prop :=
  yH K f es clock ∧ (∃ xs : List MapEntry, (∀ x ∈ xs, x ∈ es.toList) ∧ seen.toList = xs.map (·.born) ∧ xs.map (·.key) = S.map K.mk) ∧ (leftOf es seen).size = n
def zV (K : Key α) (b it : Nat) (f : α → Option Value) (S : List α) (n : Nat) : HP := qC fun (x : Array MapEntry × Nat × Array Nat) => fact (WI K f x.1 x.2.1 x.2.2 S n) • cO it (.mapIter (some b) x.2.1 x.2.2 x.2.1) • cO b (.map x.1 x.2.1)
theorem aA.RJ (H : aA w0 w (zV K b it f S n • F)) : ∃ es clock seen, WI K f es clock seen S n ∧ aA w0 w (cO it (.mapIter (some b) clock seen clock) • cO b (.map es clock) • F) := by
  obtain ⟨⟨es, clock, seen⟩, H⟩ := H.kU
  obtain ⟨h, H⟩ := H.flat.fact
  exact ⟨es, clock, seen, h, H.flat⟩
theorem aA.Et {seen : Array Nat} (h : WI K f es clock seen S n) (H : aA w0 w (cO it (.mapIter (some b) clock seen clock) • cO b (.map es clock) • F)) : aA w0 w (zV K b it f S n • F) :=
  aA.gY (es, clock, seen) (aA.deep (aA.jU h (H.of_eq (by ac_rfl))))
theorem aA.Gj (H : aA w0 w (zV K b it f S n • F)) : aA w0 w (dY K b f • F) := by
  obtain ⟨es, clock, seen, h, H⟩ := H.RJ
  exact aA.Ii h.1 H.right
theorem BN {t kt et : TypeId} (H : aA w0 w (dY K b f • F)) (ht : P.underlying t = some (.map kt et)) (hx : ev L x = some (.map (some b))) :
    rU P L (.range t x) ty w fun v w' => ∃ it n, v = .pointer (some ⟨it, 0, none⟩) ∧ aA w0 w' (zV K b it f [] n • F) := by
  obtain ⟨es, clock, h, H⟩ := H.map
  refine nR (v := .pointer (some ⟨w.heap.size, 0, none⟩)) (w' := w.alloc (.mapIter (some b) clock #[] clock)) ?_ ⟨_, _, rfl, aA.Et ⟨h, ⟨[], by simp, rfl, rfl⟩, rfl⟩ (H.alloc _)⟩
  intro ρ hρ d pos lM g
  simp only [execOp, hρ _ _ hx, Sem.run_bind]
  rw [run_range_map w t kt et b es clock ht H.get.2]
  rfl
def YF (K : Key α) : Option (α × Value) → Value
  | some (a, u) => .tuple #[.bool true, K.mk a, u]
  | none => .tuple #[.bool false]
def aau (f : α → Option Value) (S : List α) (n : Nat) (S' : List α) (n' : Nat) : Option (α × Value) → Prop
  | some (a, u) => f a = some u ∧ a ∉ S ∧ n' < n ∧ S' = S ++ [a]
  | none => S' = S ∧ n' = n ∧ ∀ a u, f a = some u → a ∈ S
theorem UL {es : Array MapEntry} {seen : Array Nat} {e : MapEntry} (he : e ∈ (leftOf es seen).toList) : (leftOf es (seen.push e.born)).size < (leftOf es seen).size := by
  unfold leftOf at *
  rw [Array.toList_filter, List.mem_filter] at he
  have e1 : ∀ q : MapEntry → Bool, (es.filter q).size = (es.toList.filter q).length := fun q => by rw [← Array.toList_filter, Array.length_toList]
  rw [e1, e1]
  refine filter_lt _ _ (fun x hx => ?_) e he.2 ?_ es.toList he.1
  · simp only [Bool.not_eq_true', Array.contains_push, Bool.or_eq_false_iff] at hx ⊢
    exact hx.1
  · simp
theorem Eu (H : aA w0 w (zV K b it f S n • F)) (hx : ev L x = some (.pointer (some ⟨it, 0, none⟩))) :
    rU P L (.next x false) ty w fun v w' => ∃ o S' n', v = YF K o ∧ aau f S n S' n' o ∧ aA w0 w' (zV K b it f S' n' • F) := by
  obtain ⟨es, clock, seen, ⟨hm, ⟨xs, hxs, hse, hS⟩, hn⟩, H⟩ := H.RJ
  have hr := H.get.2
  have hb := H.swap.get.2
  rcases run_next_at (P := P) w ty it b clock clock seen es clock hr hb hm.1.1 (Nat.le_refl _) with ⟨h0, hrun⟩ | ⟨e, he, w1, hw1, hrun⟩
  · refine nR (v := YF K none) (w' := w) (fun ρ hρ d pos lM g => ?_) ⟨none, S, n, rfl, ⟨rfl, rfl, fun a u ha => ?_⟩, aA.Et ⟨hm, ⟨xs, hxs, hse, hS⟩, hn⟩ H⟩
    · simp only [execOp, hρ _ _ hx, Sem.run_bind]
      rw [hrun]; rfl
    · obtain ⟨y, hy, hyk, _⟩ := (hm.2.2 a u).1 ha
      have hys : seen.contains y.born = true := by
        cases hc : seen.contains y.born with
        | true => rfl
        | false =>
          have hyl : y ∈ (leftOf es seen).toList := by unfold leftOf; rw [Array.toList_filter, List.mem_filter]; exact ⟨hy, by rw [hc]; rfl⟩
          have := List.length_pos_of_mem hyl
          rw [Array.length_toList] at this
          omega
      have YG : y.born ∈ seen.toList := by simpa using hys
      rw [hse] at YG
      obtain ⟨q, hq, hqb⟩ := List.mem_map.1 YG
      have hqy : q = y := NU hm.1.2.1 (hxs q hq) hy hqb
      subst hqy
      have : K.mk a ∈ S.map K.mk := by rw [← hS]; exact List.mem_map.2 ⟨q, hq, hyk⟩
      obtain ⟨c, hc, hce⟩ := List.mem_map.1 this
      rw [← K.inj _ _ hce]; exact hc
  · have hel : e ∈ es.toList ∧ seen.contains e.born = false := by
      have := he
      unfold leftOf at this
      rw [Array.toList_filter, List.mem_filter] at this
      exact ⟨this.1, by simpa using this.2⟩
    obtain ⟨a, ha⟩ := K.onto e.key (hm.2.1 e hel.1)
    have hfa : f a = some e.val := (hm.2.2 a e.val).2 ⟨e, hel.1, ha.symm, rfl⟩
    have hns : a ∉ S := fun hs => by
      have : K.mk a ∈ S.map K.mk := List.mem_map.2 ⟨a, hs, rfl⟩
      rw [← hS] at this
      obtain ⟨q, hq, hqk⟩ := List.mem_map.1 this
      have hqe : q = e := hm.same (hxs q hq) hel.1 (hqk.trans ha)
      subst hqe
      have h9 : q.born ∈ seen.toList := by rw [hse]; exact List.mem_map.2 ⟨q, hq, rfl⟩
      have h8 : seen.contains q.born = true := by simpa using h9
      rw [hel.2] at h8; cases h8
    have hval : Val P L (.next x false) ty w (YF K (some (a, e.val))) (ChangeMaps.setBlock w1 it (.mapIter (some b) clock (seen.push e.born) clock)) := fun ρ hρ d pos lM g => by
      simp only [execOp, hρ _ _ hx, Sem.run_bind]
      rw [hrun]
      simp only [YF, ha]
      rfl
    have hheap : w1.heap = w.heap := by rcases hw1 with rfl | rfl <;> rfl
    have hr1 : w1.heap[it]? = some (.mapIter (some b) clock seen clock) := by rw [hheap]; exact hr
    refine nR hval ⟨some (a, e.val), S ++ [a], (leftOf es (seen.push e.born)).size, rfl, ⟨hfa, hns, by rw [← hn]; exact UL he, rfl⟩, aA.Et (seen := seen.push e.born) ⟨hm, ⟨xs ++ [e], ?_, ?_, ?_⟩, rfl⟩ (aA.setB (w := w1) (o := .mapIter (some b) clock seen clock) ?_ _)⟩
    · intro q hq
      rcases List.mem_append.1 hq with hq | hq
      · exact hxs q hq
      · rw [List.mem_singleton.1 hq]; exact hel.1
    · rw [Array.toList_push, hse, List.map_append]; rfl
    · rw [List.map_append, List.map_append, hS]; simp [ha]
    · rcases hw1 with rfl | rfl
      · exact H
      · exact H.drew
theorem VD {o : Option (α × Value)} (hx : ev L x = some (YF K o)) : Val P L (.extract x 0) ty w (.bool o.isSome) w := by
  cases o with
  | none => exact rO hx rfl
  | some p => obtain ⟨a, u⟩ := p; exact rO hx rfl
theorem NV {u : Value} (H : aA w0 w (zV K b it f (S ++ [a]) n • F)) (hf : f a = some u) (hx : ev L x = some (.pointer (some ⟨it, 0, none⟩))) : Val P L (.entry x) ty w (.tuple #[K.mk a, u]) w := by
  obtain ⟨es, clock, seen, ⟨hm, ⟨xs, hxs, hse, hS⟩, hn⟩, H⟩ := H.RJ
  intro ρ hρ d pos lM g
  have hne : xs ≠ [] := by
    rintro rfl
    have := congrArg List.length hS
    simp at this
  obtain ⟨ys, e, rfl⟩ : ∃ ys e, xs = ys ++ [e] := ⟨xs.dropLast, xs.getLast hne, (List.dropLast_concat_getLast hne).symm⟩
  have he : e ∈ es.toList := hxs e (by simp)
  have hk : e.key = K.mk a := by
    rw [List.map_append, List.map_append] at hS
    have := List.append_inj_right' hS rfl
    simpa using this
  have hv : e.val = u := by
    have h9 := (hm.2.2 a e.val).2 ⟨e, he, hk, rfl⟩
    rw [hf] at h9; cases h9; rfl
  have hsp : seen = (ys.map (·.born)).toArray.push e.born := by
    apply Array.ext'
    rw [hse]; simp
  have hr := H.get.2
  rw [hsp] at hr
  simp only [execOp, hρ _ _ hx, Sem.run_bind]
  rw [run_entry_at w it b clock _ es clock e hr H.swap.get.2 he hm.1.2.1, hk, hv]
  rfl
end
end Go.Proofs.YtddekefihgejoaaGreatDoor
end
section
namespace Go.Proofs.YtddekefihgejoaaGreatDoor
open Go.RowKit
open _root_.Go.Proofs.Tryz
def yI (c : Nat) (G : List (List fG)) (N : List fG) (k : Nat) : HP := qC fun (x : Value × List (Value × List dw)) => fact (x.2.map (fun g => g.2.map dw.says) = Ig N ++ G.reverse.take k) • cO c (.cells #[x.1] 180 (0, 0)) • zH x.1 x.2
theorem rev_succ {G : List (List fG)} {k : Nat} (hk : k < G.length) : G.reverse.take (k + 1) = G.reverse.take k ++ [G.getD (G.length - (k + 1)) []] := by
  rw [List.take_succ_eq_append_getElem (by simpa using hk)]
  congr 1
  rw [List.getElem_reverse, List.getD_eq_getElem?_getD, List.getElem?_eq_getElem (by omega)]
  have e : G.length - 1 - k = G.length - (k + 1) := by omega
  simp only [Option.getD_some, e]
section
variable {w0 w : World} {F : HP} {p c k : Nat} {G : List (List fG)} {N : List fG} {op : Int} {v u : Value} {es fs : List dw} {gs hs : List (Value × List dw)}
theorem aA.JV (H : aA w0 w (yI c G N k • F)) : ∃ u hs, hs.map (fun g => g.2.map dw.says) = Ig N ++ G.reverse.take k ∧ hs.length ≤ G.length + 1 ∧ aA w0 w (cO c (.cells #[u] 180 (0, 0)) • Row 67 1 u hs.length (hs.map (·.1)) • nZ hs • F) := by
  obtain ⟨⟨u, hs⟩, H⟩ := H.kU
  obtain ⟨h, H⟩ := H.flat.fact
  refine ⟨u, hs, h, ?_, (H.flat.swap.Wh).f3⟩
  have := congrArg List.length h
  have := RD N
  simp only [List.length_map, List.length_append, List.length_take, List.length_reverse] at *
  omega
theorem aA.Ew (h : hs.map (fun g => g.2.map dw.says) = Ig N ++ G.reverse.take k) (H : aA w0 w (cO c (.cells #[u] 180 (0, 0)) • zH u hs • F)) : aA w0 w (yI c G N k • F) :=
  aA.gY (u, hs) (aA.deep (aA.jU h H.deep))
theorem Pv (H : aA w0 w F) (hv : v.oneCell' = true) : fQ prog 164 #[v] w fun v' w' => ∃ b, v' = .func (.func 176) #[] #[.pointer (some ⟨b, 0, none⟩)] ∧ aA w0 w' (cO b (.cells #[v] 180 (0, 0)) • F) := by
 refine iw func164 ntmps164 ?_
 dsimp only [aZ, Nat.reduceAdd]
 refine ay (ah (gB (ig (l := [_]) H rfl (by first | rfl | exact xQ (by first | rfl | assumption))) ?_))
 rintro _ w1 ⟨b1, rfl, H1⟩
 refine aW rfl (aB (aj (ay (ah (aU (rV rfl rfl) (aW rfl (aB (aj (aN (aT (.inl rfl) results164 rfl ?_))))))))))
 exact ⟨_, rfl, H1⟩
theorem Me (b : Nat) : Iter prog w0 (.func (.func 176) #[] #[.pointer (some ⟨b, 0, none⟩)]) (cO b (.cells #[v] 180 (0, 0)) • Row 67 1 v gs.length (gs.map (·.1)) • nZ gs) gs.length
  (fun k vs A => ∃ gl wC, gs.getD (gs.length - (k + 1)) default = (gl, wC) ∧ vs = [.int .i64 ((gs.length - (k + 1) : Nat) : Int), gl] ∧ A = Ar gl wC) := by
 intro l J X w hy H
 refine ⟨176, [], [.pointer (some ⟨b, 0, none⟩)], _, _, rfl, func176, rfl, rfl, ?_⟩
 have H1 : aA w0 w (cO b (.cells #[v] 180 (0, 0)) • Row 67 1 v gs.length (gs.map (·.1)) • nZ gs • J 0) := H.of_eq (by ac_rfl)
 obtain ⟨a, c, hv, hc1, hc2, _⟩ := (H1.swap.aJ).form
 subst hv
 simp only [List.nil_append, List.cons_append]
 refine iw func176 ntmps176 ?_
 dsimp only [aZ, Nat.reduceAdd]
 refine ay (ah (dA underlying180 rfl (H1).get.2 rfl (aU (eY ((H1.f2).aJ) underlying180 rfl) (aU (je rfl rfl (by omega)) (aW rfl (aB (aj (aY ?_))))))))
 refine eP [(0, _), (1, _)] (fun (k : Nat) => [(3, .int .i64 ((k : Int) - 1))]) (fun (k : Nat) W => k ≤ gs.length ∧ aA w0 W (cO b (.cells #[.slice a gs.length c] 180 (0, 0)) • Row 67 1 (.slice a gs.length c) gs.length (gs.map (·.1)) • nZ gs • J (gs.length - k))) (fun (k : Nat) => k) (gs.length) (Sub.cons rfl (Sub.cons rfl (Sub.nil _))) (Sub.cons rfl (Sub.nil _)) ⟨by omega, by rw [Nat.sub_self]; exact H1⟩ ?_
 rintro k w1 ⟨hk, HL⟩
 dsimp only [List.cons_append, List.nil_append]
 refine ay (ay (ah (aP rfl (aU (wW rfl rfl) (aB (aj (aO rfl (fun h1 => ?_) (fun h1 => ?_))))))))
 ·(try simp only [aG] at h1)
  try (exfalso; first | contradiction | omega)
  all_goals
   refine aQ (aj (ay (aY (ay ?_))))
   obtain ⟨m, rfl⟩ : ∃ m, k = m + 1 := ⟨k - 1, by omega⟩
   rw [show (((m + 1 : Nat) : Int) - 1) = (m : Int) from by omega]
   have hkl : m < gs.length := by omega
   refine ah (aP rfl (aP rfl (dA underlying180 rfl (HL).get.2 rfl (aP rfl ?_))))
   obtain ⟨bv, ov, cv, ev⟩ := Rd.kN ((HL.f2).aJ) (by omega)
   cases ev
   refine aU (bV underlying180 sizeOf67 rfl rfl (by omega)) ?_
   refine aU (dB (bG underlying67 rfl) rfl (by first | exact Rd.oV ((HL.f2).aJ) (by omega) | exact Rd.CQ ((HL.f2).aJ) (by omega) | exact Rd.BH ((HL.f2).aJ) (by omega))) ?_
   rw [show (gs.map (·.1)).getD m undef = (gs.getD m default).1 from by simp [List.getD_eq_getElem?_getD, hkl]]
   obtain ⟨gl, wC, hg⟩ : ∃ gl wC, gs.getD m default = (gl, wC) := ⟨_, _, rfl⟩
   rw [hg]
   have Ho2 := HL.f3
   have Hc3 := Ho2.Ic hkl hg
   refine gB (Dq rfl rfl (hy (gs.length - (m + 1)) (by omega) _ _ ⟨gl, wC, by rw [show gs.length - (gs.length - (m + 1) + 1) = m from by omega]; exact hg, by rw [show gs.length - (gs.length - (m + 1) + 1) = m from by omega], rfl⟩ (nZ gs • Row 67 1 (.slice (some ⟨bv, ov, none⟩) gs.length c) gs.length (gs.map (·.1)) • cO b (.cells #[.slice (some ⟨bv, ov, none⟩) gs.length c] 180 (0, 0))) _ (Hc3.of_eq (by ac_rfl))).bool) ?_
   rintro _ w4 ⟨t, rfl, ht1, ht2⟩
   refine aU (jT rfl) (aB (aj (aO rfl (fun h2 => ?_) (fun h2 => ?_))))
   ·(try simp only [aG] at h2)
    try (exfalso; first | contradiction | omega)
    all_goals
     have HX := ht2 (by simpa using h2)
     refine aN (aX (aK (aK (aX (gq (.inl rfl) results176 ?_)))))
     exact .inr (HX.of_eq (by ac_rfl))
   ·(try simp only [aG] at h2)
    try (exfalso; first | contradiction | omega)
    all_goals
     have HN : aA w0 w4 (cO b (.cells #[.slice (some ⟨bv, ov, none⟩) gs.length c] 180 (0, 0)) • Row 67 1 (.slice (some ⟨bv, ov, none⟩) gs.length c) gs.length (gs.map (·.1)) • nZ gs • J (gs.length - m)) := by
      have h9 := ht1 (by simpa using h2)
      rw [show gs.length - (m + 1) + 1 = gs.length - m from by omega] at h9
      exact h9.of_eq (by ac_rfl)
     refine aQ (aH (aj (ah (aP rfl (aU (je rfl rfl (by omega)) (aW rfl (aB ?_)))))))
     refine bZ (m) ?_ ?_ ?_ ?_
     ·exact (Sub.cons rfl (Sub.nil _))
     ·exact (Sub.cons rfl (Sub.cons rfl (Sub.nil _)))
     ·(try dsimp only)
      first | done | exact ⟨by omega, HN.f3.f3.f3⟩
     ·(try dsimp only); omega
 ·(try simp only [aG] at h1)
  try (exfalso; first | contradiction | omega)
  all_goals
   refine dK (aV (aV (bD (gq (.inr rfl) results176 ?_))))
   obtain rfl : k = 0 := by omega
   rw [Nat.sub_zero] at HL
   exact .inl (HL.of_eq (by ac_rfl))
theorem C9 (H : aA w0 w (eF p G N op • F)) : fQ prog 129 #[.pointer (some ⟨p, 0, none⟩)] w fun v w' => ∃ c, v = .func (.func 165) #[] #[.pointer (some ⟨c, 0, none⟩)] ∧ aA w0 w' (yI c G N G.length • eF p G N op • F) := by
 refine iw func129 ntmps129 ?_
 dsimp only [aZ, Nat.reduceAdd]
 refine ay (ah (aW rfl (aB (aj (ay (ah (gB (bW (l := [_]) H zeroValue180 rfl) ?_)))))))
 rintro _ w1 ⟨b1, rfl, H1⟩
 refine aB (aj (ay (ay (ah (aP rfl (dD rfl func161 (iO H1.f2) ?_))))))
 rintro _ _ ⟨rfl, rfl⟩
 refine aU (jT rfl) ?_
 obtain ⟨wU, uj, jJ, jh, iR, o7, mY, Ba, Bc, FC, kT⟩ := (H1.f2).qO
 have hLn : jh.length ≤ 16384 := by omega
 have hBn := JL mY iR.2.2.2.2.2
 refine aB (aj (aO rfl (fun h1 => ?_) (fun h => by exfalso; (try simp only [aG] at h); simp at h)))
 (try simp only [aG] at h1)
 refine sZ [(0, _), (3, _)] (fun (_ : Unit) => []) (fun (_ : Unit) W => aA w0 W (yI b1 G N 0 • cO p (.cells #[wU, uj, .int .i64 op, .int .i64 (fB G N : Nat), .bool true] 233 (0, 0)) • Row 67 1 wU jJ.length (jJ.map (·.1)) • nZ jJ • Row 202 3 uj jh.length (jh.flatMap dw.enc) • jq jh • F)) (Sub.cons rfl (Sub.cons rfl (Sub.nil _))) ?_ ?_
 ·rintro _ w4 HJ
  dsimp only [List.cons_append, List.nil_append]
  refine ay (ah (aP rfl (bT rfl (bf 0 underlying233 rfl sizeOf231 rfl (bf 0 underlying231 rfl sizeOf180 rfl (dA underlying180 rfl (HJ.f2).get.2 rfl (dD rfl func164 (Pv HJ (Rd.one ((HJ.f3).aJ))) ?_)))))))
  rintro _ w5 ⟨bB5, rfl, H5⟩
  refine aB (aj (aY ?_))
  obtain ⟨R6, ZO, HR6⟩ := aA.XO (H5.f5.f5.f3.f4)
  refine qY rfl (Me bB5) (fun k => yI b1 G N k • R6) (fact False) (fun _ => fact False) (HR6.f4.f4.f4.f4.f4.f4.f4.g3.comm) (by rfl) ?_ ?_ ?_ ?_
  ·rintro l7 k UF vs7 A7 ⟨gl, wC, hg, rfl, rfl⟩ G7 w7 H7
   try simp only [bF, ji, nO] at H7
   refine ⟨rfl, ?_⟩
   dsimp only [JI]
   obtain ⟨u, hs, Po, hhl, HI⟩ := (H7.f2).JV
   have hge : wC.map dw.says = G.getD (G.length - (k + 1)) [] := by
    rw [← Ba, ← o7]
    have h9 : (jJ.map (fun g => g.2.map dw.says)).getD (jJ.length - (k + 1)) [] = (jJ.getD (jJ.length - (k + 1)) default).2.map dw.says := by simp [List.getD_eq_getElem?_getD, show jJ.length - (k + 1) < jJ.length by omega]
    rw [h9, hg]
   have hgm : G.getD (G.length - (k + 1)) [] ∈ G := uM (by omega)
   have hBg := JL hge (iR.2.2.2.2.1 _ hgm)
   have YC : wC.length ≤ 16384 := by
    have h8 := iR.2.1
    unfold fB at h8
    have h7 := congrArg List.length hge
    rw [List.length_map] at h7
    have h6 := Ie hgm
    omega
   refine ah (aW rfl (aB ?_))
   refine Ia (HI.g5) ?_
   intro G8 w8 H8
   try simp only [bF] at H8
   refine aY ?_
   have YH := H8.drew
   have RN := aA.kp (YH.f4.f4.f4.f4)
   refine vJ [0] RN rfl (gG 0 rfl RN (fun W hW => iF underlying180 rfl ((Kp.h hW)).get.2 rfl) (fU 1 rfl RN rfl (jm 2 rfl (rX rfl func162 (um YH.f4 hBg YC)) ?_)))
   rintro u9 w9 ⟨fs9, aav, H9⟩
   obtain ⟨es2, rfl⟩ : ∃ q, q = fs9 := ⟨_, rfl⟩
   have hes2 := aav
   have Q8 := aA.kp (H9.f6.f6.f6.f6.f6.f6)
   refine bU Q8 (fun W hW => (Kp.h hW).right.right.f4.f4.f4) ?_
   refine jm 3 rfl (jv (vs := [_]) H9 underlying180 sizeOf67 zeroValue67 rfl rfl rfl (by decide) (aC (by first | rfl | exact Rd.one ((H9).aJ)) bg)) ?_
   rintro l10 w10 qK
   have Ro := aA.kp (qK.f7.f7.f7.f7.f7.f7.f7)
   refine bU Ro (fun W hW => (Kp.h hW).right.f6.f6.f6.f6.f6.f6) ?_
   refine jm 4 rfl (fK qK.f6 underlying180 (show (prog.info? 67).map (fun i => (i.zero, i.size, i.bytes)) = some (some (.slice none 0 0), 1, 24) by kernel_rfl) rfl rfl rfl ((qK).aJ) (aC (by first | rfl | exact Rd.one ((qK.f2).aJ)) bg) (by omega) (by omega)) ?_
   rintro YA IV vK
   have FD := vK.f2.right
   have zN := aA.kp (FD.f6.f6.f6.f6.f6.f6)
   refine dS zN (by kernel_rfl) ?_
   refine dO 5 rfl (by kernel_rfl) (aS 0 (l' := [_]) FD.f5 sizeOf180 rfl rfl (by first | rfl | exact Rd.one ((FD).aJ)) rfl rfl) ?_
   rintro _ OY xq
   have Ei := aA.kp (xq.f6.f6.f6.f6.f6.f6)
   refine dS Ei (by kernel_rfl) ?_
   refine mD (aH ?_)
   refine yS ?_
   have X := aA.sJ (es := es2) (xq.f5.right.f5.f3.f5.f5).deep
   exact (aA.Ew (hs := hs ++ [(u9, es2)]) (by rw [List.map_append, Po, rev_succ (by omega), ← hge, ← hes2, List.append_assoc]; rfl) (aA.uQ X.swap).swap).deep
  ·rintro D14 OZ yR
   have Rq := yR.ed
   try simp only [bF, ji, nO] at Rq
   have Wy := Rq.I7
   subst ZO
   refine aH (aj (ay (ah (aU (rV rfl rfl) (aW rfl (aB (aj (aN ?_))))))))
   refine zu (.inl rfl) (Wy) (fun QV xu => ?_)
   refine ⟨_, TY results129 rfl, ?_⟩
   have hgl : yI b1 G N jJ.length = yI b1 G N G.length := by rw [Ba]
   rw [hgl] at xu
   have aaw := xu.f7.f7.f5.f5.f7
   have aax := aA.jB iR o7 mY rfl aaw
   exact ⟨_, rfl, aax.f2.right.f2⟩
  ·rintro D w H; exact absurd H.swap.fact.1 id
  ·rintro id D w H; exact absurd H.swap.fact.1 fun h => h
 ·skip
  refine ay (ah (aP rfl (bT rfl (bf 0 underlying233 rfl sizeOf231 rfl (bf 1 underlying231 rfl sizeOf67 rfl (dA underlying67 rfl (kT).get.2 rfl (aU (eY ((kT.f4).aJ) underlying67 rfl) (aU (gU rfl rfl) (aB (aj (aO rfl (fun h2 => ?_) (fun h2 => ?_))))))))))))
  ·(try simp only [aG] at h2)
   have hN : Ig N = [N] := if_neg (by rintro rfl; exact absurd Bc (by simp only [List.length_nil]; omega))
   have VE := kT.drew
   have yV := aA.kp (VE.f6.f6.f6.f6.f6.f6)
   refine vJ [0, 5] yV rfl (gG 0 rfl yV (fun W hW => iF underlying180 rfl ((Kp.h hW).f6).get.2 rfl) (fU 1 rfl yV rfl (iZ 2 rfl yV rfl (dU 3 rfl yV 0 underlying233 rfl sizeOf231 rfl (dU 4 rfl yV 1 underlying231 rfl sizeOf67 rfl (gG 5 rfl yV (fun W hW => iF underlying67 rfl ((Kp.h hW)).get.2 rfl) (jm 6 rfl (rX rfl func162 (xB VE.f5.f5 hBn hLn)) ?_)))))))
   rintro u19 TS ⟨aay, YI, xX⟩
   obtain ⟨es1, rfl⟩ : ∃ q, q = aay := ⟨_, rfl⟩
   have hes1 := YI
   have JW := aA.kp (xX.f8.f8.f8.f8.f8.f8.f8.f8)
   refine bU JW (fun W hW => (Kp.h hW).right.right.f6.f3.f3.f6.f6.f6) ?_
   refine jm 7 rfl (jv (vs := [_]) xX underlying180 sizeOf67 zeroValue67 rfl rfl rfl (by decide) (aC (by first | rfl | exact Rd.one ((xX).aJ)) bg)) ?_
   rintro YJ QW zh
   have zW := aA.kp (zh.f9.f9.f9.f9.f9.f9.f9.f9.f9)
   refine bU zW (fun W hW => (Kp.h hW).right.f8.f8.f8.f8.f8.f8.f8.f8) ?_
   refine jm 8 rfl (fK (zh.iH none) underlying180 (show (prog.info? 67).map (fun i => (i.zero, i.size, i.bytes)) = some (some (.slice none 0 0), 1, 24) by kernel_rfl) rfl rfl rfl ((zh).aJ) (aC (by first | rfl | exact Rd.one ((zh.f2).aJ)) bg) (by omega) (by omega)) ?_
   rintro l21 TT oW
   have Dc := oW.f2.right
   have zX := aA.kp (Dc.f9.f9.f9.f9.f9.f9.f9.f9.f9)
   refine dS zX (by kernel_rfl) ?_
   refine dO 9 rfl (by kernel_rfl) (aS 0 (l' := [_]) Dc.f9 sizeOf180 rfl rfl (by first | rfl | exact Rd.one ((Dc).aJ)) rfl rfl) ?_
   rintro _ Qh vN
   have BO := aA.kp (vN.f9.f9.f9.f9.f9.f9.f9.f9.f9)
   refine dS BO (by kernel_rfl) ?_
   have X := aA.sJ (es := es1) (vN.f6.f6.f9.f9.f9.f6.f7.f9.f9).deep
   have hJn : aA w0 Qh (yI b1 G N 0 • cO p (.cells #[wU, uj, .int .i64 op, .int .i64 (fB G N : Nat), .bool true] 233 (0, 0)) • Row 67 1 wU jJ.length (jJ.map (·.1)) • nZ jJ • Row 202 3 uj jh.length (jh.flatMap dw.enc) • jq jh • F) :=
    aA.Ew (hs := [(u19, es1)]) (by rw [hN, ← mY, ← hes1]; rfl) (aA.uQ (gs := []) X.Jp.f3.f3.f2).swap
   refine mD ?_
   refine dh (()) ?_ ?_ ?_
   ·exact (Sub.nil _)
   ·exact (Sub.cons rfl (Sub.cons rfl (Sub.nil _)))
   ·(try dsimp only)
    first | done | exact hJn
  ·(try simp only [aG] at h2)
   have hN : Ig N = [] := if_pos (by rw [← mY, List.eq_nil_of_length_eq_zero (show jh.length = 0 by omega)]; rfl)
   have hJn : aA w0 w1 (yI b1 G N 0 • cO p (.cells #[wU, uj, .int .i64 op, .int .i64 (fB G N : Nat), .bool true] 233 (0, 0)) • Row 67 1 wU jJ.length (jJ.map (·.1)) • nZ jJ • Row 202 3 uj jh.length (jh.flatMap dw.enc) • jq jh • F) :=
    aA.Ew (hs := []) (by rw [hN]; rfl) ((kT.f5.f5.f5.f5.f5.f6).zI none).swap
   refine aQ ?_
   refine dh (()) ?_ ?_ ?_
   ·exact (Sub.nil _)
   ·exact (Sub.cons rfl (Sub.cons rfl (Sub.nil _)))
   ·(try dsimp only)
    first | done | exact hJn
theorem JX (c : Nat) (hB : ∀ g ∈ yT G N, ∀ e ∈ g, EB e) (hL : ∀ g ∈ yT G N, g.length ≤ 16384) : Iter prog w0 (.func (.func 165) #[] #[.pointer (some ⟨c, 0, none⟩)]) (yI c G N G.length) (yT G N).length
  (fun k vs A => ∃ u, ∃ fs : List dw, fs.map dw.says = (yT G N).getD k [] ∧ vs = [u] ∧ A = Fv u fs) := by
 intro l J X w hy H
 refine ⟨165, [], [.pointer (some ⟨c, 0, none⟩)], _, _, rfl, func165, rfl, rfl, ?_⟩
 obtain ⟨v, hs, Po, hhl, H1⟩ := H.comm.JV
 have YK := Po
 rw [List.take_of_length_le (by simp), ← UH] at Po
 have hlen : hs.length = (yT G N).length := by have := congrArg List.length Po; simpa using this
 obtain ⟨a, d, hv, hc1, hc2, _⟩ := (H1.swap.aJ).form
 subst hv
 simp only [List.nil_append, List.cons_append]
 refine iw func165 ntmps165 ?_
 dsimp only [aZ, Nat.reduceAdd]
 refine ay (ah (dA underlying180 rfl (H1).get.2 rfl (aU (eY ((H1.f2).aJ) underlying180 rfl) (aP rfl (aB (aj (aY ?_)))))))
 refine eP [(0, _), (5, _), (6, _)] (fun (k : Nat) => [(7, .int .i64 (k : Int))]) (fun (k : Nat) W => k ≤ hs.length ∧ aA w0 W (cO c (.cells #[.slice a hs.length d] 180 (0, 0)) • Row 67 1 (.slice a hs.length d) hs.length (hs.map (·.1)) • nZ hs • J k)) (fun (k : Nat) => hs.length - k) (0) (Sub.cons rfl (Sub.cons rfl (Sub.cons rfl (Sub.nil _)))) (Sub.cons rfl (Sub.nil _)) ⟨by omega, H1⟩ ?_
 rintro k w1 ⟨hk, HL⟩
 dsimp only [List.cons_append, List.nil_append]
 refine ay (ah (aU (dV rfl rfl) (aB (aj (ay (aO rfl (fun h1 => ?_) (fun h1 => ?_)))))))
 ·(try simp only [aG] at h1)
  try (exfalso; first | contradiction | omega)
  all_goals
   refine aQ (aj (ay (aY (ay (ah ?_)))))
   obtain ⟨bv, ov, cv, ev⟩ := Rd.kN ((HL.f2).aJ) (by omega)
   cases ev
   refine aU (bV underlying180 sizeOf67 rfl rfl (by omega)) ?_
   refine aU (dB (bG underlying67 rfl) rfl (by first | exact Rd.oV ((HL.f2).aJ) (by omega) | exact Rd.CQ ((HL.f2).aJ) (by omega) | exact Rd.BH ((HL.f2).aJ) (by omega))) ?_
   have hkl : k < hs.length := by omega
   rw [show (hs.map (·.1)).getD k undef = (hs.getD k default).1 from by simp [List.getD_eq_getElem?_getD, hkl]]
   obtain ⟨gl, wC, hg⟩ : ∃ gl wC, hs.getD k default = (gl, wC) := ⟨_, _, rfl⟩
   rw [hg]
   have Ho2 := HL.f3
   have Hc3 := Ho2.Ic hkl hg
   have hge : wC.map dw.says = (yT G N).getD k [] := by
    rw [← Po]
    have h9 : (hs.map (fun g => g.2.map dw.says)).getD k [] = (hs.getD k default).2.map dw.says := by simp [List.getD_eq_getElem?_getD, hkl]
    rw [h9, hg]
   have hgm : (yT G N).getD k [] ∈ yT G N := uM (by omega)
   have hBg := JL hge (hB _ hgm)
   have YC : wC.length ≤ 16384 := by
    have h7 := congrArg List.length hge
    rw [List.length_map] at h7
    have := hL _ hgm
    omega
   refine aW rfl (aB (aj (ay (ah (aP rfl (aP rfl (dD rfl func162 (um Hc3 hBg YC) ?_)))))))
   rintro u4 w4 ⟨fs4, aaz, H4⟩
   obtain ⟨es2, rfl⟩ : ∃ q, q = fs4 := ⟨_, rfl⟩
   have hes2 := aaz
   have Hd5 := H4.f3.right
   refine gB (Dq rfl rfl (hy k (by omega) _ _ ⟨_, es2, hes2.trans hge, rfl, rfl⟩ (nZ hs • Row 67 1 (.slice (some ⟨bv, ov, none⟩) hs.length d) hs.length (hs.map (·.1)) • cO c (.cells #[.slice (some ⟨bv, ov, none⟩) hs.length d] 180 (0, 0))) _ (Hd5.of_eq (by unfold Fv; ac_rfl))).bool) ?_
   rintro _ w6 ⟨t, rfl, ht1, ht2⟩
   refine aU (jT rfl) (aB (aj (aO rfl (fun h2 => ?_) (fun h2 => ?_))))
   ·(try simp only [aG] at h2)
    try (exfalso; first | contradiction | omega)
    all_goals
     have HX := ht2 (by simpa using h2)
     refine aN (aX (aK (aK (aX (gq (.inl rfl) results165 ?_)))))
     exact .inr (aA.comm (aA.Ew (u := .slice (some ⟨bv, ov, none⟩) hs.length d) YK (HX.of_eq (by unfold zH; ac_rfl))))
   ·(try simp only [aG] at h2)
    try (exfalso; first | contradiction | omega)
    all_goals
     have HN : aA w0 w6 (cO c (.cells #[.slice (some ⟨bv, ov, none⟩) hs.length d] 180 (0, 0)) • Row 67 1 (.slice (some ⟨bv, ov, none⟩) hs.length d) hs.length (hs.map (·.1)) • nZ hs • J (k + 1)) := by
      have h9 := ht1 (by simpa using h2)
      exact h9.of_eq (by ac_rfl)
     refine aQ (aH (aj (ah (aU (dR rfl rfl (by omega)) (aP rfl (aB ?_))))))
     refine bZ (k + 1) ?_ ?_ ?_ ?_
     ·exact (Sub.cons rfl (Sub.nil _))
     ·exact (Sub.cons rfl (Sub.cons rfl (Sub.cons rfl (Sub.nil _))))
     ·(try dsimp only)
      first | done | exact ⟨by omega, HN.f3.f3.f3⟩
     ·(try dsimp only); omega
 ·(try simp only [aG] at h1)
  try (exfalso; first | contradiction | omega)
  all_goals
   refine dK (aV (aV (bD (gq (.inr rfl) results165 ?_))))
   obtain rfl : k = hs.length := by omega
   rw [← hlen]
   exact .inl (aA.comm (aA.Ew (u := .slice a hs.length d) YK (HL.of_eq (by unfold zH; ac_rfl))))
end
end Go.Proofs.YtddekefihgejoaaGreatDoor
end
section
namespace Go.Proofs.YtddekefihgejoaaGreatDoor
open Go.RowKit
def BP (P : Int → Nat) (U : Int → List (List fG)) : List Int → HP
  | [] => emp
  | k :: D => eF (P k) (U k) [] 0 • BP P U D
def JY (D : List Int) (P : Int → Nat) : Int → Option Value := fun k => if k ∈ D then some (.pointer (some ⟨P k, 0, none⟩)) else none
theorem mV {P : Int → Nat} {U : Int → List (List fG)} {k : Int} : ∀ {D : List Int}, k ∈ D → BP P U D = (eF (P k) (U k) [] 0 • BP P U (D.erase k))
  | x :: D, h => by
    by_cases e : x = k
    · subst e; rw [List.erase_cons_head]; rfl
    · rw [List.erase_cons_tail (by simpa using e)]
      have hk : k ∈ D := (List.mem_cons.1 h).resolve_left (Ne.symm e)
      show (eF (P x) (U x) [] 0 • BP P U D) = _
      rw [mV hk]
      show (eF (P x) (U x) [] 0 • eF (P k) (U k) [] 0 • BP P U (D.erase k)) = (eF (P k) (U k) [] 0 • (eF (P x) (U x) [] 0 • BP P U (D.erase k)))
      ac_rfl
theorem xY {P P' : Int → Nat} {U U' : Int → List (List fG)} : ∀ {D : List Int}, (∀ k ∈ D, P k = P' k ∧ U k = U' k) → BP P U D = BP P' U' D
  | [], _ => rfl
  | x :: D, h => by
    show (eF (P x) (U x) [] 0 • BP P U D) = (eF (P' x) (U' x) [] 0 • BP P' U' D)
    rw [(h x (by simp)).1, (h x (by simp)).2, xY fun k hk => h k (List.mem_cons_of_mem _ hk)]
def qF (b : Nat) (U : Int → List (List fG)) : HP := qC fun (x : List Int × (Int → Nat)) => fact (x.1.Nodup ∧ ∀ k, k ∉ x.1 → U k = []) • dY lI b (JY x.1 x.2) • BP x.2 U x.1
def Gl (b : Nat) (U : Int → List (List fG)) (k : Int) (p : Nat) : HP := qC fun (x : List Int × (Int → Nat)) => fact (x.1.Nodup ∧ (∀ k, k ∉ x.1 → U k = []) ∧ k ∈ x.1 ∧ x.2 k = p) • dY lI b (JY x.1 x.2) • BP x.2 U (x.1.erase k)
section
variable {w0 w : World} {F : HP} {b p : Nat} {k : Int} {U : Int → List (List fG)} {G : List (List fG)}
theorem aA.RP (H : aA w0 w (qF b U • F)) : ∃ D P, (D : List Int).Nodup ∧ (∀ k, k ∉ D → U k = []) ∧ aA w0 w (dY lI b (JY D P) • BP P U D • F) := by
  obtain ⟨⟨D, P⟩, H⟩ := H.kU
  obtain ⟨⟨h1, h2⟩, H⟩ := H.flat.fact
  exact ⟨D, P, h1, h2, H.flat⟩
theorem aA.xZ {D : List Int} {P : Int → Nat} (h1 : D.Nodup) (h2 : ∀ k, k ∉ D → U k = []) (H : aA w0 w (dY lI b (JY D P) • BP P U D • F)) : aA w0 w (qF b U • F) :=
  aA.gY (D, P) (aA.deep (aA.jU ⟨h1, h2⟩ H.deep))
theorem aA.RQ {D : List Int} {P : Int → Nat} (h1 : D.Nodup) (h2 : ∀ k, k ∉ D → U k = []) (hk : k ∈ D) (H : aA w0 w (dY lI b (JY D P) • BP P U D • F)) : aA w0 w (eF (P k) (U k) [] 0 • Gl b U k (P k) • F) := by
  have H1 : aA w0 w ((dY lI b (JY D P) • BP P U (D.erase k)) • eF (P k) (U k) [] 0 • F) := H.of_eq (by rw [mV hk]; ac_rfl)
  have H2 : aA w0 w (Gl b U k (P k) • eF (P k) (U k) [] 0 • F) := aA.gY (D, P) (aA.deep (aA.jU ⟨h1, h2, hk, rfl⟩ H1))
  exact H2.swap
theorem aA.uX (H : aA w0 w (Gl b U k p • eF p G [] 0 • F)) : aA w0 w (qF b (uo U k G) • F) := by
  obtain ⟨⟨D, P⟩, H⟩ := H.kU
  obtain ⟨⟨h1, h2, hk, hp⟩, H⟩ := H.flat.fact
  dsimp only at h1 h2 hk hp H
  subst hp
  refine aA.xZ (D := D) (P := P) h1 (fun x hx => ?_) ?_
  · rw [sO _ _ (by rintro rfl; exact hx hk)]; exact h2 x hx
  · rw [mV (U := uo U k G) hk, iL, xY (P' := P) (U' := U) fun x hx => ⟨rfl, sO _ _ (by rintro rfl; exact (List.Nodup.not_mem_erase h1) hx)⟩]
    exact H.of_eq (by ac_rfl)
end
def lJ (t : Int → Option ByteArray) : Int → Option Value := fun k => (t k).map .string
def MB (pb pr pw pt pm : Nat) (c : lV) : HP := dQ pb c.L c.pt c.mark • eu pr c.E c.at_ • cO pw (.cells #[.int .i64 c.place, .map (some pt)] 125 (0, 0)) • dY lI pt (lJ c.tx) • qF pm c.un
def JZ (pb pr pw pm : Nat) (c : lV) : List Value := [.pointer (some ⟨pb, 0, none⟩), .pointer (some ⟨pr, 0, none⟩), .pointer (some ⟨pw, 0, none⟩), .map (some pm), .int .i64 c.mode, .bool c.over, .int .i64 c.last, .int .i64 c.fr, .int .i64 c.to, .int .i64 c.res, .bool c.run]
def sS (inn : Bool) (c : lV) (u : List Value) : HP := if inn = true then qC fun (x : Nat × Nat × Nat × Nat × Nat) => fact (u = JZ x.1 x.2.1 x.2.2.1 x.2.2.2.2 c) • MB x.1 x.2.1 x.2.2.1 x.2.2.2.1 x.2.2.2.2 c else emp
def Bg (hl : List lg) (c : lV) : Prop := 0 ≤ c.place ∧ c.place ≤ hl.length ∧ (∀ k t, c.tx k = some t → t.size ≤ 16384)
def wF (e : fG) : Prop := 0 ≤ e.1 ∧ 0 < e.2.1.length + e.2.2.length ∧ e.2.1.length ≤ 1024 ∧ e.2.2.length ≤ 1024
def kF (s : bH) : Prop := Bg s.hl s.c ∧ (s.inn = true → Bg s.hl s.was ∧ fB (s.was.un s.was.place) [] ≤ 16384 ∧ ∀ k, ∀ g ∈ s.was.un k, ∀ e ∈ g, wF e) ∧ (-1 ≤ s.arg ∧ s.arg ≤ 1000000) ∧ (∀ e ∈ s.put, wF e) ∧ fB s.here s.put ≤ 16384 ∧ (∀ k, ∀ g ∈ s.c.un k, ∀ e ∈ g, wF e)
structure EdP where
  pb : Nat
  pr : Nat
  pw : Nat
  pt : Nat
  pm : Nat
  ph : Nat
  bl : Nat
  pv : Value
  es : List dw
  u0 : Value
  u1 : Value
  u2 : Value
  u3 : Value
  u4 : Value
  u5 : Value
  u6 : Value
  u7 : Value
  u8 : Value
  u9 : Value
  ua : Value
def ZP (e : Nat) (s : bH) (M : Nat → HP) : HP := qC fun (x : EdP) => fact (kF s ∧ x.es.map dw.says = s.put) •
  cO e (.cells (.pointer (some ⟨x.pb, 0, none⟩) :: .pointer (some ⟨x.pr, 0, none⟩) :: .pointer (some ⟨x.pw, 0, none⟩) :: .map (some x.pm) :: .int .i64 s.c.mode :: .bool s.c.over :: .int .i64 s.c.last :: .int .i64 s.c.fr :: .int .i64 s.c.to :: .int .i64 s.c.res :: .bool s.c.run :: .pointer (some ⟨x.ph, 0, none⟩) :: .pointer (some ⟨x.bl, 0, none⟩) :: .bool s.given :: .bool s.minus :: .int .i64 s.arg :: .bool s.inn :: x.u0 :: x.u1 :: x.u2 :: x.u3 :: x.u4 :: x.u5 :: x.u6 :: x.u7 :: x.u8 :: x.u9 :: x.ua :: .int .i64 s.cls :: .bool s.killed :: .bool s.mM :: .bool s.argues :: .bool s.whole :: x.pv :: []).toArray 69 (0, 0)) •
  dQ x.pb s.c.L s.c.pt s.c.mark • eu x.pr s.c.E s.c.at_ • cO x.pw (.cells #[.int .i64 s.c.place, .map (some x.pt)] 125 (0, 0)) • dY lI x.pt (lJ s.c.tx) • M x.pm •
  dn x.ph s.hl s.base s.most • cO x.bl (.cells #[.int .i64 s.ql] 144 (0, 0)) • Row 202 3 x.pv s.put.length (x.es.flatMap dw.enc) • jq x.es • sS s.inn s.was [x.u0, x.u1, x.u2, x.u3, x.u4, x.u5, x.u6, x.u7, x.u8, x.u9, x.ua]
def dN (e : Nat) (s : bH) : HP := ZP e s fun pm => qF pm s.c.un
def aaA (e : Nat) (s : bH) (p : Nat) : HP := ZP e s fun pm => Gl pm s.c.un s.c.place p
section
variable {w0 w : World} {F : HP} {e : Nat} {s : bH} {M : Nat → HP}
theorem aA.edG (H : aA w0 w (ZP e s M • F)) : ∃ pb pr pw pt pm ph bl pv es u0 u1 u2 u3 u4 u5 u6 u7 u8 u9 ua, kF s ∧ es.map dw.says = s.put ∧ es.length = s.put.length ∧ aA w0 w (
  cO e (.cells (.pointer (some ⟨pb, 0, none⟩) :: .pointer (some ⟨pr, 0, none⟩) :: .pointer (some ⟨pw, 0, none⟩) :: .map (some pm) :: .int .i64 s.c.mode :: .bool s.c.over :: .int .i64 s.c.last :: .int .i64 s.c.fr :: .int .i64 s.c.to :: .int .i64 s.c.res :: .bool s.c.run :: .pointer (some ⟨ph, 0, none⟩) :: .pointer (some ⟨bl, 0, none⟩) :: .bool s.given :: .bool s.minus :: .int .i64 s.arg :: .bool s.inn :: u0 :: u1 :: u2 :: u3 :: u4 :: u5 :: u6 :: u7 :: u8 :: u9 :: ua :: .int .i64 s.cls :: .bool s.killed :: .bool s.mM :: .bool s.argues :: .bool s.whole :: pv :: []).toArray 69 (0, 0)) •
  dQ pb s.c.L s.c.pt s.c.mark • eu pr s.c.E s.c.at_ • cO pw (.cells #[.int .i64 s.c.place, .map (some pt)] 125 (0, 0)) • dY lI pt (lJ s.c.tx) • M pm •
  dn ph s.hl s.base s.most • cO bl (.cells #[.int .i64 s.ql] 144 (0, 0)) • Row 202 3 pv s.put.length (es.flatMap dw.enc) • jq es • sS s.inn s.was [u0, u1, u2, u3, u4, u5, u6, u7, u8, u9, ua] • F) := by
  obtain ⟨⟨pb, pr, pw, pt, pm, ph, bl, pv, es, u0, u1, u2, u3, u4, u5, u6, u7, u8, u9, ua⟩, H⟩ := H.kU
  obtain ⟨⟨h1, h2⟩, H⟩ := H.flat.fact
  refine ⟨pb, pr, pw, pt, pm, ph, bl, pv, es, u0, u1, u2, u3, u4, u5, u6, u7, u8, u9, ua, h1, h2, ?_, ?_⟩
  · rw [← h2]; simp
  · dsimp only at H
    exact H.of_eq (by simp only [bF])
theorem aA.WJ {pb pr pw pt pm ph bl : Nat} {pv : Value} {es : List dw} {u0 u1 u2 u3 u4 u5 u6 u7 u8 u9 ua : Value} (h1 : kF s) (h2 : es.map dw.says = s.put) (H : aA w0 w (
  cO e (.cells (.pointer (some ⟨pb, 0, none⟩) :: .pointer (some ⟨pr, 0, none⟩) :: .pointer (some ⟨pw, 0, none⟩) :: .map (some pm) :: .int .i64 s.c.mode :: .bool s.c.over :: .int .i64 s.c.last :: .int .i64 s.c.fr :: .int .i64 s.c.to :: .int .i64 s.c.res :: .bool s.c.run :: .pointer (some ⟨ph, 0, none⟩) :: .pointer (some ⟨bl, 0, none⟩) :: .bool s.given :: .bool s.minus :: .int .i64 s.arg :: .bool s.inn :: u0 :: u1 :: u2 :: u3 :: u4 :: u5 :: u6 :: u7 :: u8 :: u9 :: ua :: .int .i64 s.cls :: .bool s.killed :: .bool s.mM :: .bool s.argues :: .bool s.whole :: pv :: []).toArray 69 (0, 0)) •
  dQ pb s.c.L s.c.pt s.c.mark • eu pr s.c.E s.c.at_ • cO pw (.cells #[.int .i64 s.c.place, .map (some pt)] 125 (0, 0)) • dY lI pt (lJ s.c.tx) • M pm •
  dn ph s.hl s.base s.most • cO bl (.cells #[.int .i64 s.ql] 144 (0, 0)) • Row 202 3 pv s.put.length (es.flatMap dw.enc) • jq es • sS s.inn s.was [u0, u1, u2, u3, u4, u5, u6, u7, u8, u9, ua] • F)) : aA w0 w (ZP e s M • F) :=
  aA.gY ⟨pb, pr, pw, pt, pm, ph, bl, pv, es, u0, u1, u2, u3, u4, u5, u6, u7, u8, u9, ua⟩ (aA.deep (aA.jU ⟨h1, h2⟩ (H.of_eq (by simp only [bF]))))
theorem aA.eG {pb pr pw pt pm ph bl : Nat} {pv : Value} {es : List dw} {u0 u1 u2 u3 u4 u5 u6 u7 u8 u9 ua : Value} (h1 : kF s) (h2 : es.map dw.says = s.put) (H : aA w0 w (
  cO e (.cells (.pointer (some ⟨pb, 0, none⟩) :: .pointer (some ⟨pr, 0, none⟩) :: .pointer (some ⟨pw, 0, none⟩) :: .map (some pm) :: .int .i64 s.c.mode :: .bool s.c.over :: .int .i64 s.c.last :: .int .i64 s.c.fr :: .int .i64 s.c.to :: .int .i64 s.c.res :: .bool s.c.run :: .pointer (some ⟨ph, 0, none⟩) :: .pointer (some ⟨bl, 0, none⟩) :: .bool s.given :: .bool s.minus :: .int .i64 s.arg :: .bool s.inn :: u0 :: u1 :: u2 :: u3 :: u4 :: u5 :: u6 :: u7 :: u8 :: u9 :: ua :: .int .i64 s.cls :: .bool s.killed :: .bool s.mM :: .bool s.argues :: .bool s.whole :: pv :: []).toArray 69 (0, 0)) •
  dQ pb s.c.L s.c.pt s.c.mark • eu pr s.c.E s.c.at_ • cO pw (.cells #[.int .i64 s.c.place, .map (some pt)] 125 (0, 0)) • dY lI pt (lJ s.c.tx) • qF pm s.c.un •
  dn ph s.hl s.base s.most • cO bl (.cells #[.int .i64 s.ql] 144 (0, 0)) • Row 202 3 pv s.put.length (es.flatMap dw.enc) • jq es • sS s.inn s.was [u0, u1, u2, u3, u4, u5, u6, u7, u8, u9, ua] • F)) : aA w0 w (dN e s • F) := aA.WJ (M := fun pm => qF pm s.c.un) h1 h2 H
theorem aA.Ey (H : aA w0 w (dN e s • F)) : ∃ pb pr pw pt pm ph bl pv es u0 u1 u2 u3 u4 u5 u6 u7 u8 u9 ua, kF s ∧ es.map dw.says = s.put ∧ es.length = s.put.length ∧ aA w0 w (
  cO e (.cells (.pointer (some ⟨pb, 0, none⟩) :: .pointer (some ⟨pr, 0, none⟩) :: .pointer (some ⟨pw, 0, none⟩) :: .map (some pm) :: .int .i64 s.c.mode :: .bool s.c.over :: .int .i64 s.c.last :: .int .i64 s.c.fr :: .int .i64 s.c.to :: .int .i64 s.c.res :: .bool s.c.run :: .pointer (some ⟨ph, 0, none⟩) :: .pointer (some ⟨bl, 0, none⟩) :: .bool s.given :: .bool s.minus :: .int .i64 s.arg :: .bool s.inn :: u0 :: u1 :: u2 :: u3 :: u4 :: u5 :: u6 :: u7 :: u8 :: u9 :: ua :: .int .i64 s.cls :: .bool s.killed :: .bool s.mM :: .bool s.argues :: .bool s.whole :: pv :: []).toArray 69 (0, 0)) •
  dQ pb s.c.L s.c.pt s.c.mark • eu pr s.c.E s.c.at_ • cO pw (.cells #[.int .i64 s.c.place, .map (some pt)] 125 (0, 0)) • dY lI pt (lJ s.c.tx) • qF pm s.c.un •
  dn ph s.hl s.base s.most • cO bl (.cells #[.int .i64 s.ql] 144 (0, 0)) • Row 202 3 pv s.put.length (es.flatMap dw.enc) • jq es • sS s.inn s.was [u0, u1, u2, u3, u4, u5, u6, u7, u8, u9, ua] • F) := H.edG
end
end Go.Proofs.YtddekefihgejoaaGreatDoor
end
