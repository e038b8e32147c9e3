/- A region that draws its order, walked once: what only reads is taken as soon as it may come up; what acts is the only one that may come up then. -/
import Derived.Test.YtlldaaamdchkdaaDoorOps
set_option linter.unusedSimpArgs false
set_option linter.unusedVariables false
namespace Go.Proofs.YtlldaaamdchkdaaDoor
open Go.RowKit

/-- Number z waits for number k, over at most so many steps. -/
def waitsFor (ops : Array Oper) : Nat → Nat → Nat → Bool
  | 0, _, _ => false
  | n + 1, z, k => match ops[z]? with
    | none => false
    | some o => o.after.any fun e => Region.binds .any e && (Nat.beq e.on k || waitsFor ops n e.on k)
/-- Number z waits for every other one. -/
def waitsAll (ops : Array Oper) (z : Nat) : Bool := (List.range ops.size).all fun k => Nat.beq k z || waitsFor ops 8 z k
/-- What has come up had what it waits for come up. -/
def Closed (ops : Array Oper) (listed : Array Bool) : Prop := ∀ (j : Nat) (o : Oper), ops[j]? = some o → listed.getD j false = true → ∀ e ∈ o.after, Region.binds .any e = true → listed.getD e.on false = true

def wpAnyG (P : Program) (ops : Array Oper) (Q : Exit → Act → World → Prop) (S : World → Prop) : Nat → Array Bool → Act → World → Prop
  | 0, listed, a, w => Region.ready .any ops listed = [] ∧ Q .normal a w
  | fuel + 1, listed, a, w =>
    (Region.ready .any ops listed = [] → Q .normal a w) ∧
    ∀ i ∈ Region.ready .any ops listed, wpOp P ops Q i (fun a' w' => (S w' ∨ waitsAll ops i = true) ∧ wpAnyG P ops Q S fuel (listed.setIfInBounds i true) a' w') a w

section
variable {P : Program} {ops : Array Oper} {Q : Exit → Act → World → Prop} {S : World → Prop}

theorem wpAny_of_G : ∀ (fuel : Nat) (listed : Array Bool) (a : Act) (w : World), wpAnyG P ops Q S fuel listed a w → wpAny P .any ops Q fuel listed a w
  | 0, _, _, _, h => h
  | fuel + 1, _, _, _, h => ⟨h.1, fun i hi => wpOp_mono (fun a' w' h' => wpAny_of_G fuel _ a' w' h'.2) (h.2 i hi)⟩

theorem getD_set_eq {listed : Array Bool} {j : Nat} (h : j < listed.size) : (listed.setIfInBounds j true).getD j false = true := by simp [Array.getD_eq_getD_getElem?, h]
theorem Closed.set {listed : Array Bool} (h : Closed ops listed) {i : Nat} (hi : i ∈ Region.ready .any ops listed) : Closed ops (listed.setIfInBounds i true) := by
  obtain ⟨_, oi, hoi, hall⟩ := mem_ready.1 hi
  intro j o ho hj e he hb
  by_cases hji : j = i
  · subst hji
    rw [hoi] at ho
    cases ho
    exact getD_set_true (hall e he hb)
  · refine getD_set_true (h j o ho ?_ e he hb)
    rw [getD_set_ne false (Ne.symm hji)] at hj
    exact hj
theorem Closed.start (n : Nat) : Closed ops (Array.replicate n false) := by
  intro j o _ hj
  simp [Array.getD_eq_getD_getElem?, Array.getElem?_replicate] at hj
  split at hj <;> simp at hj
theorem waitsFor_listed {listed : Array Bool} (hc : Closed ops listed) : ∀ (n z k : Nat), (∀ o, ops[z]? = some o → ∀ e ∈ o.after, Region.binds .any e = true → listed.getD e.on false = true) → waitsFor ops n z k = true → listed.getD k false = true
  | 0, _, _, _, h => by simp [waitsFor] at h
  | n + 1, z, k, hz, h => by
    unfold waitsFor at h
    cases ho : ops[z]? with
    | none => simp [ho] at h
    | some o =>
      rw [ho] at h
      obtain ⟨e, he, hb⟩ := Array.any_eq_true'.1 h
      simp only [Bool.and_eq_true, Bool.or_eq_true] at hb
      have hl := hz o ho e he hb.1
      rcases hb.2 with h1 | h1
      · rw [← Nat.eq_of_beq_eq_true h1]; exact hl
      · exact waitsFor_listed hc n e.on k (fun o' ho' => hc e.on o' ho' hl) h1
theorem not_waits {i j : Nat} {listed : Array Bool} (hc : Closed ops listed) (hi : i ∈ Region.ready .any ops listed) (hj : j ∈ Region.ready .any ops listed) (hne : ¬ j = i) : waitsAll ops j = false := by
  obtain ⟨hiun, oi, hoi, _⟩ := mem_ready.1 hi
  obtain ⟨hjun, oj, hoj, hall⟩ := mem_ready.1 hj
  cases hw : waitsAll ops j with
  | false => rfl
  | true =>
    unfold waitsAll at hw
    simp only [List.all_eq_true, List.mem_range] at hw
    have h1 := hw i (Array.getElem?_eq_some_iff.1 hoi).1
    rw [nbeq (fun e => hne e.symm)] at h1
    simp only [Bool.false_or] at h1
    have h2 := waitsFor_listed hc 8 j i (fun o ho e he hb => by rw [hoj] at ho; cases ho; exact hall e he hb) h1
    rcases Nat.lt_or_ge i listed.size with h' | h'
    · simp [h'] at hiun h2; rw [hiun] at h2; cases h2
    · simp [Array.getElem?_eq_none h'] at h2

theorem wpAnyG_first {i : Nat} {oi : Oper} {v : Value} (hi : ops[i]? = some oi) (hsel : ∀ (j : Nat) (o : Oper) cs b, ops[j]? = some o → o.op ≠ .select cs b)
    (hQ : NP Q) :
    ∀ (fuel : Nat) (listed : Array Bool) (a : Act) (w : World), Closed ops listed →
      (∀ j oj, ops[j]? = some oj → j ≠ i → listed.getD j true = false → (∀ e ∈ oj.after, Region.binds .any e = true → e.on ≠ i) → oi.apart ops oj = true) →
      i ∈ Region.ready .any ops listed → YieldsIf P ops S oi v a → S w →
      wpAnyG P ops Q S fuel (listed.setIfInBounds i true) (a.put oi.dst v) w → wpAnyG P ops Q S (fuel + 1) listed a w := by
  intro fuel
  induction fuel with
  | zero =>
    intro listed a w _ _ hr hy hS H
    refine ⟨fun h => (by rw [h] at hr; cases hr), fun j hj => ?_⟩
    by_cases hji : j = i
    · subst hji; exact hy.wpOp hi hS ⟨.inl hS, H⟩
    · have := ready_mono hj hji
      rw [H.1] at this
      cases this
  | succ fuel ih =>
    intro listed a w hcl hfree hr hy hS H
    refine ⟨fun h => (by rw [h] at hr; cases hr), fun j hj => ?_⟩
    by_cases hji : j = i
    · subst hji; exact hy.wpOp hi hS ⟨.inl hS, H⟩
    · have h1 := H.2 j (ready_mono hj hji)
      have hnw := not_waits hcl hr hj hji
      obtain ⟨hjun, oj, hoj, hall⟩ := mem_ready.1 hj
      have hnot : ∀ e ∈ oj.after, Region.binds .any e = true → e.on ≠ i := fun e he hb heq => by
        have h1 := hall e he hb
        have h0 := (mem_ready.1 hr).1
        rw [heq] at h1
        rcases Nat.lt_or_ge i listed.size with h' | h'
        · simp [h'] at h0 h1; rw [h0] at h1; cases h1
        · simp [Array.getElem?_eq_none h'] at h1
      have h2 := wpOp_putIf hoj (hfree j oj hoj hji hjun hnot) (fun cs b => hsel i oi cs b hi) (fun cs b => hsel j oj cs b hoj) (fun c a w h => absurd h (hQ _ _ _)) hy h1
      have hfree' : ∀ k ok, ops[k]? = some ok → k ≠ i → (listed.setIfInBounds j true).getD k true = false →
          (∀ e ∈ ok.after, Region.binds .any e = true → e.on ≠ i) → oi.apart ops ok = true := fun k ok hk hki hun hno => by
        refine hfree k ok hk hki ?_ hno
        by_cases hjk : j = k
        · subst hjk; exact hjun
        · rw [getD_set_ne true hjk] at hun; exact hun
      refine wpOp_mono (fun a' w' h3 => ?_) h2
      have hS' : S w' := h3.2.1.resolve_right (by rw [hnw]; decide)
      refine ⟨.inl hS', ih (listed.setIfInBounds j true) a' w' (hcl.set hj) hfree' (ready_mono hr (Ne.symm hji)) h3.1 hS' ?_⟩
      rw [Array.setIfInBounds_comm _ _ hji]
      exact h3.2.2

end

/-- The walk through such a region: 'listed' have come up. -/
def WD (P : Program) (N : Nat) (ops : Array Oper) (Q : Exit → Act → World → Prop) (S : World → Prop) (fuel : Nat) (listed : Array Bool) (L : List (Nat × Value)) (w : World) : Prop :=
  NP Q → Region.noSelect ops = true → Closed ops listed → ∀ a, Fits N L a → wpAnyG P ops Q S fuel listed a w

section
variable {P : Program} {N : Nat} {ops : Array Oper} {Q : Exit → Act → World → Prop} {S : World → Prop} {fuel : Nat} {listed : Array Bool} {L : List (Nat × Value)} {w w' : World}
  {op : Op} {ty : TypeId} {pos : String} {aft : Array Edge} {d i : Nat} {v : Value} {g : Option (Nat × Bool)}

theorem wd_begin {id n : Nat} (S : World → Prop) (hm : P.follows .mixedOrders = true) (hs : Region.noSelect ops = true) (hn : ops.size = n) (h : WD P N ops Q S n (Array.replicate n false) L w.drew) : WC P N (.region id ops true) Q L w := fun np a ha =>
  wp_region_any hm (wpAny_of_G _ _ _ _ (by rw [hn]; exact h np hs (Closed.start n) a ha))
theorem wd_done (hr : Region.ready .any ops listed = []) (h : WQ N Q .normal L w) : WD P N ops Q S fuel listed L w := fun np _ _ a ha => by
  cases fuel with
  | zero => exact ⟨hr, h np a ha⟩
  | succ n => exact ⟨fun _ => h np a ha, by rw [hr]; simp⟩
/-- Number i, which only reads, is taken. -/
theorem wd_take (i : Nat) (hi : ops[i]? = some ⟨some d, op, ty, pos, aft, none⟩) (hf : Region.free .any ops listed i = true) (hr : (Region.ready .any ops listed).contains i = true) (hS : S w)
    (hv : ∀ w', S w' → Val P L op ty w' v w') (hd : d < N) (h : WD P N ops Q S fuel (listed.setIfInBounds i true) ((d, v) :: L) w) : WD P N ops Q S (fuel + 1) listed L w := fun np ns cl a ha =>
  wpAnyG_first hi (Region.noSelect_spec ns) np fuel listed a w cl (Region.free_spec hi hf) (by simpa using hr) (.inl ⟨by simp [Region.wanted], fun w' hw' => hv w' hw' a.eval (fun x u hx => ha.ev hx) _ _ _ _⟩) hS (h np ns (cl.set (by simpa using hr)) _ (ha.put hd v))
/-- Number i, whose guard says yes, likewise. -/
theorem wd_take_yes (i : Nat) {j t : Nat} {want : Bool} (hi : ops[i]? = some ⟨some d, op, ty, pos, aft, some (j, want)⟩) (hj : (ops[j]?).bind (·.dst) = some t) (hl : look L t = some (.bool want)) (hf : Region.free .any ops listed i = true) (hr : (Region.ready .any ops listed).contains i = true) (hS : S w)
    (hv : ∀ w', S w' → Val P L op ty w' v w') (hd : d < N) (h : WD P N ops Q S fuel (listed.setIfInBounds i true) ((d, v) :: L) w) : WD P N ops Q S (fuel + 1) listed L w := fun np ns cl a ha =>
  wpAnyG_first hi (Region.noSelect_spec ns) np fuel listed a w cl (Region.free_spec hi hf) (by simpa using hr) (.inl ⟨by simp [Region.wanted, yielded_of ha hj hl], fun w' hw' => hv w' hw' a.eval (fun x u hx => ha.ev hx) _ _ _ _⟩) hS (h np ns (cl.set (by simpa using hr)) _ (ha.put hd v))
/-- Number i, whose guard says no, is passed over. -/
theorem wd_no (i : Nat) {j t : Nat} {want b : Bool} (hi : ops[i]? = some ⟨some d, op, ty, pos, aft, some (j, want)⟩) (hj : (ops[j]?).bind (·.dst) = some t) (hl : look L t = some (.bool b)) (hb : (b == want) = false)
    (hf : Region.free .any ops listed i = true) (hr : (Region.ready .any ops listed).contains i = true) (hS : S w) (hd : d < N) (h : WD P N ops Q S fuel (listed.setIfInBounds i true) ((d, undef) :: L) w) : WD P N ops Q S (fuel + 1) listed L w := fun np ns cl a ha =>
  wpAnyG_first hi (Region.noSelect_spec ns) np fuel listed a w cl (Region.free_spec hi hf) (by simpa using hr) (.inr ⟨by simp [Region.wanted, yielded_of ha hj hl]; simpa using hb, rfl⟩) hS (h np ns (cl.set (by simpa using hr)) _ (ha.put hd _))
theorem wd_nou (i : Nat) {j t : Nat} {want : Bool} (hi : ops[i]? = some ⟨some d, op, ty, pos, aft, some (j, want)⟩) (hj : (ops[j]?).bind (·.dst) = some t) (hl : look L t = some undef)
    (hf : Region.free .any ops listed i = true) (hr : (Region.ready .any ops listed).contains i = true) (hS : S w) (hd : d < N) (h : WD P N ops Q S fuel (listed.setIfInBounds i true) ((d, undef) :: L) w) : WD P N ops Q S (fuel + 1) listed L w := fun np ns cl a ha =>
  wpAnyG_first hi (Region.noSelect_spec ns) np fuel listed a w cl (Region.free_spec hi hf) (by simpa using hr) (.inr ⟨by simp [Region.wanted, yielded_undef ha hj hl], rfl⟩) hS (h np ns (cl.set (by simpa using hr)) _ (ha.put hd _))
/-- A truth that guards what follows: two ways. -/
theorem wd_split (i : Nat) {x : Operand} {b : Bool} (hi : ops[i]? = some ⟨some d, .move x, ty, pos, aft, none⟩) (hx : ev L x = some (.bool b)) (hf : Region.free .any ops listed i = true) (hr : (Region.ready .any ops listed).contains i = true) (hS : S w) (hd : d < N)
    (ht : b = true → WD P N ops Q S fuel (listed.setIfInBounds i true) ((d, .bool true) :: L) w) (hf' : b = false → WD P N ops Q S fuel (listed.setIfInBounds i true) ((d, .bool false) :: L) w) : WD P N ops Q S (fuel + 1) listed L w := by
  refine wd_take i (v := .bool b) hi hf hr hS (fun w' _ => r_move hx) hd ?_
  cases b
  · exact hf' rfl
  · exact ht rfl

theorem wd_one {i : Nat} {o : Oper} (hi : ops[i]? = some o) (hr : Region.ready .any ops listed = [i]) {a : Act}
    (h : ∀ K : Act → World → Prop, (∀ a' w', (S w' ∨ waitsAll ops i = true) ∧ wpAnyG P ops Q S fuel (listed.setIfInBounds i true) a' w' → K a' w') → if Region.wanted o (yielded ops a.tmps) then o.wp P a w K Q else K (a.put o.dst undef) w) :
    wpAnyG P ops Q S (fuel + 1) listed a w := by
  refine ⟨fun h0 => (by rw [hr] at h0; cases h0), fun j hj => ?_⟩
  rw [hr] at hj
  simp at hj
  subst hj
  unfold wpOp
  rw [hi]
  have := h _ (fun _ _ h => h)
  dsimp only
  split
  · rename_i hw; rw [if_pos hw] at this; exact .inl this
  · rename_i hw; rw [if_neg hw] at this; exact this
/-- Number i acts; no other may come up. -/
theorem wd_eff (i : Nat) {T : Value → World → Prop} (hi : ops[i]? = some ⟨some d, op, ty, pos, aft, none⟩) (hr : Region.ready .any ops listed = [i]) (he : Eff P L op ty w T) (hd : d < N)
    (h : ∀ v w', T v w' → (S w' ∨ waitsAll ops i = true) ∧ WD P N ops Q S fuel (listed.setIfInBounds i true) ((d, v) :: L) w') : WD P N ops Q S (fuel + 1) listed L w := fun np ns cl a ha =>
  wd_one hi hr fun K hK => by
    rw [if_pos (by simp [Region.wanted])]
    exact he.wp ha rfl rfl fun v w' ht => hK _ _ ⟨(h v w' ht).1, (h v w' ht).2 np ns (cl.set (by rw [hr]; simp)) _ (ha.put hd v)⟩
theorem wd_eff0 (i : Nat) {T : Value → World → Prop} (hi : ops[i]? = some ⟨none, op, ty, pos, aft, none⟩) (hr : Region.ready .any ops listed = [i]) (he : Eff P L op ty w T)
    (h : ∀ v w', T v w' → (S w' ∨ waitsAll ops i = true) ∧ WD P N ops Q S fuel (listed.setIfInBounds i true) L w') : WD P N ops Q S (fuel + 1) listed L w := fun np ns cl a ha =>
  wd_one hi hr fun K hK => by
    rw [if_pos (by simp [Region.wanted])]
    exact he.wp ha rfl rfl fun v w' ht => hK _ _ ⟨(h v w' ht).1, (h v w' ht).2 np ns (cl.set (by rw [hr]; simp)) _ ha⟩
/-- The same behind a guard that says yes. -/
theorem wd_eff_yes (i : Nat) {j t : Nat} {want : Bool} {T : Value → World → Prop} (hi : ops[i]? = some ⟨some d, op, ty, pos, aft, some (j, want)⟩) (hj : (ops[j]?).bind (·.dst) = some t) (hl : look L t = some (.bool want)) (hr : Region.ready .any ops listed = [i]) (he : Eff P L op ty w T) (hd : d < N)
    (h : ∀ v w', T v w' → (S w' ∨ waitsAll ops i = true) ∧ WD P N ops Q S fuel (listed.setIfInBounds i true) ((d, v) :: L) w') : WD P N ops Q S (fuel + 1) listed L w := fun np ns cl a ha =>
  wd_one hi hr fun K hK => by
    rw [if_pos (by simp [Region.wanted, yielded_of ha hj hl])]
    exact he.wp ha rfl rfl fun v w' ht => hK _ _ ⟨(h v w' ht).1, (h v w' ht).2 np ns (cl.set (by rw [hr]; simp)) _ (ha.put hd v)⟩
end
end Go.Proofs.YtlldaaamdchkdaaDoor
