/- A region that draws its order, walked once: what only reads is taken as soon as it may come up; what acts is the only one that may come up then. -/
import Derived.Test.YtgoopiakpbcgoaaOps
import Derived.OrdersIn
set_option linter.unusedSimpArgs false
set_option linter.unusedVariables false
namespace Go.Proofs.Ytgoopiakpbcgoaa
open Go.RowKit

/-- Number z waits for number k, over at most so many steps. -/
def waitsFor (ops : Array Oper) : Nat → Nat → Nat → Bool
  | 0, _, _ => false
  | n + 1, z, k => match ops[z]? with
    | none => false
    | some o => o.after.any fun e => Region.binds .any e && (Nat.beq e.on k || waitsFor ops n e.on k)
/-- Number z waits for every other one. -/
def waitsAll (ops : Array Oper) (z : Nat) : Bool := (List.range ops.size).all fun k => Nat.beq k z || waitsFor ops 8 z k
/-- Number j comes up beside none of these: it waits for each, or each for it. -/
def exempt (ops : Array Oper) (qs : List Nat) (j : Nat) : Bool := qs.all fun q => Nat.beq q j || waitsFor ops 12 j q || waitsFor ops 12 q j
/-- What has come up had what it waits for come up. -/
def Closed (ops : Array Oper) (listed : Array Bool) : Prop := ∀ (j : Nat) (o : Oper), ops[j]? = some o → listed.getD j false = true → ∀ e ∈ o.after, Region.binds .any e = true → listed.getD e.on false = true

def wpAnyG (P : Program) (ops : Array Oper) (Q : Exit → Act → World → Prop) (qs : List Nat) : Nat → (World → Prop) → Array Bool → Act → World → Prop
  | 0, _, listed, a, w => Region.ready .any ops listed = [] ∧ Q .normal a w
  | fuel + 1, S, listed, a, w =>
    (Region.ready .any ops listed = [] → Q .normal a w) ∧
    ∀ i ∈ Region.ready .any ops listed, wpOpIn Fence.wide 0 P ops Q i (fun a' w' => ∃ S' : World → Prop, ((∀ W, S' W → S W) ∨ exempt ops qs i = true) ∧ S' w' ∧ wpAnyG P ops Q qs fuel S' (listed.setIfInBounds i true) a' w') a w

section
variable {P : Program} {ops : Array Oper} {Q : Exit → Act → World → Prop} {S : World → Prop} {qs : List Nat}

theorem wpAny_of_G : ∀ (fuel : Nat) (S : World → Prop) (listed : Array Bool) (a : Act) (w : World), wpAnyG P ops Q qs fuel S listed a w → wpAnyIn Fence.wide 0 P .any ops Q fuel listed a w
  | 0, _, _, _, _, h => h
  | fuel + 1, _, _, _, _, h => ⟨h.1, fun i hi => wpOpIn_mono (fun a' w' ⟨S', _, _, h'⟩ => wpAny_of_G fuel S' _ a' w' h') (h.2 i hi)⟩
theorem opIn_fz {ro : Option Nat} (hd : noDefer ops.toList = true) {i : Nat} {K : Act → World → Prop} {a : Act} {w : World} (h : wpOpIn Fence.wide 0 P ops Q i K a w) : wpOpIn (fz ro) 0 P ops Q i K a w := by
  unfold wpOpIn at *
  cases ho : ops[i]? with
  | none => simpa [ho] using h
  | some o =>
    simp only [ho] at h ⊢
    have hno : ∀ c, o.op ≠ .defer c := by
      have key : ∀ (l : List Oper), noDefer l = true → ∀ x ∈ l, ∀ c, x.op ≠ .defer c := by
        intro l
        induction l with
        | nil => intro _ x hx; cases hx
        | cons y r ih =>
          intro h x hx
          simp only [noDefer, Bool.and_eq_true] at h
          rcases List.mem_cons.1 hx with rfl | hx
          · exact noDefer_ne h.1
          · exact ih h.2 x hx
      exact key _ hd o (by rw [Array.mem_toList_iff]; exact Array.mem_of_getElem? ho)
    split
    · rename_i hw; rw [if_pos hw] at h; exact operIn_fz hno h
    · rename_i hw; rw [if_neg hw] at h; exact h
theorem anyIn_fz {ro : Option Nat} (hd : noDefer ops.toList = true) : ∀ (fuel : Nat) (listed : Array Bool) (a : Act) (w : World), wpAnyIn Fence.wide 0 P .any ops Q fuel listed a w → wpAnyIn (fz ro) 0 P .any ops Q fuel listed a w
  | 0, _, _, _, h => h
  | fuel + 1, _, _, _, h => ⟨h.1, fun i hi => opIn_fz hd (wpOpIn_mono (fun a' w' h' => anyIn_fz hd fuel _ a' w' h') (h.2 i hi))⟩
theorem yieldsIf_opIn {i : Nat} {o : Oper} {v : Value} {a : Act} (hi : ops[i]? = some o) (hy : YieldsIf P ops S o v a)
    {K : Act → World → Prop} {w : World} (hS : S w) (h : K (a.put o.dst v) w) : wpOpIn Fence.wide 0 P ops Q i K a w := by
  unfold wpOpIn
  simp only [hi]
  rcases hy with ⟨hw, hv⟩ | ⟨hw, rfl⟩
  · simp only [hw, if_true]; exact upon_in (by rw [hv w hS]; exact h)
  · simp only [hw, Bool.false_eq_true, if_false]; exact ⟨fun _ _ => trivial, h⟩
theorem yieldsIf_sub {S' : World → Prop} {o : Oper} {v : Value} {a : Act} (hs : ∀ W, S' W → S W) (hy : YieldsIf P ops S o v a) : YieldsIf P ops S' o v a := hy.imp (fun ⟨h1, h2⟩ => ⟨h1, fun w hw => h2 w (hs w hw)⟩) id
theorem opIn_putIf {j : Nat} {oi oj : Oper} {v : Value} (hj : ops[j]? = some oj) (hap : oi.apart ops oj = true)
    (hsi : ∀ cs b, oi.op ≠ .select cs b) (hsj : ∀ cs b, oj.op ≠ .select cs b)
    (hQ : ∀ c a w, Q (.panic c) (a.put oi.dst v) w → Q (.panic c) a w) {K : Act → World → Prop} {a : Act} {w : World}
    (hy : YieldsIf P ops S oi v a) (h : wpOpIn Fence.wide 0 P ops Q j K (a.put oi.dst v) w) :
    wpOpIn Fence.wide 0 P ops Q j (fun a' w' => YieldsIf P ops S oi v a' ∧ K (a'.put oi.dst v) w') a w := by
  obtain ⟨h1, h2, h3⟩ := Oper.apart_spec hap
  have keep : ∀ (a : Act), YieldsIf P ops S oi v a → ∀ u, YieldsIf P ops S oi v (a.put oj.dst u) := fun a hy u =>
    hy.of_same (execOp_put oi hsi a oj.dst u h3) (wanted_put oi a oj.dst u h3)
  have keepD : ∀ d, YieldsIf P ops S oi v { a with defers := d :: a.defers } := fun d => hy.of_same rfl rfl
  unfold wpOpIn at *
  simp only [hj] at *
  rw [wanted_put oj a oi.dst v h1] at h
  split
  · rename_i hw
    simp only [hw, if_true] at h
    refine upon_in ?_
    have h := h.2
    change oj.uponIn Fence.wide 0 P (a.put oi.dst v) K Q ((execOp (a.put oi.dst v).eval oj).run P w) at h
    rw [execOp_put oj hsj a oi.dst v h1] at h
    generalize (execOp a.eval oj).run P w = r at *
    cases r with
    | ok n w' =>
      cases n <;> simp only [Oper.uponIn] at h ⊢
      case value u => exact ⟨keep a hy u, by rw [← Act.put_comm a v u h2]; exact h⟩
      case skip => exact ⟨keep a hy _, by rw [← Act.put_comm a v undef h2]; exact h⟩
      case defer d =>
        refine ⟨keep _ (keepD d) _, ?_⟩
        rw [← Act.put_comm _ v undef h2, ← Act.put_defers]
        exact h
      case enter f args =>
        refine ⟨h.1, CallsIn.mono h.2 fun e w'' he => ?_⟩
        cases e with
        | returned u => exact ⟨keep a hy u, by rw [← Act.put_comm a v u h2]; exact he⟩
        | panicked c => exact hQ _ _ _ he
        | outgrown => exact he
      case row row args => exact ⟨h.1, RowsIn.mono h.2 fun u w'' he => ⟨keep a hy u, by rw [← Act.put_comm a v u h2]; exact he⟩⟩
      case round l f tmps c d =>
        refine ⟨h.1, RoundIn.mono h.2 fun e w'' he => ?_⟩
        cases e with
        | returned u => exact ⟨keep a hy u, by rw [← Act.put_comm a v u h2]; exact he⟩
        | panicked c => exact hQ _ _ _ he
        | outgrown => exact he
    | halt x w' =>
      cases x <;> simp only [Oper.uponIn] at h ⊢
      case panic u => exact hQ _ _ _ h
  · rename_i hw
    simp only [hw, Bool.false_eq_true, if_false] at h
    exact ⟨fun _ _ => trivial, keep a hy _, by rw [← Act.put_comm a v undef h2]; exact h.2⟩

theorem getD_set_eq {listed : Array Bool} {j : Nat} (h : j < listed.size) : (listed.setIfInBounds j true).getD j false = true := by simp [Array.getD_eq_getD_getElem?, h]
theorem Closed.set {listed : Array Bool} (h : Closed ops listed) {i : Nat} (hi : i ∈ Region.ready .any ops listed) : Closed ops (listed.setIfInBounds i true) := by
  obtain ⟨_, oi, hoi, hall⟩ := mem_ready.1 hi
  intro j o ho hj e he hb
  by_cases hji : j = i
  · subst hji
    rw [hoi] at ho
    cases ho
    exact getD_set_true (hall e he hb)
  · refine getD_set_true (h j o ho ?_ e he hb)
    rw [getD_set_ne false (Ne.symm hji)] at hj
    exact hj
theorem Closed.start (n : Nat) : Closed ops (Array.replicate n false) := by
  intro j o _ hj
  simp [Array.getD_eq_getD_getElem?, Array.getElem?_replicate] at hj
  split at hj <;> simp at hj
theorem waitsFor_listed {listed : Array Bool} (hc : Closed ops listed) : ∀ (n z k : Nat), (∀ o, ops[z]? = some o → ∀ e ∈ o.after, Region.binds .any e = true → listed.getD e.on false = true) → waitsFor ops n z k = true → listed.getD k false = true
  | 0, _, _, _, h => by simp [waitsFor] at h
  | n + 1, z, k, hz, h => by
    unfold waitsFor at h
    cases ho : ops[z]? with
    | none => simp [ho] at h
    | some o =>
      rw [ho] at h
      obtain ⟨e, he, hb⟩ := Array.any_eq_true'.1 h
      simp only [Bool.and_eq_true, Bool.or_eq_true] at hb
      have hl := hz o ho e he hb.1
      rcases hb.2 with h1 | h1
      · rw [← Nat.eq_of_beq_eq_true h1]; exact hl
      · exact waitsFor_listed hc n e.on k (fun o' ho' => hc e.on o' ho' hl) h1
theorem not_waits {i j : Nat} {n : Nat} {listed : Array Bool} (hc : Closed ops listed) (hi : i ∈ Region.ready .any ops listed) (hj : j ∈ Region.ready .any ops listed) : waitsFor ops n j i = false := by
  obtain ⟨hiun, oi, hoi, _⟩ := mem_ready.1 hi
  obtain ⟨hjun, oj, hoj, hall⟩ := mem_ready.1 hj
  cases hw : waitsFor ops n j i with
  | false => rfl
  | true =>
    have h2 := waitsFor_listed hc n j i (fun o ho e he hb => by rw [hoj] at ho; cases ho; exact hall e he hb) hw
    rcases Nat.lt_or_ge i listed.size with h' | h'
    · simp [h'] at hiun h2; rw [hiun] at h2; cases h2
    · simp [Array.getElem?_eq_none h'] at h2
theorem not_exempt {i j : Nat} {listed : Array Bool} (hc : Closed ops listed) (hi : i ∈ Region.ready .any ops listed) (hj : j ∈ Region.ready .any ops listed) (hne : ¬ j = i) (hq : i ∈ qs) : exempt ops qs j = false := by
  cases hx : exempt ops qs j with
  | false => rfl
  | true =>
    have h1 := List.all_eq_true.1 hx i hq
    rw [nbeq (fun e => hne e.symm), not_waits hc hi hj, not_waits hc hj hi] at h1
    cases h1

theorem wpAnyG_first {i : Nat} {oi : Oper} {v : Value} (hi : ops[i]? = some oi) (hsel : ∀ (j : Nat) (o : Oper) cs b, ops[j]? = some o → o.op ≠ .select cs b)
    (hQ : NP Q) :
    ∀ (fuel : Nat) (S : World → Prop) (listed : Array Bool) (a : Act) (w : World), Closed ops listed →
      (∀ j oj, ops[j]? = some oj → j ≠ i → listed.getD j true = false → (∀ e ∈ oj.after, Region.binds .any e = true → e.on ≠ i) → oi.apart ops oj = true) →
      i ∈ Region.ready .any ops listed → (YieldsIf P ops (fun _ => True) oi v a ∨ i ∈ qs ∧ YieldsIf P ops S oi v a) → S w →
      wpAnyG P ops Q qs fuel S (listed.setIfInBounds i true) (a.put oi.dst v) w → wpAnyG P ops Q qs (fuel + 1) S listed a w := by
  intro fuel
  have self : ∀ (S : World → Prop) (a : Act) (w : World) (K : Act → World → Prop), (YieldsIf P ops (fun _ => True) oi v a ∨ i ∈ qs ∧ YieldsIf P ops S oi v a) → S w → K (a.put oi.dst v) w → wpOpIn Fence.wide 0 P ops Q i K a w := by
    rintro S a w K (hy | ⟨_, hy⟩) hS hK
    · exact yieldsIf_opIn hi hy trivial hK
    · exact yieldsIf_opIn hi hy hS hK
  induction fuel with
  | zero =>
    intro S listed a w _ _ hr hy hS H
    refine ⟨fun h => (by rw [h] at hr; cases hr), fun j hj => ?_⟩
    by_cases hji : j = i
    · subst hji; exact self S a w _ hy hS ⟨S, .inl fun _ h => h, hS, H⟩
    · have := ready_mono hj hji
      rw [H.1] at this
      cases this
  | succ fuel ih =>
    intro S listed a w hcl hfree hr hy hS H
    refine ⟨fun h => (by rw [h] at hr; cases hr), fun j hj => ?_⟩
    by_cases hji : j = i
    · subst hji; exact self S a w _ hy hS ⟨S, .inl fun _ h => h, hS, H⟩
    · have h1 := H.2 j (ready_mono hj hji)
      obtain ⟨hjun, oj, hoj, hall⟩ := mem_ready.1 hj
      have hnot : ∀ e ∈ oj.after, Region.binds .any e = true → e.on ≠ i := fun e he hb heq => by
        have h1 := hall e he hb
        have h0 := (mem_ready.1 hr).1
        rw [heq] at h1
        rcases Nat.lt_or_ge i listed.size with h' | h'
        · simp [h'] at h0 h1; rw [h0] at h1; cases h1
        · simp [Array.getElem?_eq_none h'] at h1
      have hfree' : ∀ k ok, ops[k]? = some ok → k ≠ i → (listed.setIfInBounds j true).getD k true = false →
          (∀ e ∈ ok.after, Region.binds .any e = true → e.on ≠ i) → oi.apart ops ok = true := fun k ok hk hki hun hno => by
        refine hfree k ok hk hki ?_ hno
        by_cases hjk : j = k
        · subst hjk; exact hjun
        · rw [getD_set_ne true hjk] at hun; exact hun
      have put : ∀ T : World → Prop, YieldsIf P ops T oi v a → wpOpIn Fence.wide 0 P ops Q j (fun a' w' => YieldsIf P ops T oi v a' ∧ ∃ S' : World → Prop, ((∀ W, S' W → S W) ∨ exempt ops qs j = true) ∧ S' w' ∧ wpAnyG P ops Q qs fuel S' ((listed.setIfInBounds i true).setIfInBounds j true) (a'.put oi.dst v) w') a w := fun T hyT =>
        opIn_putIf hoj (hfree j oj hoj hji hjun hnot) (fun cs b => hsel i oi cs b hi) (fun cs b => hsel j oj cs b hoj) (fun c a w h => absurd h (hQ _ _ _)) hyT h1
      rcases hy with hy | ⟨hq, hy⟩
      · refine wpOpIn_mono (fun a' w' h3 => ?_) (put _ hy)
        obtain ⟨hy3, S', hsub, hS3, h4⟩ := h3
        refine ⟨S', hsub, hS3, ih S' (listed.setIfInBounds j true) a' w' (hcl.set hj) hfree' (ready_mono hr (Ne.symm hji)) (.inl hy3) hS3 ?_⟩
        rw [Array.setIfInBounds_comm _ _ hji]
        exact h4
      · have hx := not_exempt hcl hr hj hji hq
        refine wpOpIn_mono (fun a' w' h3 => ?_) (put _ hy)
        obtain ⟨hy3, S', hsub, hS3, h4⟩ := h3
        refine ⟨S', hsub, hS3, ih S' (listed.setIfInBounds j true) a' w' (hcl.set hj) hfree' (ready_mono hr (Ne.symm hji)) (.inr ⟨hq, yieldsIf_sub (hsub.resolve_right (by rw [hx]; decide)) hy3⟩) hS3 ?_⟩
        rw [Array.setIfInBounds_comm _ _ hji]
        exact h4

end

/-- The walk through such a region: 'listed' have come up. -/
def WD (P : Program) (N : Sh) (ops : Array Oper) (Q : Exit → Act → World → Prop) (qs : List Nat) (S : World → Prop) (fuel : Nat) (listed : Array Bool) (L : List (Nat × Value)) (w : World) : Prop :=
  NP Q → Region.noSelect ops = true → Closed ops listed → ∀ a, Fits N L a → wpAnyG P ops Q qs fuel S listed a w

section
variable {P : Program} {N : Sh} {ops : Array Oper} {Q : Exit → Act → World → Prop} {qs : List Nat} {S : World → Prop} {fuel : Nat} {listed : Array Bool} {L : List (Nat × Value)} {w w' : World}
  {op : Op} {ty : TypeId} {pos : String} {aft : Array Edge} {d i : Nat} {v : Value} {g : Option (Nat × Bool)}

theorem wd_begin {id n : Nat} (qs : List Nat) (S : World → Prop) (hm : P.follows .mixedOrders = true) (hs : Region.noSelect ops = true) (hn : ops.size = n) (h : WD P N ops Q qs S n (Array.replicate n false) L w.drew) (hd : N.ro = none ∨ noDefer ops.toList = true := by first | exact .inl rfl | exact .inr rfl) : WC P N (.region id ops true) Q L w := fun np a ha => by
  have h1 : wpAnyIn Fence.wide 0 P .any ops Q ops.size (Array.replicate ops.size false) a { w with drawn := w.drawn + 1 } := wpAny_of_G _ _ _ _ _ (by rw [hn]; exact h np hs (Closed.start n) a ha)
  rcases hd with hd | hd
  · rw [hd]; exact wpIn_region_any hm h1
  · exact wpIn_region_any hm (anyIn_fz hd _ _ _ _ h1)
theorem wd_beginK {id n : Nat} (qs : List Nat) {w0 : World} {A : HP} (hS : Kp w0 A w.drew) (hm : P.follows .mixedOrders = true) (hs : Region.noSelect ops = true) (hn : ops.size = n) (h : WD P N ops Q qs (Kp w0 A) n (Array.replicate n false) L w.drew) (hd : N.ro = none ∨ noDefer ops.toList = true := by first | exact .inl rfl | exact .inr rfl) : WC P N (.region id ops true) Q L w := wd_begin qs (Kp w0 A) hm hs hn h hd
theorem keepK {w0 : World} {A : HP} {T : World → Prop} {q : Prop} {X : (World → Prop) → Prop} (h : Kp w0 A w) (hs : ∀ W, Kp w0 A W → T W) (x : X (Kp w0 A)) : ∃ S' : World → Prop, ((∀ W, S' W → T W) ∨ q) ∧ S' w ∧ X S' := ⟨_, .inl hs, h, x⟩
theorem keepX {w0 : World} {A : HP} {T : World → Prop} {X : (World → Prop) → Prop} {i : Nat} (h : Kp w0 A w) (hs : exempt ops qs i = true) (x : X (Kp w0 A)) : ∃ S' : World → Prop, ((∀ W, S' W → T W) ∨ exempt ops qs i = true) ∧ S' w ∧ X S' := ⟨_, .inr hs, h, x⟩
theorem keepE {T : World → Prop} {X : (World → Prop) → Prop} {i : Nat} (hs : exempt ops qs i = true) (x : X fun _ => True) : ∃ S' : World → Prop, ((∀ W, S' W → T W) ∨ exempt ops qs i = true) ∧ S' w ∧ X S' := ⟨_, .inr hs, trivial, x⟩
theorem keepS {T : World → Prop} {X : (World → Prop) → Prop} {q : Prop} (h : T w) (x : X T) : ∃ S' : World → Prop, ((∀ W, S' W → T W) ∨ q) ∧ S' w ∧ X S' := ⟨_, .inl fun _ h => h, h, x⟩
theorem wd_gen (h : ∀ x, x = v → WD P N ops Q qs S fuel listed ((d, x) :: L) w) : WD P N ops Q qs S fuel listed ((d, v) :: L) w := h v rfl
theorem wd_done (hr : Region.ready .any ops listed = []) (h : WQ N Q .normal L w) : WD P N ops Q qs S fuel listed L w := fun np _ _ a ha => by
  cases fuel with
  | zero => exact ⟨hr, h np a ha⟩
  | succ n => exact ⟨fun _ => h np a ha, by rw [hr]; simp⟩
/-- Number i, which only reads, is taken. -/
theorem wd_take (i : Nat) (hi : ops[i]? = some ⟨some d, op, ty, pos, aft, none⟩) (hf : Region.free .any ops listed i = true) (hr : (Region.ready .any ops listed).contains i = true) (hS : S w)
    (hq : qs.contains i = true) (hv : ∀ w', S w' → Val P L op ty w' v w') (hd : d < N.n) (h : WD P N ops Q qs S fuel (listed.setIfInBounds i true) ((d, v) :: L) w) : WD P N ops Q qs S (fuel + 1) listed L w := fun np ns cl a ha =>
  wpAnyG_first hi (Region.noSelect_spec ns) np fuel S listed a w cl (Region.free_spec hi hf) (by simpa using hr) (.inr ⟨by simpa using hq, .inl ⟨by simp [Region.wanted], fun w' hw' => hv w' hw' a.eval (fun x u hx => ha.ev hx) _ _ _ _⟩⟩) hS (h np ns (cl.set (by simpa using hr)) _ (ha.put hd v))
/-- Number i, whose guard says yes, likewise. -/
theorem wd_take_yes (i : Nat) {j t : Nat} {want : Bool} (hi : ops[i]? = some ⟨some d, op, ty, pos, aft, some (j, want)⟩) (hj : (ops[j]?).bind (·.dst) = some t) (hl : look L t = some (.bool want)) (hf : Region.free .any ops listed i = true) (hr : (Region.ready .any ops listed).contains i = true) (hS : S w)
    (hq : qs.contains i = true) (hv : ∀ w', S w' → Val P L op ty w' v w') (hd : d < N.n) (h : WD P N ops Q qs S fuel (listed.setIfInBounds i true) ((d, v) :: L) w) : WD P N ops Q qs S (fuel + 1) listed L w := fun np ns cl a ha =>
  wpAnyG_first hi (Region.noSelect_spec ns) np fuel S listed a w cl (Region.free_spec hi hf) (by simpa using hr) (.inr ⟨by simpa using hq, .inl ⟨by simp [Region.wanted, yielded_of ha hj hl], fun w' hw' => hv w' hw' a.eval (fun x u hx => ha.ev hx) _ _ _ _⟩⟩) hS (h np ns (cl.set (by simpa using hr)) _ (ha.put hd v))
/-- Number i, which does not look at the world, is taken. -/
theorem wd_takeT (i : Nat) (hi : ops[i]? = some ⟨some d, op, ty, pos, aft, none⟩) (hf : Region.free .any ops listed i = true) (hr : (Region.ready .any ops listed).contains i = true) (hS : S w)
    (hv : ∀ w', Val P L op ty w' v w') (hd : d < N.n) (h : WD P N ops Q qs S fuel (listed.setIfInBounds i true) ((d, v) :: L) w) : WD P N ops Q qs S (fuel + 1) listed L w := fun np ns cl a ha =>
  wpAnyG_first hi (Region.noSelect_spec ns) np fuel S listed a w cl (Region.free_spec hi hf) (by simpa using hr) (.inl (.inl ⟨by simp [Region.wanted], fun w' hw' => hv w' a.eval (fun x u hx => ha.ev hx) _ _ _ _⟩)) hS (h np ns (cl.set (by simpa using hr)) _ (ha.put hd v))
/-- Number i, whose guard says yes, likewise, too. -/
theorem wd_takeT_yes (i : Nat) {j t : Nat} {want : Bool} (hi : ops[i]? = some ⟨some d, op, ty, pos, aft, some (j, want)⟩) (hj : (ops[j]?).bind (·.dst) = some t) (hl : look L t = some (.bool want)) (hf : Region.free .any ops listed i = true) (hr : (Region.ready .any ops listed).contains i = true) (hS : S w)
    (hv : ∀ w', Val P L op ty w' v w') (hd : d < N.n) (h : WD P N ops Q qs S fuel (listed.setIfInBounds i true) ((d, v) :: L) w) : WD P N ops Q qs S (fuel + 1) listed L w := fun np ns cl a ha =>
  wpAnyG_first hi (Region.noSelect_spec ns) np fuel S listed a w cl (Region.free_spec hi hf) (by simpa using hr) (.inl (.inl ⟨by simp [Region.wanted, yielded_of ha hj hl], fun w' hw' => hv w' a.eval (fun x u hx => ha.ev hx) _ _ _ _⟩)) hS (h np ns (cl.set (by simpa using hr)) _ (ha.put hd v))
/-- Number i, whose guard says no, is passed over. -/
theorem wd_no (i : Nat) {j t : Nat} {want b : Bool} (hi : ops[i]? = some ⟨some d, op, ty, pos, aft, some (j, want)⟩) (hj : (ops[j]?).bind (·.dst) = some t) (hl : look L t = some (.bool b)) (hb : (b == want) = false)
    (hf : Region.free .any ops listed i = true) (hr : (Region.ready .any ops listed).contains i = true) (hS : S w) (hd : d < N.n) (h : WD P N ops Q qs S fuel (listed.setIfInBounds i true) ((d, undef) :: L) w) : WD P N ops Q qs S (fuel + 1) listed L w := fun np ns cl a ha =>
  wpAnyG_first hi (Region.noSelect_spec ns) np fuel S listed a w cl (Region.free_spec hi hf) (by simpa using hr) (.inl (.inr ⟨by simp [Region.wanted, yielded_of ha hj hl]; simpa using hb, rfl⟩)) hS (h np ns (cl.set (by simpa using hr)) _ (ha.put hd _))
theorem wd_nou (i : Nat) {j t : Nat} {want : Bool} (hi : ops[i]? = some ⟨some d, op, ty, pos, aft, some (j, want)⟩) (hj : (ops[j]?).bind (·.dst) = some t) (hl : look L t = some undef)
    (hf : Region.free .any ops listed i = true) (hr : (Region.ready .any ops listed).contains i = true) (hS : S w) (hd : d < N.n) (h : WD P N ops Q qs S fuel (listed.setIfInBounds i true) ((d, undef) :: L) w) : WD P N ops Q qs S (fuel + 1) listed L w := fun np ns cl a ha =>
  wpAnyG_first hi (Region.noSelect_spec ns) np fuel S listed a w cl (Region.free_spec hi hf) (by simpa using hr) (.inl (.inr ⟨by simp [Region.wanted, yielded_undef ha hj hl], rfl⟩)) hS (h np ns (cl.set (by simpa using hr)) _ (ha.put hd _))
/-- A truth that guards what follows: two ways. -/
theorem wd_split (i : Nat) {x : Operand} {b : Bool} (hi : ops[i]? = some ⟨some d, .move x, ty, pos, aft, none⟩) (hx : ev L x = some (.bool b)) (hf : Region.free .any ops listed i = true) (hr : (Region.ready .any ops listed).contains i = true) (hS : S w) (hd : d < N.n)
    (ht : b = true → WD P N ops Q qs S fuel (listed.setIfInBounds i true) ((d, .bool true) :: L) w) (hf' : b = false → WD P N ops Q qs S fuel (listed.setIfInBounds i true) ((d, .bool false) :: L) w) : WD P N ops Q qs S (fuel + 1) listed L w := by
  refine wd_takeT i (v := .bool b) hi hf hr hS (fun w' => r_move hx) hd ?_
  cases b
  · exact hf' rfl
  · exact ht rfl

/-- The same of one that is guarded itself, and wanted. -/
theorem wd_split_yes (i : Nat) {x : Operand} {b : Bool} {j t : Nat} {want : Bool} (hi : ops[i]? = some ⟨some d, .move x, ty, pos, aft, some (j, want)⟩) (hj : (ops[j]?).bind (·.dst) = some t) (hl : look L t = some (.bool want)) (hx : ev L x = some (.bool b)) (hf : Region.free .any ops listed i = true) (hr : (Region.ready .any ops listed).contains i = true) (hS : S w) (hd : d < N.n)
    (ht : b = true → WD P N ops Q qs S fuel (listed.setIfInBounds i true) ((d, .bool true) :: L) w) (hf' : b = false → WD P N ops Q qs S fuel (listed.setIfInBounds i true) ((d, .bool false) :: L) w) : WD P N ops Q qs S (fuel + 1) listed L w := by
  refine wd_takeT_yes i (v := .bool b) hi hj hl hf hr hS (fun w' => r_move hx) hd ?_
  cases b
  · exact hf' rfl
  · exact ht rfl
theorem wd_one {i : Nat} {o : Oper} (hi : ops[i]? = some o) (hr : Region.ready .any ops listed = [i]) {a : Act}
    (h : ∀ K : Act → World → Prop, (∀ a' w', (∃ S' : World → Prop, ((∀ W, S' W → S W) ∨ exempt ops qs i = true) ∧ S' w' ∧ wpAnyG P ops Q qs fuel S' (listed.setIfInBounds i true) a' w') → K a' w') → if Region.wanted o (yielded ops a.tmps) then o.wpIn Fence.wide 0 P a w K Q else K (a.put o.dst undef) w) :
    wpAnyG P ops Q qs (fuel + 1) S listed a w := by
  refine ⟨fun h0 => (by rw [hr] at h0; cases h0), fun j hj => ?_⟩
  rw [hr] at hj
  simp at hj
  subst hj
  unfold wpOpIn
  rw [hi]
  have := h _ (fun _ _ h => h)
  dsimp only
  split
  · rename_i hw; rw [if_pos hw] at this; exact this
  · rename_i hw; rw [if_neg hw] at this; exact ⟨fun _ _ => trivial, this⟩
/-- The same, what is known of the world turning with it. -/
theorem wd_eff (i : Nat) {T : Value → World → Prop} (hi : ops[i]? = some ⟨some d, op, ty, pos, aft, none⟩) (hr : Region.ready .any ops listed = [i]) (he : Eff P L op ty w T) (hd : d < N.n)
    (h : ∀ v w', T v w' → ∃ S' : World → Prop, ((∀ W, S' W → S W) ∨ exempt ops qs i = true) ∧ S' w' ∧ WD P N ops Q qs S' fuel (listed.setIfInBounds i true) ((d, v) :: L) w') : WD P N ops Q qs S (fuel + 1) listed L w := fun np ns cl a ha =>
  wd_one hi hr fun K hK => by
    rw [if_pos (by simp [Region.wanted])]
    exact he.wp ha rfl rfl fun v w' ht => let ⟨S', h1, h2, h3⟩ := h v w' ht; hK _ _ ⟨S', h1, h2, h3 np ns (cl.set (by rw [hr]; simp)) _ (ha.put hd v)⟩
theorem wd_eff0 (i : Nat) {T : Value → World → Prop} (hi : ops[i]? = some ⟨none, op, ty, pos, aft, none⟩) (hr : Region.ready .any ops listed = [i]) (he : Eff P L op ty w T)
    (h : ∀ v w', T v w' → ∃ S' : World → Prop, ((∀ W, S' W → S W) ∨ exempt ops qs i = true) ∧ S' w' ∧ WD P N ops Q qs S' fuel (listed.setIfInBounds i true) L w') : WD P N ops Q qs S (fuel + 1) listed L w := fun np ns cl a ha =>
  wd_one hi hr fun K hK => by
    rw [if_pos (by simp [Region.wanted])]
    exact he.wp ha rfl rfl fun v w' ht => let ⟨S', h1, h2, h3⟩ := h v w' ht; hK _ _ ⟨S', h1, h2, h3 np ns (cl.set (by rw [hr]; simp)) _ ha⟩
theorem wd_eff_yes (i : Nat) {j t : Nat} {want : Bool} {T : Value → World → Prop} (hi : ops[i]? = some ⟨some d, op, ty, pos, aft, some (j, want)⟩) (hj : (ops[j]?).bind (·.dst) = some t) (hl : look L t = some (.bool want)) (hr : Region.ready .any ops listed = [i]) (he : Eff P L op ty w T) (hd : d < N.n)
    (h : ∀ v w', T v w' → ∃ S' : World → Prop, ((∀ W, S' W → S W) ∨ exempt ops qs i = true) ∧ S' w' ∧ WD P N ops Q qs S' fuel (listed.setIfInBounds i true) ((d, v) :: L) w') : WD P N ops Q qs S (fuel + 1) listed L w := fun np ns cl a ha =>
  wd_one hi hr fun K hK => by
    rw [if_pos (by simp [Region.wanted, yielded_of ha hj hl])]
    exact he.wp ha rfl rfl fun v w' ht => let ⟨S', h1, h2, h3⟩ := h v w' ht; hK _ _ ⟨S', h1, h2, h3 np ns (cl.set (by rw [hr]; simp)) _ (ha.put hd v)⟩
/-- Several may come next: each way. -/
def WDi (P : Program) (N : Sh) (ops : Array Oper) (Q : Exit → Act → World → Prop) (qs : List Nat) (S : World → Prop) (fuel : Nat) (listed : Array Bool) (L : List (Nat × Value)) (w : World) (i : Nat) : Prop :=
  NP Q → Region.noSelect ops = true → Closed ops listed → ∀ a, Fits N L a → wpOpIn Fence.wide 0 P ops Q i (fun a' w' => ∃ S' : World → Prop, ((∀ W, S' W → S W) ∨ exempt ops qs i = true) ∧ S' w' ∧ wpAnyG P ops Q qs fuel S' (listed.setIfInBounds i true) a' w') a w
theorem wd_two {i j : Nat} (hr : Region.ready .any ops listed = [i, j]) (h1 : WDi P N ops Q qs S fuel listed L w i) (h2 : WDi P N ops Q qs S fuel listed L w j) : WD P N ops Q qs S (fuel + 1) listed L w := fun np ns cl a ha =>
  ⟨fun h0 => (by rw [hr] at h0; cases h0), fun k hk => by
    rw [hr] at hk
    simp only [List.mem_cons, List.not_mem_nil, or_false] at hk
    rcases hk with rfl | rfl
    · exact h1 np ns cl a ha
    · exact h2 np ns cl a ha⟩
theorem wd_three {i j k : Nat} (hr : Region.ready .any ops listed = [i, j, k]) (h1 : WDi P N ops Q qs S fuel listed L w i) (h2 : WDi P N ops Q qs S fuel listed L w j) (h3 : WDi P N ops Q qs S fuel listed L w k) : WD P N ops Q qs S (fuel + 1) listed L w := fun np ns cl a ha =>
  ⟨fun h0 => (by rw [hr] at h0; cases h0), fun m hm => by
    rw [hr] at hm
    simp only [List.mem_cons, List.not_mem_nil, or_false] at hm
    rcases hm with rfl | rfl | rfl
    · exact h1 np ns cl a ha
    · exact h2 np ns cl a ha
    · exact h3 np ns cl a ha⟩
theorem wdi_one {i : Nat} {o : Oper} (hi : ops[i]? = some o) {a : Act}
    (h : ∀ K : Act → World → Prop, (∀ a' w', (∃ S' : World → Prop, ((∀ W, S' W → S W) ∨ exempt ops qs i = true) ∧ S' w' ∧ wpAnyG P ops Q qs fuel S' (listed.setIfInBounds i true) a' w') → K a' w') → if Region.wanted o (yielded ops a.tmps) then o.wpIn Fence.wide 0 P a w K Q else K (a.put o.dst undef) w) :
    wpOpIn Fence.wide 0 P ops Q i (fun a' w' => ∃ S' : World → Prop, ((∀ W, S' W → S W) ∨ exempt ops qs i = true) ∧ S' w' ∧ wpAnyG P ops Q qs fuel S' (listed.setIfInBounds i true) a' w') a w := by
  unfold wpOpIn
  rw [hi]
  have := h _ (fun _ _ h => h)
  dsimp only
  split
  · rename_i hw; rw [if_pos hw] at this; exact this
  · rename_i hw; rw [if_neg hw] at this; exact ⟨fun _ _ => trivial, this⟩
theorem wdi_eff (i : Nat) {T : Value → World → Prop} (hi : ops[i]? = some ⟨some d, op, ty, pos, aft, none⟩) (hr : (Region.ready .any ops listed).contains i = true) (he : Eff P L op ty w T) (hd : d < N.n)
    (h : ∀ v w', T v w' → ∃ S' : World → Prop, ((∀ W, S' W → S W) ∨ exempt ops qs i = true) ∧ S' w' ∧ WD P N ops Q qs S' fuel (listed.setIfInBounds i true) ((d, v) :: L) w') : WDi P N ops Q qs S fuel listed L w i := fun np ns cl a ha =>
  wdi_one hi fun K hK => by
    rw [if_pos (by simp [Region.wanted])]
    exact he.wp ha rfl rfl fun v w' ht => let ⟨S', h1, h2, h3⟩ := h v w' ht; hK _ _ ⟨S', h1, h2, h3 np ns (cl.set (by simpa using hr)) _ (ha.put hd v)⟩
theorem wdi_eff0 (i : Nat) {T : Value → World → Prop} (hi : ops[i]? = some ⟨none, op, ty, pos, aft, none⟩) (hr : (Region.ready .any ops listed).contains i = true) (he : Eff P L op ty w T)
    (h : ∀ v w', T v w' → ∃ S' : World → Prop, ((∀ W, S' W → S W) ∨ exempt ops qs i = true) ∧ S' w' ∧ WD P N ops Q qs S' fuel (listed.setIfInBounds i true) L w') : WDi P N ops Q qs S fuel listed L w i := fun np ns cl a ha =>
  wdi_one hi fun K hK => by
    rw [if_pos (by simp [Region.wanted])]
    exact he.wp ha rfl rfl fun v w' ht => let ⟨S', h1, h2, h3⟩ := h v w' ht; hK _ _ ⟨S', h1, h2, h3 np ns (cl.set (by simpa using hr)) _ ha⟩
theorem wdi_eff_yes (i : Nat) {j t : Nat} {want : Bool} {T : Value → World → Prop} (hi : ops[i]? = some ⟨some d, op, ty, pos, aft, some (j, want)⟩) (hj : (ops[j]?).bind (·.dst) = some t) (hl : look L t = some (.bool want)) (hr : (Region.ready .any ops listed).contains i = true) (he : Eff P L op ty w T) (hd : d < N.n)
    (h : ∀ v w', T v w' → ∃ S' : World → Prop, ((∀ W, S' W → S W) ∨ exempt ops qs i = true) ∧ S' w' ∧ WD P N ops Q qs S' fuel (listed.setIfInBounds i true) ((d, v) :: L) w') : WDi P N ops Q qs S fuel listed L w i := fun np ns cl a ha =>
  wdi_one hi fun K hK => by
    rw [if_pos (by simp [Region.wanted, yielded_of ha hj hl])]
    exact he.wp ha rfl rfl fun v w' ht => let ⟨S', h1, h2, h3⟩ := h v w' ht; hK _ _ ⟨S', h1, h2, h3 np ns (cl.set (by simpa using hr)) _ (ha.put hd v)⟩
end
end Go.Proofs.Ytgoopiakpbcgoaa
