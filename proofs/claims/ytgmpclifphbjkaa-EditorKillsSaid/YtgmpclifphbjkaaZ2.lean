import Derived.Test.YtgmpclifphbjkaaZ1
import Derived.Deep.LoopGhost
import Derived.OrdersHeld
import Derived.Laws.Small
import Derived.Laws.Build
import Derived.Laws.Strings
import Derived.TacticsIn
import Derived.RangeFuncRecord
import Derived.OrdersIn
/- Texts of mine, joined: Eng Ops. -/
section
/- A walk over a function's code by explicit steps: frames as lists of slots, one rule for each form of code and of operation. -/
set_option linter.unusedSimpArgs false
set_option linter.unusedVariables false
namespace Go.Proofs.Ytgmpclifphbjkaa
open Go.RowKit

theorem ltn {a b : Nat} (h : Nat.ble (a + 1) b = true) : a < b := Nat.le_of_ble_eq_true h
theorem nbeq {a b : Nat} (h : ¬ a = b) : Nat.beq a b = false := by
  cases h' : Nat.beq a b
  · rfl
  · exact absurd (Nat.eq_of_beq_eq_true h') h
def look : List (Nat × Value) → Nat → Option Value
  | [], _ => none
  | (j, v) :: r, i => bif Nat.beq j i then some v else look r i

/-- A frame's form: how many slots, which deferred calls (marks of loops over functions), of which loop it is a round. -/
structure Sh where
  n : Nat
  ds : List Nat := []
  ro : Option Nat := none
abbrev Sh.of (n : Nat) : Sh := ⟨n, [], none⟩
def markD (b : Nat) : Deferred := { target := .collected b, args := #[] }
/-- The blocks of a frame's marks. -/
def Marks : List Nat → HP
  | [] => emp
  | b :: r => blk b (.deferred (some [])) • Marks r
/-- The fence: none; but it tells of which loop the frame is a round. -/
def fz (ro : Option Nat) : Fence := { Fence.wide with round := ro }
theorem fz_none : fz none = Fence.wide := rfl
theorem fz_calls {n : Nat} {ro : Option Nat} {P : Program} {f : FuncId} {args : Array Value} {w : World} {R : Ending → World → Prop} : CallsIn (fz ro) n P f args w R ↔ Calls P f args w R := callsIn_wide (n := n)
/-- The frame has this form, and these slots hold these values. -/
structure Fits (N : Sh) (L : List (Nat × Value)) (a : Act) : Prop where
  size : a.tmps.size = N.n
  defers : a.defers = N.ds.map markD
  at_ : ∀ i v, look L i = some v → a.tmps[i]? = some v

def ev (L : List (Nat × Value)) : Operand → Option Value
  | .tmp t => look L t
  | .const v => some v
  | .global g => some (.pointer (some ⟨g, 0, none⟩))
  | .func f => some (.func (.func f) #[] #[])

theorem Fits.ev {N : Sh} {L : List (Nat × Value)} {a : Act} (h : Fits N L a) {x : Operand} {v : Value} (he : ev L x = some v) : a.eval x = v := by
  cases x with
  | tmp t => have := h.at_ t v he; simp [Act.eval, Array.getD_eq_getD_getElem?, this]
  | const u => simpa [Ytgmpclifphbjkaa.ev, Act.eval] using he
  | global g => simpa [Ytgmpclifphbjkaa.ev, Act.eval] using he
  | func f => simpa [Ytgmpclifphbjkaa.ev, Act.eval] using he

theorem Fits.put {N : Sh} {L : List (Nat × Value)} {a : Act} (h : Fits N L a) {d : Nat} (hd : d < N.n) (v : Value) : Fits N ((d, v) :: L) (a.put (some d) v) := by
  refine ⟨by simp [Act.put, h.size], by simp [Act.put, h.defers], fun i u hu => ?_⟩
  simp only [look] at hu
  simp only [Act.put, Array.getElem?_setIfInBounds]
  by_cases e : d = i
  · subst e
    simp at hu
    simp [h.size, hd, hu]
  · rw [if_neg e]
    have : Nat.beq d i = false := nbeq e
    rw [this] at hu
    exact h.at_ i u hu

/-- What M says, L says. -/
def Sub (M L : List (Nat × Value)) : Prop := ∀ i v, look M i = some v → look L i = some v
theorem Sub.nil (L : List (Nat × Value)) : Sub [] L := fun _ _ h => by cases h
theorem Sub.cons {M L : List (Nat × Value)} {i : Nat} {v : Value} (h : look L i = some v) (k : Sub M L) : Sub ((i, v) :: M) L := by
  intro j u hj
  simp only [look] at hj
  by_cases e : i = j
  · subst e; simp at hj; rw [← hj]; exact h
  · have : Nat.beq i j = false := nbeq e
    rw [this] at hj
    exact k j u hj
theorem Sub.cons' {M L : List (Nat × Value)} {i : Nat} {v u : Value} (h : look L i = some u) (e : u = v) (k : Sub M L) : Sub ((i, v) :: M) L := Sub.cons (e ▸ h) k
theorem Fits.sub {N : Sh} {L M : List (Nat × Value)} {a : Act} (h : Fits N L a) (k : Sub M L) : Fits N M a := ⟨h.size, h.defers, fun i v hv => h.at_ i v (k i v hv)⟩

theorem ones_nil : ∀ u ∈ ([] : List Value), u.oneCell' = true := fun _ h => by cases h
theorem ones_cons {v : Value} {l : List Value} (h : v.oneCell' = true) (k : ∀ u ∈ l, u.oneCell' = true) : ∀ u ∈ v :: l, u.oneCell' = true := fun u hu => by
  rcases List.mem_cons.1 hu with rfl | hu
  · exact h
  · exact k u hu
/-- No way out by a panic. -/
def NP (Q : Exit → Act → World → Prop) : Prop := ∀ c a w, ¬ Q (.panic c) a w
theorem NP.then {Q : Exit → Act → World → Prop} (h : NP Q) (K : Act → World → Prop) : NP (Exit.then K Q) := h
theorem NP.inBlock {Q : Exit → Act → World → Prop} (h : NP Q) (id : Nat) : NP (Exit.inBlock id Q) := h

def WC (P : Program) (N : Sh) (c : Code) (Q : Exit → Act → World → Prop) (L : List (Nat × Value)) (w : World) : Prop := NP Q → ∀ a, Fits N L a → c.wpIn (fz N.ro) 0 P Q a w
def WL (P : Program) (N : Sh) (ops : Array Oper) (Q : Exit → Act → World → Prop) (l : List Oper) (L : List (Nat × Value)) (w : World) : Prop := NP Q → ∀ a, Fits N L a → wpListIn Fence.wide 0 P ops Q l a w
def WQ (N : Sh) (Q : Exit → Act → World → Prop) (e : Exit) (L : List (Nat × Value)) (w : World) : Prop := NP Q → ∀ a, Fits N L a → Q e a w

/-- It returns, and so. -/
def Ret (P : Program) (f : FuncId) (args : Array Value) (w : World) (S : Value → World → Prop) : Prop := Calls P f args w fun e w' => ∃ v, e = .returned v ∧ S v w'
theorem Ret.mono {P : Program} {f : FuncId} {args : Array Value} {w : World} {S S' : Value → World → Prop} (h : Ret P f args w S) (k : ∀ v w', S v w' → S' v w') : Ret P f args w S' :=
  Calls.mono h fun _ _ ⟨v, e, s⟩ => ⟨v, e, k _ _ s⟩

section
variable {P : Program} {N : Sh} {Q : Exit → Act → World → Prop} {L : List (Nat × Value)} {w : World}

/-- The slots when a call begins. -/
def slots0 : Nat → List Value → List (Nat × Value)
  | _, [] => []
  | i, v :: r => (i, v) :: slots0 (i + 1) r
theorem look_slots0 (args : List Value) : ∀ (k i : Nat) (v : Value), look (slots0 k args) i = some v → k ≤ i ∧ args[i - k]? = some v := by
  induction args with
  | nil => intro k i v h; cases h
  | cons u r ih =>
    intro k i v h
    simp only [slots0, look] at h
    by_cases e : k = i
    · subst e; simp at h; simp [h]
    · have : Nat.beq k i = false := nbeq e
      rw [this] at h
      have := ih (k + 1) i v h
      refine ⟨by omega, ?_⟩
      rw [show i - k = (i - (k + 1)) + 1 from by omega]
      simpa using this.2

/-- What is asked at a call's end: the marks of its loops over functions are taken off, then its results. -/
def EndPost (P : Program) (fn : Func) (S : Value → World → Prop) : Exit → Act → World → Prop
  | .normal, a, w | .ret, a, w => LeavesInM Fence.wide 0 P fn a.tmps (fun e w' => ∃ v, e = .returned v ∧ S v w') a.defers .returning w
  | _, _, _ => False
theorem ret_enter {f n : Nat} {fn : Func} {c : Code} {args : List Value} {S : Value → World → Prop} (hf : P.funcs[f]? = some fn) (hb : fn.body = some c) (hN : fn.ntmps = n) (hl : args.length ≤ n)
    (h : WC P (Sh.of n) c (EndPost P fn S) (slots0 0 args) w) : Ret P f args.toArray w S := by
  refine (callsIn_wide (n := 0)).1 (callsIn_of_wp_marks hf hb trivial (wpIn_mono (h ?_ _ ⟨?_, rfl, ?_⟩) ?_))
  rotate_left 3
  · rintro e a w hq
    cases e with
    | normal => exact hq
    | ret => exact hq
    | exit id => exact hq.elim
    | goto l => exact hq.elim
    | panic c => exact hq.elim
    | outgrown => exact hq.elim
  · rintro c a w h; exact h
  · simp [hN]; omega
  · intro i v hv
    have := (look_slots0 args 0 i v hv).2
    simp at this
    have hi : i < args.length := by
      rcases Nat.lt_or_ge i args.length with h | h
      · exact h
      · rw [List.getElem?_eq_none h] at this; cases this
    rw [Array.getElem?_append_left (by simpa using hi)]
    simpa using this

theorem wc_seq {x y : Code} (h : WC P N x (Exit.then (y.wpIn (fz N.ro) 0 P Q) Q) L w) : WC P N (.seq x y) Q L w := fun np a ha => wpIn_seq (h (np.then _) a ha)
theorem wc_skip (h : WQ N Q .normal L w) : WC P N .skip Q L w := fun np a ha => wpIn_skip (h np a ha)
theorem wc_ret (h : WQ N Q .ret L w) : WC P N .ret Q L w := fun np a ha => wpIn_ret (h np a ha)
theorem wc_exit {id : Nat} (h : WQ N Q (.exit id) L w) : WC P N (.exit id) Q L w := fun np a ha => wpIn_exit (h np a ha)
theorem wc_block {id : Nat} {c : Code} (h : WC P N c (Exit.inBlock id Q) L w) : WC P N (.block id c) Q L w := fun np a ha => wpIn_block (h (np.inBlock id) a ha)
/-- No operation defers a call. -/
def noDefer : List Oper → Bool
  | [] => true
  | o :: r => (match o.op with | .defer _ => false | _ => true) && noDefer r
theorem wpIn_loop_ghost {F : Fence} {n : Nat} {P : Program} {Q : Exit → Act → World → Prop} {a : Act} {w : World} {c : Code} (I : Nat → Act → World → Prop) (n₀ : Nat) (h₀ : I n₀ a w)
    (round : ∀ k a w, I k a w → c.wpIn F n P (Exit.then (fun a' w' => ∃ k', k' < k ∧ I k' a' w') Q) a w) : (Code.loop c).wpIn F n P Q a w := by
  refine wpIn_loop (fun a w => ∃ n, I n a w) (fun a w => leastOf (fun n => I n a w)) ⟨n₀, h₀⟩ ?_
  intro a w hI
  refine wpIn_mono (round _ a w (leastOf_spec hI).1) ?_
  intro e a' w' hq
  cases e with
  | normal =>
    obtain ⟨n', hlt, hI'⟩ := hq
    exact show (∃ n, I n a' w') ∧ leastOf (fun n => I n a' w') < leastOf (fun n => I n a w) from ⟨⟨n', hI'⟩, Nat.lt_of_le_of_lt ((leastOf_spec ⟨n', hI'⟩).2 n' hI') hlt⟩
  | exit id => exact hq
  | goto l => exact hq
  | ret => exact hq
  | panic c => exact hq
  | outgrown => exact hq
theorem noDefer_ne {o : Oper} (h : (match o.op with | .defer _ => false | _ => true) = true) : ∀ c, o.op ≠ .defer c := by
  intro c e; rw [e] at h; cases h
theorem operIn_fz {ro : Option Nat} {o : Oper} {a : Act} {K : Act → World → Prop} (hd : ∀ c, o.op ≠ .defer c) (h : o.wpIn Fence.wide 0 P a w K Q) : o.wpIn (fz ro) 0 P a w K Q := by
  unfold Oper.wpIn at *
  rw [Oper.semAt_eq _ _ _ hd] at *
  exact h
theorem listIn_fz {ro : Option Nat} {ops : Array Oper} : ∀ {l : List Oper} {a : Act} {w : World}, noDefer l = true → wpListIn Fence.wide 0 P ops Q l a w → wpListIn (fz ro) 0 P ops Q l a w
  | [], _, _, _, h => h
  | o :: r, a, w, hd, h => by
    simp only [noDefer, Bool.and_eq_true] at hd
    unfold wpListIn at h ⊢
    split
    · rename_i hw
      rw [if_pos hw] at h
      exact operIn_fz (noDefer_ne hd.1) (Oper.wpIn_mono (fun a w => listIn_fz hd.2) h)
    · rename_i hw
      rw [if_neg hw] at h
      exact ⟨h.1, listIn_fz hd.2 h.2⟩
theorem wc_region {id : Nat} {l : List Oper} (h : WL P N l.toArray Q l L w) (hd : N.ro = none ∨ noDefer l = true := by first | exact .inl rfl | exact .inr rfl) : WC P N (.region id l.toArray false) Q L w := fun np a ha => by
  rcases hd with hd | hd
  · rw [hd]; exact wpIn_region_lit (h np a ha)
  · exact wpIn_region_lit (listIn_fz hd (h np a ha))
theorem wc_cond {x : Operand} {b : Bool} {c d : Code} (hx : ev L x = some (.bool b)) (ht : b = true → WC P N c Q L w) (hf : b = false → WC P N d Q L w) : WC P N (.cond x c d) Q L w := fun np a ha =>
  wpIn_cond_split (ha.ev hx) (fun e => ht e np a ha) (fun e => hf e np a ha)
theorem wc_cond_t {x : Operand} {c d : Code} (hx : ev L x = some (.bool true)) (h : WC P N c Q L w) : WC P N (.cond x c d) Q L w := fun np a ha => wpIn_cond_true (ha.ev hx) (h np a ha)
theorem wc_cond_f {x : Operand} {c d : Code} (hx : ev L x = some (.bool false)) (h : WC P N d Q L w) : WC P N (.cond x c d) Q L w := fun np a ha => wpIn_cond_false (ha.ev hx) (h np a ha)
theorem wc_sub {c : Code} {M : List (Nat × Value)} (k : Sub M L) (h : WC P N c Q M w) : WC P N c Q L w := fun np a ha => h np a (ha.sub k)

theorem wq_then {y : Code} {Q' : Exit → Act → World → Prop} (h : WC P N y Q L w) (hnp : NP Q' → NP Q) : WQ N (Exit.then (y.wpIn (fz N.ro) 0 P Q) Q') .normal L w := fun np a ha => h (hnp np) a ha
theorem wq_seq {y : Code} (h : WC P N y Q L w) : WQ N (Exit.then (y.wpIn (fz N.ro) 0 P Q) Q) .normal L w := fun np a ha => h np a ha
theorem wq_then_ret {K : Act → World → Prop} (h : WQ N Q .ret L w) : WQ N (Exit.then K Q) .ret L w := fun np a ha => h np a ha
theorem wq_then_exit {K : Act → World → Prop} {id : Nat} (h : WQ N Q (.exit id) L w) : WQ N (Exit.then K Q) (.exit id) L w := fun np a ha => h np a ha
theorem wq_block_normal {id : Nat} (h : WQ N Q .normal L w) : WQ N (Exit.inBlock id Q) .normal L w := fun np a ha => h np a ha
theorem wq_block_ret {id : Nat} (h : WQ N Q .ret L w) : WQ N (Exit.inBlock id Q) .ret L w := fun np a ha => h np a ha
theorem wq_block_hit {id : Nat} (h : WQ N Q .normal L w) : WQ N (Exit.inBlock id Q) (.exit id) L w := fun np a ha => by
  show (if id = id then Q .normal a w else _); rw [if_pos rfl]; exact h np a ha
theorem wq_block_miss {id id' : Nat} (hne : id' ≠ id) (h : WQ N Q (.exit id') L w) : WQ N (Exit.inBlock id Q) (.exit id') L w := fun np a ha => by
  show (if id' = id then _ else Q (.exit id') a w); rw [if_neg hne]; exact h np a ha

theorem look_append (A B : List (Nat × Value)) (i : Nat) : look (A ++ B) i = (look A i).or (look B i) := by
  induction A with
  | nil => simp [look]
  | cons p A ih =>
    obtain ⟨j, v⟩ := p
    simp only [List.cons_append, look]
    cases h : Nat.beq j i with
    | true => simp
    | false => simp [ih]
theorem Sub.append {A B L : List (Nat × Value)} (h : Sub A L) (k : Sub B L) : Sub (A ++ B) L := fun i v hv => by
  rw [look_append] at hv
  cases e : look A i with
  | none => rw [e] at hv; exact k i v (by simpa using hv)
  | some u => rw [e] at hv; simp at hv; subst hv; exact h i u e
/-- What a round hands on. -/
def RoundPost {G : Type} (N : Sh) (K : List (Nat × Value)) (S : G → List (Nat × Value)) (I : G → World → Prop) (m : G → Nat) (g : G) (a : Act) (w : World) : Prop := ∃ g', Fits N (S g' ++ K) a ∧ I g' w ∧ m g' < m g
/-- What each way hands on where ways meet. -/
def JoinPost {G : Type} (N : Sh) (K : List (Nat × Value)) (S : G → List (Nat × Value)) (I : G → World → Prop) (a : Act) (w : World) : Prop := ∃ g, Fits N (S g ++ K) a ∧ I g w
/-- A loop: at its head, for some g, the slots hold 'S g' and K, the world is as 'I g' says; each round lowers 'm'. -/
theorem wc_loop {c : Code} {G : Type} (K : List (Nat × Value)) (S : G → List (Nat × Value)) (I : G → World → Prop) (m : G → Nat) (g0 : G) (hK : Sub K L) (h0 : Sub (S g0) L) (hI : I g0 w)
    (round : ∀ g w, I g w → WC P N c (Exit.then (RoundPost N K S I m g) Q) (S g ++ K) w) : WC P N (.loop c) Q L w := fun np a ha => by
  refine wpIn_loop_ghost (fun n a w => ∃ g, m g = n ∧ Fits N (S g ++ K) a ∧ I g w) (m g0) ⟨g0, rfl, ha.sub (h0.append hK), hI⟩ ?_
  rintro n a w ⟨g, rfl, hf, hg⟩
  refine wpIn_mono (round g w hg (np.then _) a hf) fun e a w q => ?_
  cases e with
  | normal => obtain ⟨g', h1, h2, h3⟩ := q; exact ⟨m g', h3, g', rfl, h1, h2⟩
  | exit id => exact q
  | goto l => exact q
  | ret => exact q
  | panic c => exact q
  | outgrown => exact q
theorem wq_round {G : Type} {K : List (Nat × Value)} {S : G → List (Nat × Value)} {I : G → World → Prop} {m : G → Nat} {g : G} (g' : G) (hS : Sub (S g') L) (hK : Sub K L) (hI : I g' w) (hm : m g' < m g) :
    WQ N (Exit.then (RoundPost N K S I m g) Q) .normal L w := fun _ _ ha => ⟨g', ha.sub (hS.append hK), hI, hm⟩
/-- The same where rounds leave marks. -/
def RoundPostD {G : Type} (n : Nat) (df : G → List Nat) (K : List (Nat × Value)) (S : G → List (Nat × Value)) (I : G → World → Prop) (m : G → Nat) (g : G) (a : Act) (w : World) : Prop := ∃ g', Fits ⟨n, df g', none⟩ (S g' ++ K) a ∧ I g' w ∧ m g' < m g
theorem wc_loopD {c : Code} {G : Type} (df : G → List Nat) (K : List (Nat × Value)) (S : G → List (Nat × Value)) (I : G → World → Prop) (m : G → Nat) (g0 : G) (hK : Sub K L) (h0 : Sub (S g0) L) (hI : I g0 w)
    (round : ∀ g w, I g w → WC P ⟨N.n, df g, none⟩ c (Exit.then (RoundPostD N.n df K S I m g) Q) (S g ++ K) w) (hN : N = ⟨N.n, df g0, none⟩ := by rfl) : WC P N (.loop c) Q L w := fun np a ha => by
  rw [hN] at ha ⊢
  refine wpIn_loop_ghost (fun k a w => ∃ g, m g = k ∧ Fits ⟨N.n, df g, none⟩ (S g ++ K) a ∧ I g w) (m g0) ⟨g0, rfl, ha.sub (h0.append hK), hI⟩ ?_
  rintro k a w ⟨g, rfl, hf, hg⟩
  refine wpIn_mono (round g w hg (np.then _) a hf) fun e a w q => ?_
  cases e with
  | normal => obtain ⟨g', h1, h2, h3⟩ := q; exact ⟨m g', h3, g', rfl, h1, h2⟩
  | exit id => exact q
  | goto l => exact q
  | ret => exact q
  | panic c => exact q
  | outgrown => exact q
theorem wq_roundD {G : Type} {n : Nat} {df : G → List Nat} {K : List (Nat × Value)} {S : G → List (Nat × Value)} {I : G → World → Prop} {m : G → Nat} {g : G} (g' : G) (hS : Sub (S g') L) (hK : Sub K L) (hI : I g' w) (hm : m g' < m g) :
    WQ ⟨n, df g', none⟩ (Exit.then (RoundPostD n df K S I m g) Q) .normal L w := fun _ _ ha => ⟨g', ha.sub (hS.append hK), hI, hm⟩
theorem Holds.mark1 {w0 w : World} {F : HP} {D : Nat} (h : Holds w0 w (blk D (.deferred (some [])) • F)) : Holds w0 w (Marks [D] • F) := h.of_eq (by show _ = ((blk D (.deferred (some [])) • emp) • F); rw [sep_emp])
theorem Holds.mark0 {w0 w : World} {F : HP} (h : Holds w0 w F) : Holds w0 w (Marks [] • F) := h.add_emp
theorem Holds.markC {w0 w : World} {F : HP} {D : Nat} {bs : List Nat} (h : Holds w0 w (blk D (.deferred (some [])) • Marks bs • F)) : Holds w0 w (Marks (D :: bs) • F) := h.of_eq (by show _ = ((blk D (.deferred (some [])) • Marks bs) • F); rw [sep_assoc])
/-- Where ways meet: what holds of slots and world there, for some g; what follows is walked once. -/
theorem wc_join {x y : Code} {G : Type} (K : List (Nat × Value)) (S : G → List (Nat × Value)) (I : G → World → Prop) (hK : Sub K L) (J : ∀ g w, I g w → WC P N y Q (S g ++ K) w)
    (h : WC P N x (Exit.then (JoinPost N K S I) Q) L w) : WC P N (.seq x y) Q L w := fun np a ha => by
  refine wpIn_seq (wpIn_mono (h (np.then _) a ha) fun e a w q => ?_)
  cases e with
  | normal => obtain ⟨g, h1, h2⟩ := q; exact J g w h2 np a h1
  | exit id => exact q
  | goto l => exact q
  | ret => exact q
  | panic c => exact q
  | outgrown => exact q
theorem wq_join {G : Type} {K : List (Nat × Value)} {S : G → List (Nat × Value)} {I : G → World → Prop} (g : G) (hS : Sub (S g) L) (hK : Sub K L) (hI : I g w) :
    WQ N (Exit.then (JoinPost N K S I) Q) .normal L w := fun _ _ ha => ⟨g, ha.sub (hS.append hK), hI⟩

/-- What the call's results are. -/
def Res (P : Program) (fn : Func) (N : Sh) (L : List (Nat × Value)) (w : World) (v : Value) : Prop := ∀ a, Fits N L a → (results fn a.tmps).run P w = .ok v w
theorem res0 {fn : Func} (hr : fn.results = #[]) : Res P fn N L w (.tuple #[]) := fun _ _ => results_none hr _ _ _
theorem res1 {fn : Func} {t : Nat} {v : Value} (hr : fn.results = #[.tmp t]) (hv : look L t = some v) : Res P fn N L w v := fun a ha => by
  have hx := results_tmp hr a.tmps P w
  rwa [Array.getD_eq_getD_getElem?, ha.at_ t v hv] at hx
theorem res2 {fn : Func} {t u : Nat} {v x : Value} (hr : fn.results = #[.tmp t, .tmp u]) (hv : look L t = some v) (hx : look L u = some x) : Res P fn N L w (.tuple #[v, x]) := fun a ha => by
  have hy := results_tmp2 hr a.tmps P w
  rwa [Array.getD_eq_getD_getElem?, ha.at_ t v hv, Array.getD_eq_getD_getElem?, ha.at_ u x hx] at hy
theorem res3 {fn : Func} {t u s : Nat} {v x y : Value} (hr : fn.results = #[.tmp t, .tmp u, .tmp s]) (hv : look L t = some v) (hx : look L u = some x) (hy : look L s = some y) : Res P fn N L w (.tuple #[v, x, y]) := fun a ha => by
  have hz := results_tmp3 hr a.tmps P w
  rwa [Array.getD_eq_getD_getElem?, ha.at_ t v hv, Array.getD_eq_getD_getElem?, ha.at_ u x hx, Array.getD_eq_getD_getElem?, ha.at_ s y hy] at hz
/-- The call's end. -/
theorem wq_end {fn : Func} {e : Exit} {S : Value → World → Prop} {v : Value} (he : e = .ret ∨ e = .normal) (hr : Res P fn N L w v) (h : S v w) (hd : N.ds = [] := by rfl) : WQ N (EndPost P fn S) e L w := fun _ a ha => by
  have h1 : a.defers = [] := by rw [ha.defers, hd]; rfl
  rcases he with rfl | rfl <;> (show LeavesInM _ _ _ _ _ _ a.defers _ _; rw [h1]; exact ⟨_, hr a ha, _, rfl, h⟩)
theorem leaves_marks {w0 : World} {fn : Func} {tmps : Array Value} {R : Ending → World → Prop} {F : HP} : ∀ (bs : List Nat) (w : World), Holds w0 w (Marks bs • F) → (∀ w', Holds w0 w' F → LeavesInM Fence.wide 0 P fn tmps R [] .returning w') → LeavesInM Fence.wide 0 P fn tmps R (bs.map markD) .returning w
  | [], w, H, k => k w H.emp_sep
  | b :: r, w, H, k => by
    have H1 := H.flat
    have hb := H1.get.2
    refine ⟨by simp, .inl ⟨b, _, rfl, run_takeDeferred hb, ?_⟩⟩
    have H2 : Holds w0 (w.putObj b (.deferred none)) (blk b (.deferred none) • Marks r • F) := H1.turn rfl rfl rfl (by simp) (World.putObj_heap_same H1.lt) fun k hk _ => World.putObj_heap_other hk
    exact leaves_marks r _ H2.right k
theorem wq_endM {w0 : World} {fn : Func} {e : Exit} {S : Value → World → Prop} {F : HP} (he : e = .ret ∨ e = .normal) (H : Holds w0 w (Marks N.ds • F)) (h : ∀ w', Holds w0 w' F → ∃ v, Res P fn N L w' v ∧ S v w') : WQ N (EndPost P fn S) e L w := fun _ a ha => by
  have : LeavesInM Fence.wide 0 P fn a.tmps (fun e w' => ∃ v, e = .returned v ∧ S v w') a.defers .returning w := by
    rw [ha.defers]
    exact leaves_marks _ _ H fun w' H' => let ⟨v, h1, h2⟩ := h w' H'; ⟨v, h1 a ha, v, rfl, h2⟩
  rcases he with rfl | rfl <;> exact this
theorem wq_end0 {fn : Func} {e : Exit} {S : Value → World → Prop} (he : e = .ret ∨ e = .normal) (hr : fn.results = #[]) (h : S (.tuple #[]) w) (hd : N.ds = [] := by rfl) : WQ N (EndPost P fn S) e L w := wq_end he (res0 hr) h hd
theorem wq_end1 {fn : Func} {e : Exit} {S : Value → World → Prop} {t : Nat} {v : Value} (he : e = .ret ∨ e = .normal) (hr : fn.results = #[.tmp t]) (hv : look L t = some v) (h : S v w) (hd : N.ds = [] := by rfl) : WQ N (EndPost P fn S) e L w := wq_end he (res1 hr hv) h hd
theorem wq_end2 {fn : Func} {e : Exit} {S : Value → World → Prop} {t u : Nat} {v x : Value} (he : e = .ret ∨ e = .normal) (hr : fn.results = #[.tmp t, .tmp u]) (hv : look L t = some v) (hx : look L u = some x) (h : S (.tuple #[v, x]) w) (hd : N.ds = [] := by rfl) :
    WQ N (EndPost P fn S) e L w := wq_end he (res2 hr hv hx) h hd
theorem wq_end3 {fn : Func} {e : Exit} {S : Value → World → Prop} {t u s : Nat} {v x y : Value} (he : e = .ret ∨ e = .normal) (hr : fn.results = #[.tmp t, .tmp u, .tmp s]) (hv : look L t = some v) (hx : look L u = some x) (hy : look L s = some y) (h : S (.tuple #[v, x, y]) w) (hd : N.ds = [] := by rfl) :
    WQ N (EndPost P fn S) e L w := wq_end he (res3 hr hv hx hy) h hd
end

/-- What an operation's run comes to, whatever the frame that holds these slots. -/
def Runs (P : Program) (L : List (Nat × Value)) (op : Op) (ty : TypeId) (w : World) (r : Result Next) : Prop :=
  ∀ ρ : Operand → Value, (∀ x u, ev L x = some u → ρ x = u) → ∀ d pos aft g, (execOp ρ ⟨d, op, ty, pos, aft, g⟩).run P w = r
/-- It yields a value. -/
abbrev Val (P : Program) (L : List (Nat × Value)) (op : Op) (ty : TypeId) (w : World) (v : Value) (w' : World) : Prop := Runs P L op ty w (.ok (.value v) w')

section
variable {P : Program} {N : Sh} {Q : Exit → Act → World → Prop} {L : List (Nat × Value)} {w w' : World} {ops : Array Oper} {rest : List Oper} {op : Op} {ty : TypeId} {pos : String} {aft : Array Edge} {d : Nat} {v : Value}

theorem wl_nil (h : WQ N Q .normal L w) : WL P N ops Q [] L w := fun np a ha => wpListIn_nil (h np a ha)
theorem upon_in {o : Oper} {a : Act} {K : Act → World → Prop} (h : o.uponIn Fence.wide 0 P a K Q ((execOp a.eval o).run P w)) : o.wpIn Fence.wide 0 P a w K Q := ⟨fun _ _ => trivial, h⟩
theorem wl_gen (h : ∀ x, x = v → WL P N ops Q rest ((d, x) :: L) w) : WL P N ops Q rest ((d, v) :: L) w := h v rfl
theorem wl_val (hr : Val P L op ty w v w') (hd : d < N.n) (h : WL P N ops Q rest ((d, v) :: L) w') : WL P N ops Q (⟨some d, op, ty, pos, aft, none⟩ :: rest) L w := fun np a ha =>
  wpListIn_plain rfl fun K hK => upon_in (by
    rw [hr a.eval (fun x u hx => ha.ev hx)]
    exact hK _ _ (h np _ (ha.put hd v)))

/-- It acts, and then T holds of what it yields and of the world. -/
def Eff (P : Program) (L : List (Nat × Value)) (op : Op) (ty : TypeId) (w : World) (T : Value → World → Prop) : Prop :=
  (∃ v w', Runs P L op ty w (.ok (.value v) w') ∧ T v w') ∨ (∃ w', Runs P L op ty w (.ok .skip w') ∧ T undef w') ∨ (∃ f args w', Runs P L op ty w (.ok (.enter f args) w') ∧ Ret P f args w' T) ∨
  (∃ l f tmps c d w', Runs P L op ty w (.ok (.round l f tmps c d) w') ∧ RoundIn Fence.wide 0 P l f tmps c d w' fun e w'' => ∃ v, e = .returned v ∧ T v w'')
theorem e_val {T : Value → World → Prop} (hr : Val P L op ty w v w') (h : T v w') : Eff P L op ty w T := .inl ⟨v, w', hr, h⟩
theorem e_skip {T : Value → World → Prop} (hr : Runs P L op ty w (.ok .skip w')) (h : T undef w') : Eff P L op ty w T := .inr (.inl ⟨w', hr, h⟩)
theorem e_call {T : Value → World → Prop} {f : FuncId} {args : Array Value} (hr : Runs P L op ty w (.ok (.enter f args) w')) (h : Ret P f args w' T) : Eff P L op ty w T := .inr (.inr (.inl ⟨f, args, w', hr, h⟩))
theorem e_round {T : Value → World → Prop} {l : Nat} {f : FuncId} {tmps : Array Value} {c d : Code} (hr : Runs P L op ty w (.ok (.round l f tmps c d) w')) (h : RoundIn Fence.wide 0 P l f tmps c d w' fun e w'' => ∃ v, e = .returned v ∧ T v w'') : Eff P L op ty w T :=
  .inr (.inr (.inr ⟨l, f, tmps, c, d, w', hr, h⟩))
theorem Eff.mono {T T' : Value → World → Prop} (he : Eff P L op ty w T) (h : ∀ v w', T v w' → T' v w') : Eff P L op ty w T' := by
  rcases he with ⟨v, w', hr, ht⟩ | ⟨w', hr, ht⟩ | ⟨f, args, w', hr, hc⟩ | ⟨l, f, tmps, c, d, w', hr, hc⟩
  · exact .inl ⟨v, w', hr, h _ _ ht⟩
  · exact .inr (.inl ⟨w', hr, h _ _ ht⟩)
  · exact .inr (.inr (.inl ⟨f, args, w', hr, hc.mono h⟩))
  · exact .inr (.inr (.inr ⟨l, f, tmps, c, d, w', hr, RoundIn.mono hc fun e w'' ⟨v, e, t⟩ => ⟨v, e, h _ _ t⟩⟩))
theorem Eff.wp {T : Value → World → Prop} (he : Eff P L op ty w T) {a : Act} (ha : Fits N L a) {o : Oper} (h1 : o.op = op) (h2 : o.type = ty) {K : Act → World → Prop} (h : ∀ v w', T v w' → K (a.put o.dst v) w') : o.wpIn Fence.wide 0 P a w K Q := by
  obtain ⟨d, op', ty', pos, aft, g⟩ := o
  dsimp only at h1 h2
  subst h1 h2
  refine upon_in ?_
  rcases he with ⟨v, w', hr, ht⟩ | ⟨w', hr, ht⟩ | ⟨f, args, w', hr, hc⟩ | ⟨l, f, tmps, c, d, w', hr, hc⟩ <;> rw [hr a.eval (fun x u hx => ha.ev hx)]
  · exact h _ _ ht
  · exact h _ _ ht
  · refine ⟨by simp [Fence.wide], callsIn_wide.2 (Calls.mono hc ?_)⟩
    rintro e w'' ⟨v, rfl, hs⟩
    exact h _ _ hs
  · refine ⟨by simp [Fence.wide], RoundIn.mono hc ?_⟩
    rintro e w'' ⟨v, rfl, hs⟩
    exact h _ _ hs
theorem wl_eff {T : Value → World → Prop} (he : Eff P L op ty w T) (hd : d < N.n) (h : ∀ v w', T v w' → WL P N ops Q rest ((d, v) :: L) w') : WL P N ops Q (⟨some d, op, ty, pos, aft, none⟩ :: rest) L w := fun np a ha =>
  wpListIn_plain rfl fun _ hK => he.wp ha rfl rfl fun v w' ht => hK _ _ (h v w' ht np _ (ha.put hd v))
theorem wl_eff0 {T : Value → World → Prop} (he : Eff P L op ty w T) (h : ∀ v w', T v w' → WL P N ops Q rest L w') : WL P N ops Q (⟨none, op, ty, pos, aft, none⟩ :: rest) L w := fun np a ha =>
  wpListIn_plain rfl fun _ hK => he.wp ha rfl rfl fun v w' ht => hK _ _ (h v w' ht np _ ha)

theorem yielded_of {a : Act} (ha : Fits N L a) {j t : Nat} {b : Bool} (hj : (ops[j]?).bind (·.dst) = some t) (hl : look L t = some (.bool b)) : yielded ops a.tmps j = some b := by
  unfold yielded; rw [hj]; simp [ha.at_ t _ hl]
theorem wl_yes {j t : Nat} {want : Bool} {o : Option Nat} (hj : (ops[j]?).bind (·.dst) = some t) (hl : look L t = some (.bool want))
    (h : WL P N ops Q (⟨o, op, ty, pos, aft, none⟩ :: rest) L w) : WL P N ops Q (⟨o, op, ty, pos, aft, some (j, want)⟩ :: rest) L w := fun np a ha => by
  have h1 := h np a ha
  have hw : Region.wanted ⟨o, op, ty, pos, aft, some (j, want)⟩ (yielded ops a.tmps) = true := by simp [Region.wanted, yielded_of ha hj hl]
  unfold wpListIn at h1 ⊢
  rw [if_pos hw]
  rw [if_pos (by simp [Region.wanted])] at h1
  exact h1
theorem wl_no {j t : Nat} {want b : Bool} (hj : (ops[j]?).bind (·.dst) = some t) (hl : look L t = some (.bool b)) (hb : (b == want) = false) (hd : d < N.n)
    (h : WL P N ops Q rest ((d, undef) :: L) w) : WL P N ops Q (⟨some d, op, ty, pos, aft, some (j, want)⟩ :: rest) L w := fun np a ha => by
  have hw : Region.wanted ⟨some d, op, ty, pos, aft, some (j, want)⟩ (yielded ops a.tmps) = false := by simp [Region.wanted, yielded_of ha hj hl]; simpa using hb
  unfold wpListIn
  rw [if_neg (by rw [hw]; decide)]
  exact ⟨fun _ _ => trivial, h np _ (ha.put hd _)⟩
theorem wl_no0 {j t : Nat} {want b : Bool} (hj : (ops[j]?).bind (·.dst) = some t) (hl : look L t = some (.bool b)) (hb : (b == want) = false)
    (h : WL P N ops Q rest L w) : WL P N ops Q (⟨none, op, ty, pos, aft, some (j, want)⟩ :: rest) L w := fun np a ha => by
  have hw : Region.wanted ⟨none, op, ty, pos, aft, some (j, want)⟩ (yielded ops a.tmps) = false := by simp [Region.wanted, yielded_of ha hj hl]; simpa using hb
  unfold wpListIn
  rw [if_neg (by rw [hw]; decide)]
  exact ⟨fun _ _ => trivial, h np _ ha⟩
theorem yielded_undef {a : Act} (ha : Fits N L a) {j t : Nat} (hj : (ops[j]?).bind (·.dst) = some t) (hl : look L t = some undef) : yielded ops a.tmps j = none := by
  unfold yielded; rw [hj]; simp [ha.at_ t _ hl, undef]
/-- What it hangs on was passed over itself. -/
theorem wl_nou {j t : Nat} {want : Bool} (hj : (ops[j]?).bind (·.dst) = some t) (hl : look L t = some undef) (hd : d < N.n)
    (h : WL P N ops Q rest ((d, undef) :: L) w) : WL P N ops Q (⟨some d, op, ty, pos, aft, some (j, want)⟩ :: rest) L w := fun np a ha => by
  have hw : Region.wanted ⟨some d, op, ty, pos, aft, some (j, want)⟩ (yielded ops a.tmps) = false := by simp [Region.wanted, yielded_undef ha hj hl]
  unfold wpListIn
  rw [if_neg (by rw [hw]; decide)]
  exact ⟨fun _ _ => trivial, h np _ (ha.put hd _)⟩
/-- A truth that guards what follows: two ways. -/
theorem wl_split {x : Operand} {b : Bool} (hx : ev L x = some (.bool b)) (hd : d < N.n) (ht : b = true → WL P N ops Q rest ((d, .bool true) :: L) w) (hf : b = false → WL P N ops Q rest ((d, .bool false) :: L) w) :
    WL P N ops Q (⟨some d, .move x, ty, pos, aft, none⟩ :: rest) L w := by
  refine wl_val (v := .bool b) (w' := w) ?_ hd ?_
  · intro ρ hρ dd pos aft g; simp [execOp, hρ _ _ hx]
  · cases b
    · exact hf rfl
    · exact ht rfl
end

end Go.Proofs.Ytgmpclifphbjkaa
end
section
/- What each form of operation comes to. -/
set_option linter.unusedSimpArgs false
set_option linter.unusedVariables false
namespace Go.Proofs.Ytgmpclifphbjkaa
open Go.RowKit

theorem wrap_i64 {x : Int} (h : -9223372036854775808 ≤ x ∧ x ≤ 9223372036854775807) : IntKind.i64.wrap x = x := IntWalk.i64_in x h
section
variable {P : Program} {L : List (Nat × Value)} {w : World} {ty : TypeId} {x y c : Operand} {v u : Value}

theorem r_known_t {op : Op} {b : Bool} {w' : World} (h : Val P L op ty w (.bool b) w') (hb : b = true) : Val P L op ty w (.bool true) w' := hb ▸ h
theorem r_known_f {op : Op} {b : Bool} {w' : World} (h : Val P L op ty w (.bool b) w') (hb : b = false) : Val P L op ty w (.bool false) w' := hb ▸ h
theorem r_as {op : Op} {v v' : Value} (h : Val P L op ty w v w) (e : v = v') : Val P L op ty w v' w := e ▸ h
theorem r_move (hx : ev L x = some v) : Val P L (.move x) ty w v w := fun ρ hρ _ _ _ _ => by simp [execOp, hρ _ _ hx]
theorem r_assign (hx : ev L x = some v) : Val P L (.assign x) ty w v w := fun ρ hρ _ _ _ _ => by simp [execOp, hρ _ _ hx]
theorem r_pick_t {a b : Operand} (hc : ev L c = some (.bool true)) (ha : ev L a = some v) : Val P L (.pick c a b) ty w v w := fun ρ hρ _ _ _ _ => by
  simp [execOp, hρ _ _ hc, hρ _ _ ha, asBool]
theorem r_pick_f {a b : Operand} (hc : ev L c = some (.bool false)) (hb : ev L b = some v) : Val P L (.pick c a b) ty w v w := fun ρ hρ _ _ _ _ => by
  simp [execOp, hρ _ _ hc, hρ _ _ hb, asBool]
theorem r_nil {a : Addr} (hx : ev L x = some (.pointer (some a))) : Val P L (.nilCheck x) ty w (.pointer (some a)) w := fun ρ hρ _ _ _ _ => by
  simp [execOp, hρ _ _ hx]
theorem r_extract {vs : Array Value} {i : Nat} (hx : ev L x = some (.tuple vs)) (hi : vs[i]? = some v) : Val P L (.extract x i) ty w v w := fun ρ hρ _ _ _ _ => by
  simp [execOp, hρ _ _ hx, Instr.extract, hi]
theorem r_not {b : Bool} {t : TypeId} (hx : ev L x = some (.bool b)) : Val P L (.unOp .not t x) ty w (.bool (!b)) w := fun ρ hρ _ _ _ _ => by
  simp [execOp, hρ _ _ hx, Op.unary]
theorem r_neg {n : Int} {t : TypeId} (hx : ev L x = some (.int .i64 n)) (hb : -9223372036854775808 ≤ 0 - n ∧ 0 - n ≤ 9223372036854775807) : Val P L (.unOp .neg t x) ty w (.int .i64 (-n)) w := fun ρ hρ _ _ _ _ => by
  simp only [execOp, hρ _ _ hx, Op.unary, Op.intArith, wrap_i64 hb]; simp
/-- The values of some operands. -/
def evl (L : List (Nat × Value)) : List Operand → Option (List Value)
  | [] => some []
  | x :: r => match ev L x with
    | some v => match evl L r with
      | some vs => some (v :: vs)
      | none => none
    | none => none
theorem evs {ρ : Operand → Value} (hρ : ∀ x u, ev L x = some u → ρ x = u) : ∀ (xs : List Operand) (vs : List Value), evl L xs = some vs → xs.map ρ = vs
  | [], vs, h => by simp [evl] at h; simp [h]
  | x :: xs, vs, h => by
    simp only [evl] at h
    cases h1 : ev L x with
    | none => simp [h1] at h
    | some v =>
      cases h2 : evl L xs with
      | none => simp [h1, h2] at h
      | some us =>
        simp [h1, h2] at h
        subst h
        simp [hρ _ _ h1, evs hρ xs us h2]
theorem evsA {ρ : Operand → Value} (hρ : ∀ x u, ev L x = some u → ρ x = u) (xs : List Operand) (vs : List Value) (h : evl L xs = some vs) : xs.toArray.map ρ = vs.toArray := by
  apply Array.ext'
  simpa using evs hρ _ _ h
theorem r_makeFunc {fn : Fn} {first cap : List Operand} {f c : List Value} (hf : evl L first = some f) (hc : evl L cap = some c) : Val P L (.makeFunc fn first.toArray cap.toArray) ty w (.func fn f.toArray c.toArray) w := fun ρ hρ _ _ _ _ => by
  simp only [execOp, Instr.makeFunc, evsA hρ _ _ hf, evsA hρ _ _ hc]; rfl

/-! ### numbers -/
section
variable {k : IntKind} {m n : Int} {t t' : TypeId}
theorem r_int (o : BinOp) {r : Value} (hx : ev L x = some (.int k m)) (hy : ev L y = some (.int k n)) (ho : o ≠ .shl ∧ o ≠ .shr)
    (h : (binOp o t (.int k m) (.int k n)).run P w = .ok r w) : Val P L (.binOp o t x y t') ty w r w := fun ρ hρ _ _ _ _ => by
  simp only [execOp, hρ _ _ hx, hρ _ _ hy]
  have : (eqGuard o t x y (.int k m) (.int k n)).run P w = .ok () w := by unfold eqGuard; split <;> rfl
  simp [this, h]
theorem r_add (hx : ev L x = some (.int .i64 m)) (hy : ev L y = some (.int .i64 n)) (hb : -9223372036854775808 ≤ m + n ∧ m + n ≤ 9223372036854775807) : Val P L (.binOp .add t x y t') ty w (.int .i64 (m + n)) w :=
  r_int .add hx hy (by decide) (by simp only [binOp, ne_eq, not_true_eq_false, if_false, Op.intArith, wrap_i64 hb]; rfl)
theorem r_sub (hx : ev L x = some (.int .i64 m)) (hy : ev L y = some (.int .i64 n)) (hb : -9223372036854775808 ≤ m - n ∧ m - n ≤ 9223372036854775807) : Val P L (.binOp .sub t x y t') ty w (.int .i64 (m - n)) w :=
  r_int .sub hx hy (by decide) (by simp only [binOp, ne_eq, not_true_eq_false, if_false, Op.intArith, wrap_i64 hb]; rfl)
theorem r_mul (hx : ev L x = some (.int .i64 m)) (hy : ev L y = some (.int .i64 n)) (hb : -9223372036854775808 ≤ m * n ∧ m * n ≤ 9223372036854775807) : Val P L (.binOp .mul t x y t') ty w (.int .i64 (m * n)) w :=
  r_int .mul hx hy (by decide) (by simp only [binOp, ne_eq, not_true_eq_false, if_false, Op.intArith, wrap_i64 hb]; rfl)
theorem r_addK (hx : ev L x = some (.int k m)) (hy : ev L y = some (.int k n)) : Val P L (.binOp .add t x y t') ty w (.int k (k.wrap (m + n))) w :=
  r_int .add hx hy (by decide) (by simp only [binOp, ne_eq, not_true_eq_false, if_false, Op.intArith]; rfl)
theorem r_subK (hx : ev L x = some (.int k m)) (hy : ev L y = some (.int k n)) : Val P L (.binOp .sub t x y t') ty w (.int k (k.wrap (m - n))) w :=
  r_int .sub hx hy (by decide) (by simp only [binOp, ne_eq, not_true_eq_false, if_false, Op.intArith]; rfl)
theorem r_mulK (hx : ev L x = some (.int k m)) (hy : ev L y = some (.int k n)) : Val P L (.binOp .mul t x y t') ty w (.int k (k.wrap (m * n))) w :=
  r_int .mul hx hy (by decide) (by simp only [binOp, ne_eq, not_true_eq_false, if_false, Op.intArith]; rfl)
/-- '%', both sides not negative. -/
theorem r_rem (hx : ev L x = some (.int k m)) (hy : ev L y = some (.int k n)) (hm : 0 ≤ m) (hn : 0 < n) : Val P L (.binOp .rem t x y t') ty w (.int k (m % n)) w :=
  r_int .rem hx hy (by decide) (by
    simp only [binOp, ne_eq, not_true_eq_false, if_false, Op.intDiv]
    rw [if_neg (by omega), Int.tmod_eq_emod_of_nonneg hm]; rfl)
theorem r_trem (hx : ev L x = some (.int k m)) (hy : ev L y = some (.int k n)) (hn : n ≠ 0) : Val P L (.binOp .rem t x y t') ty w (.int k (m.tmod n)) w :=
  r_int .rem hx hy (by decide) (by
    simp only [binOp, ne_eq, not_true_eq_false, if_false, Op.intDiv]
    rw [if_neg hn]; rfl)
theorem r_quo (hx : ev L x = some (.int .i64 m)) (hy : ev L y = some (.int .i64 n)) (hm : 0 ≤ m) (hm' : m ≤ 9223372036854775807) (hn : 0 < n) : Val P L (.binOp .quo t x y t') ty w (.int .i64 (m / n)) w :=
  r_int .quo hx hy (by decide) (by
    have h1 : 0 ≤ m / n := Int.ediv_nonneg hm (by omega)
    have h2 : m / n ≤ m := Int.ediv_le_self n hm
    simp only [binOp, ne_eq, not_true_eq_false, if_false, Op.intDiv]
    rw [if_neg (by omega), Int.tdiv_eq_ediv_of_nonneg hm, wrap_i64 (by omega)]; rfl)
theorem r_eql (hx : ev L x = some (.int k m)) (hy : ev L y = some (.int k n)) : Val P L (.binOp .eql t x y t') ty w (.bool (m == n)) w :=
  r_int .eql hx hy (by decide) (by simp only [binOp, ne_eq, not_true_eq_false, if_false, Op.intCmp]; rfl)
theorem r_neq (hx : ev L x = some (.int k m)) (hy : ev L y = some (.int k n)) : Val P L (.binOp .neq t x y t') ty w (.bool (m != n)) w :=
  r_int .neq hx hy (by decide) (by simp only [binOp, ne_eq, not_true_eq_false, if_false, Op.intCmp]; rfl)
theorem r_lss (hx : ev L x = some (.int k m)) (hy : ev L y = some (.int k n)) : Val P L (.binOp .lss t x y t') ty w (.bool (decide (m < n))) w :=
  r_int .lss hx hy (by decide) (by simp only [binOp, ne_eq, not_true_eq_false, if_false, Op.intCmp]; rfl)
theorem r_leq (hx : ev L x = some (.int k m)) (hy : ev L y = some (.int k n)) : Val P L (.binOp .leq t x y t') ty w (.bool (decide (m ≤ n))) w :=
  r_int .leq hx hy (by decide) (by simp only [binOp, ne_eq, not_true_eq_false, if_false, Op.intCmp]; rfl)
theorem r_gtr (hx : ev L x = some (.int k m)) (hy : ev L y = some (.int k n)) : Val P L (.binOp .gtr t x y t') ty w (.bool (decide (m > n))) w :=
  r_int .gtr hx hy (by decide) (by simp only [binOp, ne_eq, not_true_eq_false, if_false, Op.intCmp]; rfl)
theorem r_geq (hx : ev L x = some (.int k m)) (hy : ev L y = some (.int k n)) : Val P L (.binOp .geq t x y t') ty w (.bool (decide (m ≥ n))) w :=
  r_int .geq hx hy (by decide) (by simp only [binOp, ne_eq, not_true_eq_false, if_false, Op.intCmp]; rfl)
/-- &, |, ^, &^: as the model has it. -/
theorem r_bits (o : BinOp) {r : Int} (hx : ev L x = some (.int k m)) (hy : ev L y = some (.int k n)) (ho : o = .and ∨ o = .or ∨ o = .xor ∨ o = .andNot) (hr : (Op.intBits o k m n).run P w = .ok (.int k r) w) : Val P L (.binOp o t x y t') ty w (.int k r) w :=
  r_int o hx hy (by rcases ho with rfl | rfl | rfl | rfl <;> decide) (by rcases ho with rfl | rfl | rfl | rfl <;> simp [binOp, hr])
theorem r_conv_int {src dst : TypeId} {k k' : IntKind} {n : Int} (hx : ev L x = some (.int k n)) (hs : (P.underlying src).isSome = true) (hd : P.underlying dst = some (.int k')) (hw : k'.wrap n = n) : Val P L (.convert src dst x) ty w (.int k' n) w := fun ρ hρ _ _ _ _ => by
  obtain ⟨ds, hs'⟩ := Option.isSome_iff_exists.1 hs
  simp only [execOp, hρ _ _ hx]
  simp [convert, run_underlying hs', run_underlying hd, Conv.intToInt, hw]
end
theorem r_eql_bool {t t' : TypeId} {a b : Bool} (ht : P.underlying t = some .bool) (hx : ev L x = some (.bool a)) (hy : ev L y = some (.bool b)) : Val P L (.binOp .eql t x y t') ty w (.bool (a == b)) w := fun ρ hρ _ _ _ _ => by
  simp only [execOp, hρ _ _ hx, hρ _ _ hy]
  have : (eqGuard .eql t x y (.bool a) (.bool b)).run P w = .ok () w := by unfold eqGuard; rfl
  simp [this, run_eql_bool w t a b ht]
theorem r_neq_bool {t t' : TypeId} {a b : Bool} (ht : P.underlying t = some .bool) (hx : ev L x = some (.bool a)) (hy : ev L y = some (.bool b)) : Val P L (.binOp .neq t x y t') ty w (.bool (!(a == b))) w := fun ρ hρ _ _ _ _ => by
  simp only [execOp, hρ _ _ hx, hρ _ _ hy]
  have : (eqGuard .neq t x y (.bool a) (.bool b)).run P w = .ok () w := by unfold eqGuard; rfl
  simp [this, run_neq_bool w t a b ht]
theorem run_equal {t : TypeId} {a b : Value} {r : Result Bool} (h : ∀ d, (Op.equalIn (d + 1) t a b).run P w = r) : (Op.equal t a b).run P w = r := h 9999
/-- a pointer against nil -/
theorem r_ptr_nil {t t' e : TypeId} {p : Option Addr} (ht : P.underlying t = some (.pointer e)) (hx : ev L x = some (.pointer p)) (hy : ev L y = some (.pointer none)) : Val P L (.binOp .eql t x y t') ty w (.bool p.isNone) w := fun ρ hρ _ _ _ _ => by
  simp only [execOp, hρ _ _ hx, hρ _ _ hy]
  have h1 : (eqGuard .eql t x y (.pointer p) (.pointer none)).run P w = .ok () w := by unfold eqGuard; rfl
  have h2 : (Op.equal t (.pointer p) (.pointer none)).run P w = .ok p.isNone w := run_equal fun d => by cases p <;> simp [Op.equalIn, run_underlying ht]
  have h3 : binOp .eql t (.pointer p) (.pointer none) = (do pure (.bool (← Op.equal t (.pointer p) (.pointer none)))) := by cases p <;> rfl
  simp only [Sem.run_bind, h1, Result.andThen, h3, h2]
  simp
theorem r_ptr_nnil {t t' e : TypeId} {p : Option Addr} (ht : P.underlying t = some (.pointer e)) (hx : ev L x = some (.pointer p)) (hy : ev L y = some (.pointer none)) : Val P L (.binOp .neq t x y t') ty w (.bool p.isSome) w := fun ρ hρ _ _ _ _ => by
  simp only [execOp, hρ _ _ hx, hρ _ _ hy]
  have h1 : (eqGuard .neq t x y (.pointer p) (.pointer none)).run P w = .ok () w := by unfold eqGuard; rfl
  have h2 : (Op.equal t (.pointer p) (.pointer none)).run P w = .ok p.isNone w := run_equal fun d => by cases p <;> simp [Op.equalIn, run_underlying ht]
  have h3 : binOp .neq t (.pointer p) (.pointer none) = (do pure (.bool (!(← Op.equal t (.pointer p) (.pointer none))))) := by cases p <;> rfl
  simp only [Sem.run_bind, h1, Result.andThen, h3, h2]
  cases p <;> simp
theorem r_slice_nil {t t' e : TypeId} {a : Option Addr} {n c : Nat} (ht : P.underlying t = some (.slice e)) (hx : ev L x = some (.slice a n c)) (hy : ev L y = some (.slice none 0 0)) : Val P L (.binOp .eql t x y t') ty w (.bool a.isNone) w := fun ρ hρ _ _ _ _ => by
  simp only [execOp, hρ _ _ hx, hρ _ _ hy]
  have h1 : (eqGuard .eql t x y (.slice a n c) (.slice none 0 0)).run P w = .ok () w := by unfold eqGuard; rfl
  have h2 : (Op.equal t (.slice a n c) (.slice none 0 0)).run P w = .ok a.isNone w := run_equal fun d => by cases a <;> simp [Op.equalIn, run_underlying ht]
  have h3 : binOp .eql t (.slice a n c) (.slice none 0 0) = (do pure (.bool (← Op.equal t (.slice a n c) (.slice none 0 0)))) := by rfl
  simp only [Sem.run_bind, h1, Result.andThen, h3, h2]
  simp
theorem r_str (o : BinOp) {t t' : TypeId} {a b : ByteArray} {r : Value} (hx : ev L x = some (.string a)) (hy : ev L y = some (.string b)) (h : (Op.stringOp o a b).run P w = .ok r w) (ho : o ≠ .shl ∧ o ≠ .shr) : Val P L (.binOp o t x y t') ty w r w := fun ρ hρ _ _ _ _ => by
  simp only [execOp, hρ _ _ hx, hρ _ _ hy]
  have : (eqGuard o t x y (.string a) (.string b)).run P w = .ok () w := by unfold eqGuard; split <;> rfl
  simp only [Sem.run_bind, this, Result.andThen]
  rw [show binOp o t (.string a) (.string b) = Op.stringOp o a b from by cases o <;> rfl, h]
  rfl
theorem r_str_eql {t t' : TypeId} {a b : ByteArray} (hx : ev L x = some (.string a)) (hy : ev L y = some (.string b)) : Val P L (.binOp .eql t x y t') ty w (.bool (a.toList == b.toList)) w := r_str .eql hx hy rfl (by decide)
theorem r_str_neq {t t' : TypeId} {a b : ByteArray} (hx : ev L x = some (.string a)) (hy : ev L y = some (.string b)) : Val P L (.binOp .neq t x y t') ty w (.bool (!(a.toList == b.toList))) w := r_str .neq hx hy rfl (by decide)
theorem r_str_add {t t' : TypeId} {a b : ByteArray} (hx : ev L x = some (.string a)) (hy : ev L y = some (.string b)) (h : ((a.size + b.size : Nat) : Int) ≤ 9223372036854775807) : Val P L (.binOp .add t x y t') ty w (.string (a ++ b)) w :=
  r_str .add hx hy (by simp only [Op.stringOp]; rw [if_neg (by simp only [IntKind.max]; simp [IntKind.signed, IntKind.bits]; omega)]; rfl) (by decide)

/-! ### built-ins on slices and numbers -/
theorem run_call {P : Program} {w : World} {ty : TypeId} {b : Builtin} {args : List Operand} {ts : Array TypeId} {vs : List Value} {r : Result Next} (ha : evl L args = some vs)
    (h : ∀ consts, (builtin b ts ty consts vs.toArray).run P w = r) : Runs P L (.call ⟨.builtin b, args.toArray, ts⟩) ty w r := fun ρ hρ _ _ _ _ => by
  simp only [execOp, resolve, Sem.run_bind, Sem.run_pure, Result.andThen_ok, invoke, evsA hρ _ _ ha]
  exact h _
theorem r_len {t e : TypeId} {a : Option Addr} {n c : Nat} (ht : P.underlying t = some (.slice e)) (hx : ev L x = some (.slice a n c)) : Val P L (.call ⟨.builtin .len, #[x], #[t]⟩) ty w (.int .i64 n) w :=
  run_call (vs := [.slice a n c]) (by simp [evl, hx]) fun _ => by simp [builtin, Builtin.len_, run_underlying ht, goInt]
theorem r_len_str {t : TypeId} {s : ByteArray} (ht : P.underlying t = some .string) (hx : ev L x = some (.string s)) : Val P L (.call ⟨.builtin .len, #[x], #[t]⟩) ty w (.int .i64 s.size) w :=
  run_call (vs := [.string s]) (by simp [evl, hx]) fun _ => by simp [builtin, Builtin.len_, run_underlying ht, goInt]
theorem r_cap {t e : TypeId} {a : Option Addr} {n c : Nat} (ht : P.underlying t = some (.slice e)) (hx : ev L x = some (.slice a n c)) : Val P L (.call ⟨.builtin .cap, #[x], #[t]⟩) ty w (.int .i64 c) w :=
  run_call (vs := [.slice a n c]) (by simp [evl, hx]) fun _ => by simp [builtin, Builtin.cap_, run_underlying ht, goInt]
theorem r_min {k : IntKind} {m n : Int} {ts : Array TypeId} (hx : ev L x = some (.int k m)) (hy : ev L y = some (.int k n)) : Val P L (.call ⟨.builtin .min, #[x, y], ts⟩) ty w (.int k (min m n)) w :=
  run_call (vs := [.int k m, .int k n]) (by simp [evl, hx, hy]) fun _ => by
    simp only [builtin, Sem.run_bind]
    rw [run_min_int2]
    have : (if n < m then n else m) = min m n := by omega
    simp [this]
theorem r_max {k : IntKind} {m n : Int} {ts : Array TypeId} (hx : ev L x = some (.int k m)) (hy : ev L y = some (.int k n)) : Val P L (.call ⟨.builtin .max, #[x, y], ts⟩) ty w (.int k (max m n)) w :=
  run_call (vs := [.int k m, .int k n]) (by simp [evl, hx, hy]) fun _ => by
    simp only [builtin, Sem.run_bind]
    rw [run_max_int2]
    have : (if n > m then n else m) = max m n := by omega
    simp [this]

/-! ### calls -/
/-- A function of the program's. -/
theorem r_call {f : FuncId} {args : List Operand} {ts : Array TypeId} {vs : List Value} {fn : Func} {c : Code} (ha : evl L args = some vs)
    (hf : P.funcs[f]? = some fn) (hn : (fn.name == "runtime.NumGoroutine") = false) (hb : fn.body = some c) : Runs P L (.call ⟨.value (.func f), args.toArray, ts⟩) ty w (.ok (.enter f vs.toArray) w) := fun ρ hρ _ _ _ _ => by
  have hg : ρ (.func f) = .func (.func f) #[] #[] := hρ _ _ rfl
  simp [execOp, resolve, invoke, evs hρ _ _ ha, hg, Deferred.ofValue, callFunc, hf, hb]; simpa using hn
/-- A function value's. -/
theorem r_call_val {f : FuncId} {x : Operand} {args : List Operand} {ts : Array TypeId} {vs first cap : List Value} {fn : Func} {c : Code} (hx : ev L x = some (.func (.func f) first.toArray cap.toArray)) (ha : evl L args = some vs)
    (hf : P.funcs[f]? = some fn) (hn : (fn.name == "runtime.NumGoroutine") = false) (hb : fn.body = some c) : Runs P L (.call ⟨.value x, args.toArray, ts⟩) ty w (.ok (.enter f (first ++ vs ++ cap).toArray) w) := fun ρ hρ _ _ _ _ => by
  have hg := hρ _ _ hx
  simp [execOp, resolve, invoke, evs hρ _ _ ha, hg, Deferred.ofValue, callFunc, hf, hb]; simpa using hn

/-! ### memory -/
theorem r_field {t : TypeId} {fs : Array Field} {f : Field} {i b o : Nat} (off : Nat) (ht : P.underlying t = some (.struct fs)) (hf : fs[i]? = some f) (ho : f.offset = off) {n : Nat} (hs : ∀ w, (sizeOf f.type).run P w = .ok n w) (hn : n ≠ 0)
    (hx : ev L x = some (.pointer (some ⟨b, o, none⟩))) : Val P L (.fieldAddr t x i) ty w (.pointer (some ⟨b, o + off, none⟩)) w := fun ρ hρ _ _ _ _ => by
  simp [execOp, hρ _ _ hx, Instr.fieldAt, run_underlying ht, hf, Instr.sureAddr, fieldPlace, hs, hn, add_at, ho]
theorem r_fieldA {t : TypeId} {fs : Array Field} {f : Field} {i b o o' : Nat} (off : Nat) (ht : P.underlying t = some (.struct fs)) (hf : fs[i]? = some f) (ho : f.offset = off) {n : Nat} (hs : ∀ w, (sizeOf f.type).run P w = .ok n w) (hn : n ≠ 0)
    (hx : ev L x = some (.pointer (some ⟨b, o, none⟩))) (he : o + off = o') : Val P L (.fieldAddr t x i) ty w (.pointer (some ⟨b, o', none⟩)) w := he ▸ r_field off ht hf ho hs hn hx
theorem r_field0 {t : TypeId} {fs : Array Field} {f : Field} {i b : Nat} (off : Nat) (ht : P.underlying t = some (.struct fs)) (hf : fs[i]? = some f) (ho : f.offset = off) {n : Nat} (hs : ∀ w, (sizeOf f.type).run P w = .ok n w) (hn : n ≠ 0)
    (hx : ev L x = some (.pointer (some ⟨b, 0, none⟩))) : Val P L (.fieldAddr t x i) ty w (.pointer (some ⟨b, off, none⟩)) w := by
  have := r_field (ty := ty) (w := w) off ht hf ho hs hn hx
  rwa [Nat.zero_add] at this
theorem r_index {t e : TypeId} {b o n c s : Nat} {k : IntKind} {i : Int} (ht : P.underlying t = some (.slice e)) (hs : ∀ w, (sizeOf e).run P w = .ok s w)
    (hx : ev L x = some (.slice (some ⟨b, o, none⟩) n c)) (hy : ev L y = some (.int k i)) (hi : 0 ≤ i ∧ i < n) : Val P L (.indexAddr t x y) ty w (.pointer (some ⟨b, o + i.toNat * s, none⟩)) w := fun ρ hρ _ _ _ _ => by
  simp [execOp, hρ _ _ hx, hρ _ _ hy, Instr.indexAt, asIntOf, run_underlying ht, hi, hs, add_at]
theorem r_index_arr {t e : TypeId} {b o m s : Nat} {k : IntKind} {i : Int} (ht : P.underlying t = some (.array m e)) (hs : ∀ w, (sizeOf e).run P w = .ok s w)
    (hx : ev L x = some (.pointer (some ⟨b, o, none⟩))) (hy : ev L y = some (.int k i)) (hi : 0 ≤ i ∧ i < m) : Val P L (.indexAddr t x y) ty w (.pointer (some ⟨b, o + i.toNat * s, none⟩)) w := fun ρ hρ _ _ _ _ => by
  simp [execOp, hρ _ _ hx, hρ _ _ hy, Instr.indexAt, asIntOf, run_underlying ht, hi, hs, add_at, Instr.sureAddr]

/-- What type is no struct and no array. -/
def plainTy (P : Program) (t : TypeId) : Bool := match P.underlying t with | some (.struct _) | some (.array _ _) => false | some _ => true | none => false
theorem plain_of {P : Program} {t : TypeId} {d : TypeDesc} (h : P.underlying t = some d) (hd : (match d with | .struct _ => false | .array _ _ => false | _ => true) = true) : plainTy P t = true := by
  unfold plainTy; rw [h]; cases d <;> simp_all
theorem plain_no {P : Program} {t : TypeId} {d : TypeDesc} (h : P.underlying t = some d) (hd : (match d with | .struct _ => false | .array _ _ => false | _ => true) = false) : plainTy P t = false := by
  unfold plainTy; rw [h]; cases d <;> simp_all
theorem run_isAgg_no {t : TypeId} (h : plainTy P t = true) (w : World) : (isAgg t).run P w = .ok false w := by
  unfold plainTy at h
  unfold isAgg
  cases hu : P.underlying t with
  | none => simp [hu] at h
  | some d => cases d <;> simp [hu] at h <;> simp [run_underlying hu]
theorem run_isAgg_yes {t : TypeId} (hs : (P.underlying t).isSome = true) (h : plainTy P t = false) (w : World) : (isAgg t).run P w = .ok true w := by
  unfold plainTy at h
  unfold isAgg
  cases hu : P.underlying t with
  | none => simp [hu] at hs
  | some d => cases d <;> simp [hu] at h <;> simp [run_underlying hu]
theorem r_load {t : TypeId} {a : Addr} (ht : plainTy P t = true) (hx : ev L x = some (.pointer (some a))) (hc : w.cell? a = some v) : Val P L (.load t x) ty w v w := fun ρ hρ _ _ _ _ => by
  simp [execOp, hρ _ _ hx, Instr.loadAt, Instr.sureAddr, loadVar, run_isAgg_no ht, hc]
/-- A struct or an array is read whole. -/
theorem r_load_agg {t : TypeId} {b o n : Nat} {cs : List Value} (hu : (P.underlying t).isSome = true) (ht : plainTy P t = false) (hs : ∀ w, (sizeOf t).run P w = .ok n w) (hn : cs.length = n)
    (hx : ev L x = some (.pointer (some ⟨b, o, none⟩))) (hc : ∀ j u, cs[j]? = some u → w.cell? ⟨b, o + j, none⟩ = some u) : Val P L (.load t x) ty w (.agg cs.toArray) w := fun ρ hρ _ _ _ _ => by
  have h1 := run_loadCells_list (P := P) (w := w) ⟨b, o, none⟩ cs (fun j u hj => by rw [add_at]; exact hc j u hj)
  rw [hn] at h1
  simp [execOp, hρ _ _ hx, Instr.loadAt, Instr.sureAddr, loadVar, run_isAgg_yes hu ht, hs, h1]
theorem cell_of_blk {b o : Nat} {cs : Array Value} {t : TypeId} {fr : Nat × Nat} (hb : w.heap[b]? = some (.cells cs t fr)) (hi : cs[o]? = some v) : w.cell? ⟨b, o, none⟩ = some v := by simp [World.cell?, hb, hi]
theorem free_of_blk {b o : Nat} {cs : Array Value} {t : TypeId} (hb : w.heap[b]? = some (.cells cs t (0, 0))) : w.frozen? ⟨b, o, none⟩ = false := by simp [World.frozen?, hb]
theorem r_store {t : TypeId} {b o : Nat} {cs : Array Value} {et : TypeId} {u : Value} (hs : ∀ w, (sizeOf t).run P w = .ok 1 w) (hx : ev L x = some (.pointer (some ⟨b, o, none⟩))) (hy : ev L y = some u) (h1 : u.oneCell' = true)
    (hb : w.heap[b]? = some (.cells cs et (0, 0))) (ho : o < cs.size) : Runs P L (.store t x y) ty w (.ok .skip (w.setCell ⟨b, o, none⟩ u)) := fun ρ hρ _ _ _ _ => by
  have hc : w.cell? ⟨b, o, none⟩ = some cs[o] := cell_of_blk hb (by simp [ho])
  have hv : u.cells = #[u] := by cases u <;> simp_all [Value.cells, Value.oneCell']
  simp only [execOp, hρ _ _ hx, hρ _ _ hy]
  simp only [Instr.storeAt, Instr.sureAddr, Sem.run_bind, Sem.run_pure, Result.andThen_ok, storeVar, hs, hv]
  simp [storeCells, run_store _ _ _ _ _ h1, hc, free_of_blk hb, Addr.add_zero']
theorem r_alloc {t : TypeId} {z : Value} (hz : ∀ w, (zeroValue t).run P w = .ok z w) : Val P L (.alloc t) ty w (.pointer (some ⟨w.heap.size, 0, none⟩)) (w.alloc (.cells z.cells t)) := fun ρ hρ _ _ _ _ => by
  simp [execOp, Instr.alloc, hz, newVar, newRow]
theorem r_box {t : TypeId} (hx : ev L x = some v) : Val P L (.box t x) ty w (.pointer (some ⟨w.heap.size, 0, none⟩)) (w.alloc (.cells v.cells t)) := fun ρ hρ _ _ _ _ => by
  simp [execOp, hρ _ _ hx, Instr.box, newVar, newRow]

/-! ### what acts on memory -/
section
variable {w0 : World} {F : HP}
theorem e_store {t : TypeId} {b o : Nat} {cs : Array Value} {et : TypeId} {u : Value} (H : Holds w0 w (blk b (.cells cs et (0, 0)) • F)) (hs : ∀ w, (sizeOf t).run P w = .ok 1 w) (hx : ev L x = some (.pointer (some ⟨b, o, none⟩))) (hy : ev L y = some u) (h1 : u.oneCell' = true)
    (ho : o < cs.size) : Eff P L (.store t x y) ty w fun _ w' => Holds w0 w' (blk b (.cells (cs.setIfInBounds o u) et (0, 0)) • F) :=
  e_skip (r_store hs hx hy h1 H.get.2 ho) (H.setCell u)
theorem e_alloc {t : TypeId} {z : Value} (H : Holds w0 w F) (hz : ∀ w, (zeroValue t).run P w = .ok z w) : Eff P L (.alloc t) ty w fun v w' => ∃ b, v = .pointer (some ⟨b, 0, none⟩) ∧ Holds w0 w' (blk b (.cells z.cells t (0, 0)) • F) :=
  e_val (r_alloc hz) ⟨_, rfl, H.alloc _⟩
theorem e_box {t : TypeId} (H : Holds w0 w F) (hx : ev L x = some v) : Eff P L (.box t x) ty w fun u w' => ∃ b, u = .pointer (some ⟨b, 0, none⟩) ∧ Holds w0 w' (blk b (.cells v.cells t (0, 0)) • F) :=
  e_val (r_box hx) ⟨_, rfl, H.alloc _⟩
end
end
end Go.Proofs.Ytgmpclifphbjkaa
end
