import Derived.WalkKit
import Derived.Deep.Draws
import Derived.Lib.Hide
import Derived.KernelRfl
/- Texts of mine, joined: Base Sl. -/
section
/- Separation logic over the model's heap of blocks: fragments, '•', what a world holds beside an old one, rows of cells. -/
namespace Go.Proofs.Ytgmpclifphbjkaa
open Go.RowKit

/-- What comparisons say, as one. -/
theorem cmpS : (∀ {α : Type} [BEq α] [LawfulBEq α] {a b : α}, (a == b) = true ↔ a = b) ∧ (∀ {α : Type} [BEq α] [LawfulBEq α] {a b : α}, (a != b) = true ↔ a ≠ b) ∧ (∀ {α : Type} (a b : α), (a ≠ b) = ¬ (a = b)) ∧
    (∀ {p : Prop} [Decidable p], (decide p = true) = p) ∧ (∀ {p : Prop} [Decidable p], decide p = false ↔ ¬ p) ∧ (∀ {α : Type} [BEq α] [LawfulBEq α] (a b : α), (a == b) = false ↔ a ≠ b) ∧ (∀ {α : Type} [BEq α] [LawfulBEq α] {a b : α}, (a != b) = false ↔ a = b) ∧
    (∀ b : Bool, ((!b) = true) = (b = false)) ∧ (∀ b : Bool, ((!b) = false) = (b = true)) ∧ (∀ a b : Bool, ((!a) = b) ↔ (a = !b)) ∧ (!true) = false ∧ (!false) = true ∧ (∀ a b : Int, a > b ↔ b < a) ∧ (∀ a b : Int, a ≥ b ↔ b ≤ a) ∧
    (∀ a b : Nat, a > b ↔ b < a) ∧ (∀ a b : Nat, a ≥ b ↔ b ≤ a) ∧ (∀ {a b : Int}, ¬ a < b ↔ b ≤ a) ∧ (∀ {a b : Int}, ¬ a ≤ b ↔ b < a) :=
  ⟨beq_iff_eq, bne_iff_ne, fun _ _ => rfl, decide_eq_true_eq, decide_eq_false_iff_not, fun _ _ => beq_eq_false_iff_ne, bne_eq_false_iff_eq, Bool.not_eq_true', Bool.not_eq_false', fun _ _ => Bool.not_eq_eq_eq_not, rfl, rfl, fun _ _ => Iff.rfl, fun _ _ => Iff.rfl, fun _ _ => Iff.rfl, fun _ _ => Iff.rfl, Int.not_lt, Int.not_le⟩

/-- A fragment of the heap. -/
abbrev Hp := Nat → Option Obj
def Hp.Disj (a b : Hp) : Prop := ∀ k, a k = none ∨ b k = none
def Hp.join (a b : Hp) : Hp := fun k => (a k).or (b k)
def Hp.none : Hp := fun _ => Option.none
def Hp.le (a b : Hp) : Prop := ∀ k o, a k = some o → b k = some o
/-- An assertion: on a fragment that is never written any more (I), and on one of its own (h); more that is never written does not harm it. -/
@[ext] structure HP where
  p : Hp → Hp → Prop
  mono : ∀ I I' h, Hp.le I I' → p I h → p I' h

/-- Apart. -/
def sep (A B : HP) : HP := ⟨fun I h => ∃ a b, Hp.Disj a b ∧ h = Hp.join a b ∧ A.p I a ∧ B.p I b, fun _ _ _ hl ⟨a, b, hd, e, ha, hb⟩ => ⟨a, b, hd, e, A.mono _ _ _ hl ha, B.mono _ _ _ hl hb⟩⟩
instance : HSMul HP HP HP := ⟨sep⟩
/-- A fact, and no memory. -/
def fact (q : Prop) : HP := ⟨fun _ h => q ∧ h = Hp.none, fun _ _ _ _ h => h⟩
def exHP {α : Sort _} (A : α → HP) : HP := ⟨fun I h => ∃ x, (A x).p I h, fun _ _ _ hl ⟨x, h⟩ => ⟨x, (A x).mono _ _ _ hl h⟩⟩
/-- One block, the holder's own. -/
def blk (b : Nat) (o : Obj) : HP := ⟨fun _ h => h = fun k => if k = b then some o else Option.none, fun _ _ _ _ h => h⟩
def emp : HP := ⟨fun _ h => h = Hp.none, fun _ _ _ _ h => h⟩
/-- Known of what is never written any more. -/
def know (K : Hp → Prop) (hK : ∀ I I', Hp.le I I' → K I → K I') : HP := ⟨fun I h => h = Hp.none ∧ K I, fun _ _ _ hl ⟨e, k⟩ => ⟨e, hK _ _ hl k⟩⟩
/-- One block that is never written any more. -/
def imm (b : Nat) (o : Obj) : HP := know (fun I => I b = some o) fun _ _ hl h => hl _ _ h

theorem Hp.Disj.symm {a b : Hp} (h : Hp.Disj a b) : Hp.Disj b a := fun k => (h k).symm
theorem Hp.join_comm {a b : Hp} (h : Hp.Disj a b) : Hp.join a b = Hp.join b a := by
  funext k
  unfold Hp.join
  rcases h k with h | h <;> rw [h] <;> simp
theorem Hp.join_assoc (a b c : Hp) : Hp.join (Hp.join a b) c = Hp.join a (Hp.join b c) := by
  funext k; unfold Hp.join; cases a k <;> simp
theorem Hp.join_none_iff {a b : Hp} {k : Nat} : Hp.join a b k = Option.none ↔ a k = Option.none ∧ b k = Option.none := by
  unfold Hp.join; cases a k <;> simp
theorem Hp.none_join (a : Hp) : Hp.join Hp.none a = a := by funext k; simp [Hp.join, Hp.none]
theorem Hp.join_none (a : Hp) : Hp.join a Hp.none = a := by funext k; simp [Hp.join, Hp.none]
theorem Hp.disj_none_left (a : Hp) : Hp.Disj Hp.none a := fun _ => .inl rfl

theorem sep_comm (A B : HP) : (A • B) = (B • A) := by
  apply HP.ext
  funext I h; apply propext; constructor <;> rintro ⟨a, b, hd, rfl, ha, hb⟩
  · exact ⟨b, a, hd.symm, Hp.join_comm hd, hb, ha⟩
  · exact ⟨b, a, hd.symm, Hp.join_comm hd, hb, ha⟩
theorem sep_assoc (A B C : HP) : ((A • B) • C) = (A • B • C) := by
  apply HP.ext
  funext I h; apply propext; constructor
  · rintro ⟨ab, c, hd, rfl, ⟨a, b, hd2, rfl, ha, hb⟩, hc⟩
    refine ⟨a, Hp.join b c, fun k => ?_, Hp.join_assoc .., ha, b, c, fun k => ?_, rfl, hb, hc⟩
    · rcases hd k with h | h
      · exact .inl (Hp.join_none_iff.1 h).1
      · rcases hd2 k with h2 | h2
        · exact .inl h2
        · exact .inr (Hp.join_none_iff.2 ⟨h2, h⟩)
    · rcases hd k with h | h
      · exact .inl (Hp.join_none_iff.1 h).2
      · exact .inr h
  · rintro ⟨a, bc, hd, rfl, ha, b, c, hd2, rfl, hb, hc⟩
    refine ⟨Hp.join a b, c, fun k => ?_, (Hp.join_assoc ..).symm, ⟨a, b, fun k => ?_, rfl, ha, hb⟩, hc⟩
    · rcases hd k with h | h
      · rcases hd2 k with h2 | h2
        · exact .inl (Hp.join_none_iff.2 ⟨h, h2⟩)
        · exact .inr h2
      · exact .inr (Hp.join_none_iff.1 h).2
    · rcases hd k with h | h
      · exact .inl h
      · exact .inr (Hp.join_none_iff.1 h).1
theorem sep_left_comm (A B C : HP) : (A • B • C) = (B • A • C) := by rw [← sep_assoc, sep_comm A B, sep_assoc]
instance : Std.Associative (HSMul.hSMul : HP → HP → HP) := ⟨sep_assoc⟩
instance : Std.Commutative (HSMul.hSMul : HP → HP → HP) := ⟨sep_comm⟩
theorem emp_sep (A : HP) : (emp • A) = A := by
  apply HP.ext
  funext I h; apply propext; constructor
  · rintro ⟨a, b, _, rfl, rfl, hb⟩; rw [Hp.none_join]; exact hb
  · intro ha; exact ⟨Hp.none, h, Hp.disj_none_left h, (Hp.none_join h).symm, rfl, ha⟩
theorem sep_emp (A : HP) : (A • emp) = A := by rw [sep_comm, emp_sep]

/-- B follows from A. -/
def Ent (A B : HP) : Prop := ∀ I h, A.p I h → B.p I h
theorem Ent.refl (A : HP) : Ent A A := fun _ _ h => h
theorem Ent.trans {A B C : HP} (h : Ent A B) (k : Ent B C) : Ent A C := fun I x ha => k I x (h I x ha)
theorem Ent.sep {A A' B B' : HP} (h : Ent A A') (k : Ent B B') : Ent (A • B) (A' • B') := fun _ _ ⟨a, b, hd, e, ha, hb⟩ => ⟨a, b, hd, e, h _ _ ha, k _ _ hb⟩
theorem Ent.left {A A' : HP} (h : Ent A A') (B : HP) : Ent (A • B) (A' • B) := h.sep (Ent.refl B)
theorem sep_ex {α : Sort _} (A : α → HP) (B : HP) : (exHP A • B) = exHP fun x => A x • B := by
  apply HP.ext
  funext I h; apply propext; constructor
  · rintro ⟨a, b, hd, rfl, ⟨x, ha⟩, hb⟩; exact ⟨x, a, b, hd, rfl, ha, hb⟩
  · rintro ⟨x, a, b, hd, rfl, ha, hb⟩; exact ⟨a, b, hd, rfl, ⟨x, ha⟩, hb⟩
theorem know_sep (K : Hp → Prop) (hK : ∀ I I', Hp.le I I' → K I → K I') (B : HP) (I h : Hp) : (know K hK • B).p I h ↔ K I ∧ B.p I h := by
  constructor
  · rintro ⟨a, b, _, rfl, ⟨rfl, hk⟩, hb⟩; rw [Hp.none_join]; exact ⟨hk, hb⟩
  · rintro ⟨hk, hb⟩; exact ⟨Hp.none, h, Hp.disj_none_left h, (Hp.none_join h).symm, ⟨rfl, hk⟩, hb⟩
theorem fact_sep (q : Prop) (B : HP) (I h : Hp) : (fact q • B).p I h ↔ q ∧ B.p I h := by
  constructor
  · rintro ⟨a, b, _, rfl, ⟨hk, rfl⟩, hb⟩; rw [Hp.none_join]; exact ⟨hk, hb⟩
  · rintro ⟨hk, hb⟩; exact ⟨Hp.none, h, Hp.disj_none_left h, (Hp.none_join h).symm, ⟨hk, rfl⟩, hb⟩

/-- The world w, beside the old one w0: what was there is as it was; among what is new lies A. -/
structure Holds (w0 w : World) (A : HP) : Prop where
  base : Below w0.heap.size w0 w
  hp : ∃ I h, A.p I h ∧ Hp.Disj I h ∧ (∀ k o, I k = some o → w0.heap.size ≤ k ∧ w.heap[k]? = some o) ∧ ∀ k o, h k = some o → w0.heap.size ≤ k ∧ w.heap[k]? = some o

section
variable {w0 w : World} {A B F : HP}

theorem Holds.ent (h : Holds w0 w A) (e : Ent A B) : Holds w0 w B := ⟨h.base, let ⟨I, x, ha, hk⟩ := h.hp; ⟨I, x, e _ _ ha, hk⟩⟩
theorem Holds.of_eq (h : Holds w0 w A) (e : A = B) : Holds w0 w B := e ▸ h
theorem Holds.start (w : World) : Holds w w emp := ⟨Below.refl _ _, Hp.none, Hp.none, rfl, Hp.disj_none_left _, fun k o h => by simp [Hp.none] at h, fun k o h => by simp [Hp.none] at h⟩
theorem Holds.drew (h : Holds w0 w A) : Holds w0 w.drew A := ⟨h.base.drew, h.hp⟩
theorem Holds.drewN (h : Holds w0 w A) (n : Nat) : Holds w0 (w.drewN n) A := ⟨⟨h.base.os, h.base.tape, h.base.output, h.base.size, h.base.block⟩, h.hp⟩
theorem Holds.left (h : Holds w0 w (A • B)) : Holds w0 w A :=
  ⟨h.base, let ⟨I, _, ⟨a, b, _, e, ha, _⟩, hd, hI, hk⟩ := h.hp
    ⟨I, a, ha, fun k => (hd k).imp id fun hn => by rw [e] at hn; exact (Hp.join_none_iff.1 hn).1, hI, fun k o ho => hk k o (by rw [e]; simp [Hp.join, ho])⟩⟩
theorem Holds.right (h : Holds w0 w (A • B)) : Holds w0 w B := Holds.left (by rw [sep_comm]; exact h)
theorem Holds.ex {α : Sort _} {A : α → HP} (h : Holds w0 w (exHP A)) : ∃ x, Holds w0 w (A x) := let ⟨I, y, ⟨x, ha⟩, hk⟩ := h.hp; ⟨x, h.base, I, y, ha, hk⟩
theorem Holds.ex_sep {α : Sort _} {A : α → HP} (h : Holds w0 w (exHP A • F)) : ∃ x, Holds w0 w (A x • F) := by rw [sep_ex] at h; exact h.ex
theorem Holds.mk_ex {α : Sort _} {A : α → HP} (x : α) (h : Holds w0 w (A x)) : Holds w0 w (exHP A) := h.ent fun _ _ ha => ⟨x, ha⟩
theorem Holds.mk_ex_sep {α : Sort _} {A : α → HP} (x : α) (h : Holds w0 w (A x • F)) : Holds w0 w (exHP A • F) := by rw [sep_ex]; exact h.mk_ex x
theorem Holds.fact {q : Prop} (h : Holds w0 w (fact q • F)) : q ∧ Holds w0 w F :=
  let ⟨I, x, ha, hk⟩ := h.hp; ⟨((fact_sep q F I x).1 ha).1, h.base, I, x, ((fact_sep q F I x).1 ha).2, hk⟩
theorem Holds.mk_fact {q : Prop} (hq : q) (h : Holds w0 w F) : Holds w0 w (Go.Proofs.Ytgmpclifphbjkaa.fact q • F) := h.ent fun I x ha => (fact_sep q F I x).2 ⟨hq, ha⟩
theorem Holds.dup_know {K : Hp → Prop} {hK : ∀ I I', Hp.le I I' → K I → K I'} (h : Holds w0 w (know K hK • F)) : Holds w0 w (know K hK • know K hK • F) :=
  h.ent fun I x ha => (know_sep K hK _ I x).2 ⟨((know_sep K hK F I x).1 ha).1, ha⟩
theorem Holds.of_know {K : Hp → Prop} {hK : ∀ I I', Hp.le I I' → K I → K I'} (h : Holds w0 w (know K hK • F)) : ∃ I, K I ∧ ∀ k o, I k = some o → w0.heap.size ≤ k ∧ w.heap[k]? = some o :=
  let ⟨I, x, ha, _, hI, _⟩ := h.hp; ⟨I, ((know_sep K hK F I x).1 ha).1, hI⟩
theorem Holds.get {b : Nat} {o : Obj} (h : Holds w0 w (blk b o • F)) : w0.heap.size ≤ b ∧ w.heap[b]? = some o := by
  obtain ⟨I, x, ⟨a, c, hd, e, ha, _⟩, _, _, hk⟩ := h.hp
  have ha' : a = _ := ha
  exact hk b o (by rw [e, ha']; simp [Hp.join])
theorem Holds.lt {b : Nat} {o : Obj} (h : Holds w0 w (blk b o • F)) : b < w.heap.size := lt_of_block h.get.2
theorem Holds.emp_sep (h : Holds w0 w (emp • F)) : Holds w0 w F := by rw [Go.Proofs.Ytgmpclifphbjkaa.emp_sep] at h; exact h
theorem Holds.add_emp (h : Holds w0 w F) : Holds w0 w (emp • F) := by rw [Go.Proofs.Ytgmpclifphbjkaa.emp_sep]; exact h
theorem Holds.swap (h : Holds w0 w (A • B • F)) : Holds w0 w (B • A • F) := by rw [sep_left_comm]; exact h
theorem Holds.rot {C : HP} (h : Holds w0 w (A • B • C • F)) : Holds w0 w (C • A • B • F) := by rw [sep_left_comm C, sep_left_comm C]; exact h
theorem Holds.r4 {C D : HP} (h : Holds w0 w (A • B • C • D • F)) : Holds w0 w (D • A • B • C • F) := by rw [sep_left_comm D, sep_left_comm D, sep_left_comm D]; exact h
theorem Holds.r5 {C D E : HP} (h : Holds w0 w (A • B • C • D • E • F)) : Holds w0 w (E • A • B • C • D • F) := by rw [sep_left_comm E, sep_left_comm E, sep_left_comm E, sep_left_comm E]; exact h
theorem Holds.r6 {C D E G : HP} (h : Holds w0 w (A • B • C • D • E • G • F)) : Holds w0 w (G • A • B • C • D • E • F) := by rw [sep_left_comm G, sep_left_comm G, sep_left_comm G, sep_left_comm G, sep_left_comm G]; exact h
/-- The first one goes behind so many others. -/
theorem Holds.d3 {C : HP} (h : Holds w0 w (A • B • C • F)) : Holds w0 w (B • C • A • F) := by rw [sep_left_comm C A, sep_left_comm B A]; exact h
theorem Holds.flat (h : Holds w0 w ((A • B) • F)) : Holds w0 w (A • B • F) := by rw [← sep_assoc]; exact h
theorem Holds.deep (h : Holds w0 w (A • B • F)) : Holds w0 w ((A • B) • F) := by rw [sep_assoc]; exact h
theorem Holds.f2 (h : Holds w0 w (A • B • F)) : Holds w0 w (B • A • F) := h.swap
theorem Holds.f3 {A1 B1 C1 : HP} (h : Holds w0 w (A1 • B1 • C1 • F)) : Holds w0 w (C1 • A1 • B1 • F) := h.of_eq (by rw [sep_left_comm C1, sep_left_comm C1])
theorem Holds.f4 {A1 B1 C1 D1 : HP} (h : Holds w0 w (A1 • B1 • C1 • D1 • F)) : Holds w0 w (D1 • A1 • B1 • C1 • F) := h.of_eq (by rw [sep_left_comm D1, sep_left_comm D1, sep_left_comm D1])
theorem Holds.f5 {A1 B1 C1 D1 E1 : HP} (h : Holds w0 w (A1 • B1 • C1 • D1 • E1 • F)) : Holds w0 w (E1 • A1 • B1 • C1 • D1 • F) := h.of_eq (by rw [sep_left_comm E1, sep_left_comm E1, sep_left_comm E1, sep_left_comm E1])
theorem Holds.f6 {A1 B1 C1 D1 E1 G1 : HP} (h : Holds w0 w (A1 • B1 • C1 • D1 • E1 • G1 • F)) : Holds w0 w (G1 • A1 • B1 • C1 • D1 • E1 • F) := h.of_eq (by rw [sep_left_comm G1, sep_left_comm G1, sep_left_comm G1, sep_left_comm G1, sep_left_comm G1])
theorem Holds.f7 {A1 B1 C1 D1 E1 G1 H1 : HP} (h : Holds w0 w (A1 • B1 • C1 • D1 • E1 • G1 • H1 • F)) : Holds w0 w (H1 • A1 • B1 • C1 • D1 • E1 • G1 • F) := h.of_eq (by rw [sep_left_comm H1, sep_left_comm H1, sep_left_comm H1, sep_left_comm H1, sep_left_comm H1, sep_left_comm H1])
theorem Holds.f8 {A1 B1 C1 D1 E1 G1 H1 I1 : HP} (h : Holds w0 w (A1 • B1 • C1 • D1 • E1 • G1 • H1 • I1 • F)) : Holds w0 w (I1 • A1 • B1 • C1 • D1 • E1 • G1 • H1 • F) := h.of_eq (by rw [sep_left_comm I1, sep_left_comm I1, sep_left_comm I1, sep_left_comm I1, sep_left_comm I1, sep_left_comm I1, sep_left_comm I1])
theorem Holds.f9 {A1 B1 C1 D1 E1 G1 H1 I1 J1 : HP} (h : Holds w0 w (A1 • B1 • C1 • D1 • E1 • G1 • H1 • I1 • J1 • F)) : Holds w0 w (J1 • A1 • B1 • C1 • D1 • E1 • G1 • H1 • I1 • F) := h.of_eq (by rw [sep_left_comm J1, sep_left_comm J1, sep_left_comm J1, sep_left_comm J1, sep_left_comm J1, sep_left_comm J1, sep_left_comm J1, sep_left_comm J1])
theorem Holds.f10 {A1 B1 C1 D1 E1 G1 H1 I1 J1 K1 : HP} (h : Holds w0 w (A1 • B1 • C1 • D1 • E1 • G1 • H1 • I1 • J1 • K1 • F)) : Holds w0 w (K1 • A1 • B1 • C1 • D1 • E1 • G1 • H1 • I1 • J1 • F) := h.of_eq (by rw [sep_left_comm K1, sep_left_comm K1, sep_left_comm K1, sep_left_comm K1, sep_left_comm K1, sep_left_comm K1, sep_left_comm K1, sep_left_comm K1, sep_left_comm K1])
theorem Holds.f11 {A1 B1 C1 D1 E1 G1 H1 I1 J1 K1 M1 : HP} (h : Holds w0 w (A1 • B1 • C1 • D1 • E1 • G1 • H1 • I1 • J1 • K1 • M1 • F)) : Holds w0 w (M1 • A1 • B1 • C1 • D1 • E1 • G1 • H1 • I1 • J1 • K1 • F) := h.of_eq (by rw [sep_left_comm M1, sep_left_comm M1, sep_left_comm M1, sep_left_comm M1, sep_left_comm M1, sep_left_comm M1, sep_left_comm M1, sep_left_comm M1, sep_left_comm M1, sep_left_comm M1])
theorem Holds.f12 {A1 B1 C1 D1 E1 G1 H1 I1 J1 K1 M1 N1 : HP} (h : Holds w0 w (A1 • B1 • C1 • D1 • E1 • G1 • H1 • I1 • J1 • K1 • M1 • N1 • F)) : Holds w0 w (N1 • A1 • B1 • C1 • D1 • E1 • G1 • H1 • I1 • J1 • K1 • M1 • F) := h.of_eq (by rw [sep_left_comm N1, sep_left_comm N1, sep_left_comm N1, sep_left_comm N1, sep_left_comm N1, sep_left_comm N1, sep_left_comm N1, sep_left_comm N1, sep_left_comm N1, sep_left_comm N1, sep_left_comm N1])
theorem Holds.f13 {A1 B1 C1 D1 E1 G1 H1 I1 J1 K1 M1 N1 O1 : HP} (h : Holds w0 w (A1 • B1 • C1 • D1 • E1 • G1 • H1 • I1 • J1 • K1 • M1 • N1 • O1 • F)) : Holds w0 w (O1 • A1 • B1 • C1 • D1 • E1 • G1 • H1 • I1 • J1 • K1 • M1 • N1 • F) := h.of_eq (by rw [sep_left_comm O1, sep_left_comm O1, sep_left_comm O1, sep_left_comm O1, sep_left_comm O1, sep_left_comm O1, sep_left_comm O1, sep_left_comm O1, sep_left_comm O1, sep_left_comm O1, sep_left_comm O1, sep_left_comm O1])
theorem Holds.f14 {A1 B1 C1 D1 E1 G1 H1 I1 J1 K1 M1 N1 O1 P1 : HP} (h : Holds w0 w (A1 • B1 • C1 • D1 • E1 • G1 • H1 • I1 • J1 • K1 • M1 • N1 • O1 • P1 • F)) : Holds w0 w (P1 • A1 • B1 • C1 • D1 • E1 • G1 • H1 • I1 • J1 • K1 • M1 • N1 • O1 • F) := h.of_eq (by rw [sep_left_comm P1, sep_left_comm P1, sep_left_comm P1, sep_left_comm P1, sep_left_comm P1, sep_left_comm P1, sep_left_comm P1, sep_left_comm P1, sep_left_comm P1, sep_left_comm P1, sep_left_comm P1, sep_left_comm P1, sep_left_comm P1])
theorem Holds.f15 {A1 B1 C1 D1 E1 G1 H1 I1 J1 K1 M1 N1 O1 P1 Q1 : HP} (h : Holds w0 w (A1 • B1 • C1 • D1 • E1 • G1 • H1 • I1 • J1 • K1 • M1 • N1 • O1 • P1 • Q1 • F)) : Holds w0 w (Q1 • A1 • B1 • C1 • D1 • E1 • G1 • H1 • I1 • J1 • K1 • M1 • N1 • O1 • P1 • F) := h.of_eq (by rw [sep_left_comm Q1, sep_left_comm Q1, sep_left_comm Q1, sep_left_comm Q1, sep_left_comm Q1, sep_left_comm Q1, sep_left_comm Q1, sep_left_comm Q1, sep_left_comm Q1, sep_left_comm Q1, sep_left_comm Q1, sep_left_comm Q1, sep_left_comm Q1, sep_left_comm Q1])
theorem Holds.f16 {A1 B1 C1 D1 E1 G1 H1 I1 J1 K1 M1 N1 O1 P1 Q1 R1 : HP} (h : Holds w0 w (A1 • B1 • C1 • D1 • E1 • G1 • H1 • I1 • J1 • K1 • M1 • N1 • O1 • P1 • Q1 • R1 • F)) : Holds w0 w (R1 • A1 • B1 • C1 • D1 • E1 • G1 • H1 • I1 • J1 • K1 • M1 • N1 • O1 • P1 • Q1 • F) := h.of_eq (by rw [sep_left_comm R1, sep_left_comm R1, sep_left_comm R1, sep_left_comm R1, sep_left_comm R1, sep_left_comm R1, sep_left_comm R1, sep_left_comm R1, sep_left_comm R1, sep_left_comm R1, sep_left_comm R1, sep_left_comm R1, sep_left_comm R1, sep_left_comm R1, sep_left_comm R1])
theorem Holds.f17 {A1 B1 C1 D1 E1 G1 H1 I1 J1 K1 M1 N1 O1 P1 Q1 R1 S1 : HP} (h : Holds w0 w (A1 • B1 • C1 • D1 • E1 • G1 • H1 • I1 • J1 • K1 • M1 • N1 • O1 • P1 • Q1 • R1 • S1 • F)) : Holds w0 w (S1 • A1 • B1 • C1 • D1 • E1 • G1 • H1 • I1 • J1 • K1 • M1 • N1 • O1 • P1 • Q1 • R1 • F) := h.of_eq (by rw [sep_left_comm S1, sep_left_comm S1, sep_left_comm S1, sep_left_comm S1, sep_left_comm S1, sep_left_comm S1, sep_left_comm S1, sep_left_comm S1, sep_left_comm S1, sep_left_comm S1, sep_left_comm S1, sep_left_comm S1, sep_left_comm S1, sep_left_comm S1, sep_left_comm S1, sep_left_comm S1])
theorem Holds.f18 {A1 B1 C1 D1 E1 G1 H1 I1 J1 K1 M1 N1 O1 P1 Q1 R1 S1 T1 : HP} (h : Holds w0 w (A1 • B1 • C1 • D1 • E1 • G1 • H1 • I1 • J1 • K1 • M1 • N1 • O1 • P1 • Q1 • R1 • S1 • T1 • F)) : Holds w0 w (T1 • A1 • B1 • C1 • D1 • E1 • G1 • H1 • I1 • J1 • K1 • M1 • N1 • O1 • P1 • Q1 • R1 • S1 • F) := h.of_eq (by rw [sep_left_comm T1, sep_left_comm T1, sep_left_comm T1, sep_left_comm T1, sep_left_comm T1, sep_left_comm T1, sep_left_comm T1, sep_left_comm T1, sep_left_comm T1, sep_left_comm T1, sep_left_comm T1, sep_left_comm T1, sep_left_comm T1, sep_left_comm T1, sep_left_comm T1, sep_left_comm T1, sep_left_comm T1])
theorem Holds.g2 {A1 B1 : HP} (h : Holds w0 w (A1 • B1 • F)) : Holds w0 w ((A1 • B1) • F) := h.of_eq (by simp only [sep_assoc])
theorem Holds.u2 {A1 B1 : HP} (h : Holds w0 w ((A1 • B1) • F)) : Holds w0 w (A1 • B1 • F) := h.of_eq (by simp only [sep_assoc])
theorem Holds.g3 {A1 B1 C1 : HP} (h : Holds w0 w (A1 • B1 • C1 • F)) : Holds w0 w ((A1 • B1 • C1) • F) := h.of_eq (by simp only [sep_assoc])
theorem Holds.u3 {A1 B1 C1 : HP} (h : Holds w0 w ((A1 • B1 • C1) • F)) : Holds w0 w (A1 • B1 • C1 • F) := h.of_eq (by simp only [sep_assoc])
theorem Holds.g4 {A1 B1 C1 D1 : HP} (h : Holds w0 w (A1 • B1 • C1 • D1 • F)) : Holds w0 w ((A1 • B1 • C1 • D1) • F) := h.of_eq (by simp only [sep_assoc])
theorem Holds.u4 {A1 B1 C1 D1 : HP} (h : Holds w0 w ((A1 • B1 • C1 • D1) • F)) : Holds w0 w (A1 • B1 • C1 • D1 • F) := h.of_eq (by simp only [sep_assoc])
theorem Holds.g5 {A1 B1 C1 D1 E1 : HP} (h : Holds w0 w (A1 • B1 • C1 • D1 • E1 • F)) : Holds w0 w ((A1 • B1 • C1 • D1 • E1) • F) := h.of_eq (by simp only [sep_assoc])
theorem Holds.u5 {A1 B1 C1 D1 E1 : HP} (h : Holds w0 w ((A1 • B1 • C1 • D1 • E1) • F)) : Holds w0 w (A1 • B1 • C1 • D1 • E1 • F) := h.of_eq (by simp only [sep_assoc])
theorem Holds.g6 {A1 B1 C1 D1 E1 G1 : HP} (h : Holds w0 w (A1 • B1 • C1 • D1 • E1 • G1 • F)) : Holds w0 w ((A1 • B1 • C1 • D1 • E1 • G1) • F) := h.of_eq (by simp only [sep_assoc])
theorem Holds.u6 {A1 B1 C1 D1 E1 G1 : HP} (h : Holds w0 w ((A1 • B1 • C1 • D1 • E1 • G1) • F)) : Holds w0 w (A1 • B1 • C1 • D1 • E1 • G1 • F) := h.of_eq (by simp only [sep_assoc])
theorem Holds.g7 {A1 B1 C1 D1 E1 G1 H1 : HP} (h : Holds w0 w (A1 • B1 • C1 • D1 • E1 • G1 • H1 • F)) : Holds w0 w ((A1 • B1 • C1 • D1 • E1 • G1 • H1) • F) := h.of_eq (by simp only [sep_assoc])
theorem Holds.u7 {A1 B1 C1 D1 E1 G1 H1 : HP} (h : Holds w0 w ((A1 • B1 • C1 • D1 • E1 • G1 • H1) • F)) : Holds w0 w (A1 • B1 • C1 • D1 • E1 • G1 • H1 • F) := h.of_eq (by simp only [sep_assoc])
theorem Holds.g8 {A1 B1 C1 D1 E1 G1 H1 I1 : HP} (h : Holds w0 w (A1 • B1 • C1 • D1 • E1 • G1 • H1 • I1 • F)) : Holds w0 w ((A1 • B1 • C1 • D1 • E1 • G1 • H1 • I1) • F) := h.of_eq (by simp only [sep_assoc])
theorem Holds.u8 {A1 B1 C1 D1 E1 G1 H1 I1 : HP} (h : Holds w0 w ((A1 • B1 • C1 • D1 • E1 • G1 • H1 • I1) • F)) : Holds w0 w (A1 • B1 • C1 • D1 • E1 • G1 • H1 • I1 • F) := h.of_eq (by simp only [sep_assoc])
theorem Holds.g9 {A1 B1 C1 D1 E1 G1 H1 I1 J1 : HP} (h : Holds w0 w (A1 • B1 • C1 • D1 • E1 • G1 • H1 • I1 • J1 • F)) : Holds w0 w ((A1 • B1 • C1 • D1 • E1 • G1 • H1 • I1 • J1) • F) := h.of_eq (by simp only [sep_assoc])
theorem Holds.u9 {A1 B1 C1 D1 E1 G1 H1 I1 J1 : HP} (h : Holds w0 w ((A1 • B1 • C1 • D1 • E1 • G1 • H1 • I1 • J1) • F)) : Holds w0 w (A1 • B1 • C1 • D1 • E1 • G1 • H1 • I1 • J1 • F) := h.of_eq (by simp only [sep_assoc])
theorem Holds.g10 {A1 B1 C1 D1 E1 G1 H1 I1 J1 K1 : HP} (h : Holds w0 w (A1 • B1 • C1 • D1 • E1 • G1 • H1 • I1 • J1 • K1 • F)) : Holds w0 w ((A1 • B1 • C1 • D1 • E1 • G1 • H1 • I1 • J1 • K1) • F) := h.of_eq (by simp only [sep_assoc])
theorem Holds.u10 {A1 B1 C1 D1 E1 G1 H1 I1 J1 K1 : HP} (h : Holds w0 w ((A1 • B1 • C1 • D1 • E1 • G1 • H1 • I1 • J1 • K1) • F)) : Holds w0 w (A1 • B1 • C1 • D1 • E1 • G1 • H1 • I1 • J1 • K1 • F) := h.of_eq (by simp only [sep_assoc])
theorem Holds.g11 {A1 B1 C1 D1 E1 G1 H1 I1 J1 K1 M1 : HP} (h : Holds w0 w (A1 • B1 • C1 • D1 • E1 • G1 • H1 • I1 • J1 • K1 • M1 • F)) : Holds w0 w ((A1 • B1 • C1 • D1 • E1 • G1 • H1 • I1 • J1 • K1 • M1) • F) := h.of_eq (by simp only [sep_assoc])
theorem Holds.u11 {A1 B1 C1 D1 E1 G1 H1 I1 J1 K1 M1 : HP} (h : Holds w0 w ((A1 • B1 • C1 • D1 • E1 • G1 • H1 • I1 • J1 • K1 • M1) • F)) : Holds w0 w (A1 • B1 • C1 • D1 • E1 • G1 • H1 • I1 • J1 • K1 • M1 • F) := h.of_eq (by simp only [sep_assoc])
theorem Holds.g12 {A1 B1 C1 D1 E1 G1 H1 I1 J1 K1 M1 N1 : HP} (h : Holds w0 w (A1 • B1 • C1 • D1 • E1 • G1 • H1 • I1 • J1 • K1 • M1 • N1 • F)) : Holds w0 w ((A1 • B1 • C1 • D1 • E1 • G1 • H1 • I1 • J1 • K1 • M1 • N1) • F) := h.of_eq (by simp only [sep_assoc])
theorem Holds.u12 {A1 B1 C1 D1 E1 G1 H1 I1 J1 K1 M1 N1 : HP} (h : Holds w0 w ((A1 • B1 • C1 • D1 • E1 • G1 • H1 • I1 • J1 • K1 • M1 • N1) • F)) : Holds w0 w (A1 • B1 • C1 • D1 • E1 • G1 • H1 • I1 • J1 • K1 • M1 • N1 • F) := h.of_eq (by simp only [sep_assoc])
theorem Holds.comm (h : Holds w0 w (A • B)) : Holds w0 w (B • A) := h.of_eq (sep_comm A B)
theorem Holds.ed {D : HP} (h : Holds w0 w (D • A • B)) : Holds w0 w (D • B • A) := h.of_eq (by rw [sep_comm A B])
theorem Holds.add_right_emp (h : Holds w0 w A) : Holds w0 w (A • emp) := h.of_eq (sep_emp A).symm
theorem Holds.e1 {D A1 : HP} (h : Holds w0 w (D • A1 • F)) : Holds w0 w (D • F • A1) := h.of_eq (by ac_rfl)
theorem Holds.e2 {D A1 B1 : HP} (h : Holds w0 w (D • A1 • B1 • F)) : Holds w0 w (D • F • (A1 • B1)) := h.of_eq (by ac_rfl)
theorem Holds.e3 {D A1 B1 C1 : HP} (h : Holds w0 w (D • A1 • B1 • C1 • F)) : Holds w0 w (D • F • (A1 • B1 • C1)) := h.of_eq (by ac_rfl)
theorem Holds.e4 {D A1 B1 C1 E1 : HP} (h : Holds w0 w (D • A1 • B1 • C1 • E1 • F)) : Holds w0 w (D • F • (A1 • B1 • C1 • E1)) := h.of_eq (by ac_rfl)
theorem Holds.e5 {D A1 B1 C1 E1 G1 : HP} (h : Holds w0 w (D • A1 • B1 • C1 • E1 • G1 • F)) : Holds w0 w (D • F • (A1 • B1 • C1 • E1 • G1)) := h.of_eq (by ac_rfl)
theorem Holds.e6 {D A1 B1 C1 E1 G1 H1 : HP} (h : Holds w0 w (D • A1 • B1 • C1 • E1 • G1 • H1 • F)) : Holds w0 w (D • F • (A1 • B1 • C1 • E1 • G1 • H1)) := h.of_eq (by ac_rfl)
theorem Holds.e7 {D A1 B1 C1 E1 G1 H1 I1 : HP} (h : Holds w0 w (D • A1 • B1 • C1 • E1 • G1 • H1 • I1 • F)) : Holds w0 w (D • F • (A1 • B1 • C1 • E1 • G1 • H1 • I1)) := h.of_eq (by ac_rfl)
theorem Holds.e8 {D A1 B1 C1 E1 G1 H1 I1 J1 : HP} (h : Holds w0 w (D • A1 • B1 • C1 • E1 • G1 • H1 • I1 • J1 • F)) : Holds w0 w (D • F • (A1 • B1 • C1 • E1 • G1 • H1 • I1 • J1)) := h.of_eq (by ac_rfl)
/-- What lies behind the first ones, under a name. -/
theorem Holds.hide1 (h : Holds w0 w (A • F)) : ∃ R, F = R ∧ Holds w0 w (A • R) := ⟨F, rfl, h⟩
theorem Holds.hide2 {C : HP} (h : Holds w0 w (A • C • F)) : ∃ R, F = R ∧ Holds w0 w (A • C • R) := ⟨F, rfl, h⟩
theorem Holds.hide3 {C D : HP} (h : Holds w0 w (A • C • D • F)) : ∃ R, F = R ∧ Holds w0 w (A • C • D • R) := ⟨F, rfl, h⟩
theorem Holds.hide4 {C D E : HP} (h : Holds w0 w (A • C • D • E • F)) : ∃ R, F = R ∧ Holds w0 w (A • C • D • E • R) := ⟨F, rfl, h⟩
theorem Holds.hide5 {C D E G : HP} (h : Holds w0 w (A • C • D • E • G • F)) : ∃ R, F = R ∧ Holds w0 w (A • C • D • E • G • R) := ⟨F, rfl, h⟩
/-- What holds, as a property of the world. -/
def Kp (w0 : World) (A : HP) (W : World) : Prop := Holds w0 W A
theorem Kp.h (h : Kp w0 A w) : Holds w0 w A := h
theorem Holds.kp (h : Holds w0 w A) : Kp w0 A w := h
/-- What is one's own is never written any more. -/
theorem Holds.freeze {b : Nat} {o : Obj} (h : Holds w0 w (blk b o • F)) : Holds w0 w (imm b o • F) := by
  obtain ⟨I, x, ⟨a, c, hd, e, ha, hc⟩, hD, hI, hk⟩ := h.hp
  have ha' : a = _ := ha
  have hb := h.get
  refine ⟨h.base, Hp.join I a, c, (know_sep _ _ F _ c).2 ⟨?_, F.mono _ _ _ (fun k o' hk' => by simp [Hp.join, hk']) hc⟩, ?_, ?_, ?_⟩
  · have : I b = none := (hD b).resolve_right (by rw [e, ha']; simp [Hp.join])
    simp [Hp.join, this, ha']
  · intro k
    rcases hD k with h1 | h1
    · rcases hd k with h2 | h2
      · exact .inl (Hp.join_none_iff.2 ⟨h1, h2⟩)
      · exact .inr h2
    · rw [e] at h1; exact .inr (Hp.join_none_iff.1 h1).2
  · intro k o' hk'
    unfold Hp.join at hk'
    cases hI' : I k with
    | some o2 => rw [hI'] at hk'; simp at hk'; subst hk'; exact hI k _ hI'
    | none => rw [hI'] at hk'; simp at hk'; exact hk k o' (by rw [e]; simp [Hp.join, hk'])
  · intro k o' hk'
    refine hk k o' ?_
    rw [e]; unfold Hp.join
    rw [(hd k).resolve_right (by rw [hk']; simp)]; simpa using hk'

/-- A new block. -/
theorem Holds.alloc (h : Holds w0 w F) (o : Obj) : Holds w0 (w.alloc o) (blk w.heap.size o • F) := by
  obtain ⟨I, x, hx, hD, hI, hk⟩ := h.hp
  have old : ∀ k o', w0.heap.size ≤ k ∧ w.heap[k]? = some o' → w0.heap.size ≤ k ∧ (w.alloc o).heap[k]? = some o' := fun k o' h => ⟨h.1, by rw [Below.heap_alloc w o k (lt_of_block h.2)]; exact h.2⟩
  refine ⟨h.base.alloc h.base.size o, I, _, ⟨_, x, ?_, rfl, rfl, hx⟩, ?_, fun k o' ho => old k o' (hI k o' ho), ?_⟩
  · intro k
    by_cases e : k = w.heap.size
    · refine .inr ?_
      cases hx' : x k with
      | none => rfl
      | some o' => have := lt_of_block (hk k o' hx').2; omega
    · exact .inl (by simp [e])
  · intro k
    rcases hD k with h1 | h1
    · exact .inl h1
    · by_cases e : k = w.heap.size
      · refine .inl ?_
        cases hx' : I k with
        | none => rfl
        | some o' => have := lt_of_block (hI k o' hx').2; omega
      · exact .inr (by simp [Hp.join, e, h1])
  · intro k o' ho
    unfold Hp.join at ho
    by_cases e : k = w.heap.size
    · subst e
      simp at ho
      subst ho
      exact ⟨h.base.size, heap_alloc_new w o⟩
    · simp [e] at ho
      exact old k o' (hk k o' ho)

/-- One block turns. -/
theorem Holds.turn {b : Nat} {o o' : Obj} {w' : World} (h : Holds w0 w (blk b o • F)) (hos : w'.os = w.os) (ht : w'.tape = w.tape) (hout : w'.output = w.output)
    (hs : w.heap.size ≤ w'.heap.size) (hb : w'.heap[b]? = some o') (hr : ∀ k, k ≠ b → k < w.heap.size → w'.heap[k]? = w.heap[k]?) : Holds w0 w' (blk b o' • F) := by
  obtain ⟨hb0, hb1⟩ := h.get
  obtain ⟨I, x, ⟨a, c, hd, e, ha, hc⟩, hD, hI, hk⟩ := h.hp
  have ha' : a = _ := ha
  have hIb : I b = none := (hD b).resolve_right (by rw [e, ha']; simp [Hp.join])
  refine ⟨h.base.trans ⟨hos, ht, hout, hs, fun k hk' => hr k (by omega) (by have := h.base.size; omega)⟩, I, _, ⟨_, c, ?_, rfl, rfl, hc⟩, ?_, ?_, ?_⟩
  · intro k
    have := hd k
    rw [ha'] at this
    by_cases e : k = b
    · subst e; simp at this; exact .inr this
    · exact .inl (by simp [e])
  · intro k
    rcases hD k with h1 | h1
    · exact .inl h1
    · by_cases ek : k = b
      · subst ek; exact .inl hIb
      · rw [e] at h1
        exact .inr (Hp.join_none_iff.2 ⟨by simp [ek], (Hp.join_none_iff.1 h1).2⟩)
  · intro k o2 ho
    by_cases ek : k = b
    · subst ek; rw [hIb] at ho; cases ho
    · have := hI k o2 ho
      exact ⟨this.1, by rw [hr k ek (lt_of_block this.2)]; exact this.2⟩
  · intro k o2 ho
    unfold Hp.join at ho
    by_cases ek : k = b
    · subst ek; simp at ho; subst ho; exact ⟨hb0, hb⟩
    · simp [ek] at ho
      have := hk k o2 (by rw [e, ha']; simp [Hp.join, ek, ho])
      exact ⟨this.1, by rw [hr k ek (lt_of_block this.2)]; exact this.2⟩

theorem heap_setCell_same (w : World) (b i : Nat) (v : Value) (cs : Array Value) (t : TypeId) (fr : Nat × Nat) (h : w.heap[b]? = some (.cells cs t fr)) :
    (w.setCell ⟨b, i, none⟩ v).heap[b]? = some (.cells (cs.setIfInBounds i v) t fr) := by
  simp [World.setCell, Array.getElem?_modify, h]

/-- A store into a block. -/
theorem Holds.setCell {b i : Nat} {cs : Array Value} {t : TypeId} {fr : Nat × Nat} (h : Holds w0 w (blk b (.cells cs t fr) • F)) (v : Value) :
    Holds w0 (w.setCell ⟨b, i, none⟩ v) (blk b (.cells (cs.setIfInBounds i v) t fr) • F) :=
  h.turn rfl rfl rfl (by simp) (heap_setCell_same _ _ _ _ _ _ _ h.get.2) fun k hk _ => Below.heap_setCell _ _ _ _ hk

end
end Go.Proofs.Ytgmpclifphbjkaa
end
section
/- Slices: what one reads, what one owns. -/
namespace Go.Proofs.Ytgmpclifphbjkaa
open Go.RowKit

theorem add_at (b o j : Nat) : (⟨b, o, none⟩ : Addr).add j = ⟨b, o + j, none⟩ := by unfold Addr.add; split <;> simp_all

/-- The slice v reads, in w: n elements of sz cells each, the cells xs. -/
structure Rd (w : World) (sz : Nat) (v : Value) (n : Nat) (xs : List Value) : Prop where
  len : xs.length = n * sz
  form : ∃ a c, v = .slice a n c ∧ n ≤ c ∧ (c : Int) ≤ 9223372036854775807 ∧ (0 < n → ∃ b o, a = some ⟨b, o, none⟩ ∧ ∀ j, j < n * sz → w.cell? ⟨b, o + j, none⟩ = some (xs.getD j undef))

/-- The slice v reads as whole numbers of one kind. -/
def RdI (w : World) (k : IntKind) (v : Value) (l : List Int) : Prop := Rd w 1 v l.length (l.map (Value.int k))

theorem RdI.open {w : World} {k : IntKind} {v : Value} {l : List Int} (h : RdI w k v l) :
    ∃ a c, v = .slice a l.length c ∧ l.length ≤ c ∧ (c : Int) ≤ 9223372036854775807 ∧ (0 < l.length → ∃ b o, a = some ⟨b, o, none⟩ ∧ ∀ j, j < l.length → w.cell? ⟨b, o + j, none⟩ = some (.int k (l.getD j 0))) := by
  obtain ⟨a, c, h1, h2, h3, h4⟩ := h.form
  refine ⟨a, c, h1, h2, h3, fun hp => ?_⟩
  obtain ⟨b, o, ha, hc⟩ := h4 hp
  refine ⟨b, o, ha, fun j hj => ?_⟩
  rw [hc j (by omega)]
  simp [List.getD_eq_getElem?_getD, hj]

theorem Rd.drewN {w : World} {sz : Nat} {v : Value} {n : Nat} {xs : List Value} (h : Rd w sz v n xs) (m : Nat) : Rd (w.drewN m) sz v n xs := ⟨h.len, h.form⟩
theorem RdI.drewN {w : World} {k : IntKind} {v : Value} {l : List Int} (h : RdI w k v l) (m : Nat) : RdI (w.drewN m) k v l := Rd.drewN h m

theorem Rd.below {w w' : World} {sz : Nat} {v : Value} {n : Nat} {xs : List Value} (h : Rd w sz v n xs) (hb : Below w.heap.size w w') : Rd w' sz v n xs := by
  refine ⟨h.len, ?_⟩
  obtain ⟨a, c, h1, h2, h3, h4⟩ := h.form
  refine ⟨a, c, h1, h2, h3, fun hp => ?_⟩
  obtain ⟨b, o, ha, hc⟩ := h4 hp
  exact ⟨b, o, ha, fun j hj => (hb.cell (World.block_lt_of_cell? _ _ (hc j hj))).trans (hc j hj)⟩
theorem RdI.below {w w' : World} {k : IntKind} {v : Value} {l : List Int} (h : RdI w k v l) (hb : Below w.heap.size w w') : RdI w' k v l := Rd.below h hb
/-- What came in reads on. -/
theorem Holds.rd {w0 w : World} {A : HP} (h : Holds w0 w A) {sz : Nat} {v : Value} {n : Nat} {xs : List Value} (hr : Rd w0 sz v n xs) : Rd w sz v n xs := hr.below h.base

/-- A world that has only drawn. -/
def Drew (w w' : World) : Prop := ∃ n, w' = w.drewN n
theorem Drew.refl (w : World) : Drew w w := ⟨0, rfl⟩
theorem Drew.step {w w' : World} (h : Drew w w') (n : Nat) : Drew w (w'.drewN n) := by obtain ⟨m, rfl⟩ := h; exact ⟨m + n, World.drewN_drewN ..⟩
theorem Drew.drew {w w' : World} (h : Drew w w') : Drew w w'.drew := h.step 1
theorem Drew.trans {a b c : World} (h : Drew a b) (k : Drew b c) : Drew a c := by obtain ⟨m, rfl⟩ := k; exact h.step m
theorem Drew.heap {w w' : World} (h : Drew w w') : w'.heap = w.heap := by obtain ⟨n, rfl⟩ := h; rfl
theorem cell_heap {w w' : World} (h : w'.heap = w.heap) (a : Addr) : w'.cell? a = w.cell? a := by simp [World.cell?, h]
theorem Holds.drewn {w0 w w' : World} {A : HP} (h : Holds w0 w A) (k : Drew w w') : Holds w0 w' A := by obtain ⟨n, rfl⟩ := k; exact h.drewN n
theorem RdI.heap {w w' : World} {k : IntKind} {v : Value} {l : List Int} (h : RdI w k v l) (e : w'.heap = w.heap) : RdI w' k v l := by
  obtain ⟨h1, a, c, h2, h3, h4, h5⟩ := h
  exact ⟨h1, a, c, h2, h3, h4, fun hp => let ⟨b, o, e1, e2⟩ := h5 hp; ⟨b, o, e1, fun j hj => (cell_heap e _).trans (e2 j hj)⟩⟩
end Go.Proofs.Ytgmpclifphbjkaa
end
