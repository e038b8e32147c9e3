import Derived.WalkKit
import Derived.Deep.Draws
import Derived.Lib.Hide
import Derived.KernelRfl
import Derived.Deep.LoopGhost
import Derived.OrdersHeld
import Derived.Laws.Small
import Derived.Laws.Build
import Derived.Laws.Strings
import Derived.TacticsIn
import Derived.RangeFuncRecord
import Derived.OrdersIn
set_option linter.unusedSimpArgs false
set_option linter.unusedVariables false
/- Texts of mine, joined, their names in short: Base Sl Eng. -/
section
namespace Go.Proofs.YtpdeedplgmbopaaGreatDoor
open Go.RowKit
theorem Z : (∀ {α : Type} [BEq α] [LawfulBEq α] {a b : α}, (a == b) = true ↔ a = b) ∧ (∀ {α : Type} [BEq α] [LawfulBEq α] {a b : α}, (a != b) = true ↔ a ≠ b) ∧ (∀ {α : Type} (a b : α), (a ≠ b) = ¬ (a = b)) ∧
    (∀ {p : Prop} [Decidable p], (decide p = true) = p) ∧ (∀ {p : Prop} [Decidable p], decide p = false ↔ ¬ p) ∧ (∀ {α : Type} [BEq α] [LawfulBEq α] (a b : α), (a == b) = false ↔ a ≠ b) ∧ (∀ {α : Type} [BEq α] [LawfulBEq α] {a b : α}, (a != b) = false ↔ a = b) ∧
    (∀ b : Bool, ((!b) = true) = (b = false)) ∧ (∀ b : Bool, ((!b) = false) = (b = true)) ∧ (∀ a b : Bool, ((!a) = b) ↔ (a = !b)) ∧ (!true) = false ∧ (!false) = true ∧ (∀ a b : Int, a > b ↔ b < a) ∧ (∀ a b : Int, a ≥ b ↔ b ≤ a) ∧
    (∀ a b : Nat, a > b ↔ b < a) ∧ (∀ a b : Nat, a ≥ b ↔ b ≤ a) ∧ (∀ {a b : Int}, ¬ a < b ↔ b ≤ a) ∧ (∀ {a b : Int}, ¬ a ≤ b ↔ b < a) :=
  ⟨beq_iff_eq, bne_iff_ne, fun _ _ => rfl, decide_eq_true_eq, decide_eq_false_iff_not, fun _ _ => beq_eq_false_iff_ne, bne_eq_false_iff_eq, Bool.not_eq_true', Bool.not_eq_false', fun _ _ => Bool.not_eq_eq_eq_not, rfl, rfl, fun _ _ => Iff.rfl, fun _ _ => Iff.rfl, fun _ _ => Iff.rfl, fun _ _ => Iff.rfl, Int.not_lt, Int.not_le⟩
abbrev Hp := Nat → Option Obj
def Hp.Vu (a b : Hp) : Prop := ∀ k, a k = none ∨ b k = none
def Hp.join (a b : Hp) : Hp := fun k => (a k).or (b k)
def Hp.none : Hp := fun _ => Option.none
def Hp.le (a b : Hp) : Prop := ∀ k o, a k = some o → b k = some o
@[ext] structure HP where
  p : Hp → Hp → Prop
  mono : ∀ I I' h, Hp.le I I' → p I h → p I' h
def sep (A B : HP) : HP := ⟨fun I h => ∃ a b, Hp.Vu a b ∧ h = Hp.join a b ∧ A.p I a ∧ B.p I b, fun _ _ _ hl ⟨a, b, hd, e, ha, hb⟩ => ⟨a, b, hd, e, A.mono _ _ _ hl ha, B.mono _ _ _ hl hb⟩⟩
instance : HSMul HP HP HP := ⟨sep⟩
def fact (q : Prop) : HP := ⟨fun _ h => q ∧ h = Hp.none, fun _ _ _ _ h => h⟩
def xQ {α : Sort _} (A : α → HP) : HP := ⟨fun I h => ∃ x, (A x).p I h, fun _ _ _ hl ⟨x, h⟩ => ⟨x, (A x).mono _ _ _ hl h⟩⟩
def eP (b : Nat) (o : Obj) : HP := ⟨fun _ h => h = fun k => if k = b then some o else Option.none, fun _ _ _ _ h => h⟩
def emp : HP := ⟨fun _ h => h = Hp.none, fun _ _ _ _ h => h⟩
def know (K : Hp → Prop) (hK : ∀ I I', Hp.le I I' → K I → K I') : HP := ⟨fun I h => h = Hp.none ∧ K I, fun _ _ _ hl ⟨e, k⟩ => ⟨e, hK _ _ hl k⟩⟩
def imm (b : Nat) (o : Obj) : HP := know (fun I => I b = some o) fun _ _ hl h => hl _ _ h
theorem Hp.Vu.symm {a b : Hp} (h : Hp.Vu a b) : Hp.Vu b a := fun k => (h k).symm
theorem Hp.join_comm {a b : Hp} (h : Hp.Vu a b) : Hp.join a b = Hp.join b a := by
  funext k
  unfold Hp.join
  rcases h k with h | h <;> rw [h] <;> simp
theorem Hp.join_assoc (a b c : Hp) : Hp.join (Hp.join a b) c = Hp.join a (Hp.join b c) := by
  funext k; unfold Hp.join; cases a k <;> simp
theorem Hp.kW {a b : Hp} {k : Nat} : Hp.join a b k = Option.none ↔ a k = Option.none ∧ b k = Option.none := by
  unfold Hp.join; cases a k <;> simp
theorem Hp.xR (a : Hp) : Hp.join Hp.none a = a := by funext k; simp [Hp.join, Hp.none]
theorem Hp.wM (a : Hp) : Hp.Vu Hp.none a := fun _ => .inl rfl
theorem zY (A B : HP) : (A • B) = (B • A) := by
  apply HP.ext
  funext I h; apply propext; constructor <;> rintro ⟨a, b, hd, rfl, ha, hb⟩
  · exact ⟨b, a, hd.symm, Hp.join_comm hd, hb, ha⟩
  · exact ⟨b, a, hd.symm, Hp.join_comm hd, hb, ha⟩
theorem dH (A B C : HP) : ((A • B) • C) = (A • B • C) := by
  apply HP.ext
  funext I h; apply propext; constructor
  · rintro ⟨ab, c, hd, rfl, ⟨a, b, hd2, rfl, ha, hb⟩, hc⟩
    refine ⟨a, Hp.join b c, fun k => ?_, Hp.join_assoc .., ha, b, c, fun k => ?_, rfl, hb, hc⟩
    · rcases hd k with h | h
      · exact .inl (Hp.kW.1 h).1
      · rcases hd2 k with h2 | h2
        · exact .inl h2
        · exact .inr (Hp.kW.2 ⟨h2, h⟩)
    · rcases hd k with h | h
      · exact .inl (Hp.kW.1 h).2
      · exact .inr h
  · rintro ⟨a, bc, hd, rfl, ha, b, c, hd2, rfl, hb, hc⟩
    refine ⟨Hp.join a b, c, fun k => ?_, (Hp.join_assoc ..).symm, ⟨a, b, fun k => ?_, rfl, ha, hb⟩, hc⟩
    · rcases hd k with h | h
      · rcases hd2 k with h2 | h2
        · exact .inl (Hp.kW.2 ⟨h, h2⟩)
        · exact .inr h2
      · exact .inr (Hp.kW.1 h).2
    · rcases hd k with h | h
      · exact .inl h
      · exact .inr (Hp.kW.1 h).1
theorem aF (A B C : HP) : (A • B • C) = (B • A • C) := by rw [← dH, zY A B, dH]
instance : Std.Associative (HSMul.hSMul : HP → HP → HP) := ⟨dH⟩
instance : Std.Commutative (HSMul.hSMul : HP → HP → HP) := ⟨zY⟩
theorem qL (A : HP) : (emp • A) = A := by
  apply HP.ext
  funext I h; apply propext; constructor
  · rintro ⟨a, b, _, rfl, rfl, hb⟩; rw [Hp.xR]; exact hb
  · intro ha; exact ⟨Hp.none, h, Hp.wM h, (Hp.xR h).symm, rfl, ha⟩
theorem zi (A : HP) : (A • emp) = A := by rw [zY, qL]
def Qv (A B : HP) : Prop := ∀ I h, A.p I h → B.p I h
theorem Qv.refl (A : HP) : Qv A A := fun _ _ h => h
theorem Qv.trans {A B C : HP} (h : Qv A B) (k : Qv B C) : Qv A C := fun I x ha => k I x (h I x ha)
theorem Qv.sep {A A' B B' : HP} (h : Qv A A') (k : Qv B B') : Qv (A • B) (A' • B') := fun _ _ ⟨a, b, hd, e, ha, hb⟩ => ⟨a, b, hd, e, h _ _ ha, k _ _ hb⟩
theorem Qv.left {A A' : HP} (h : Qv A A') (B : HP) : Qv (A • B) (A' • B) := h.sep (Qv.refl B)
theorem aac {α : Sort _} (A : α → HP) (B : HP) : (xQ A • B) = xQ fun x => A x • B := by
  apply HP.ext
  funext I h; apply propext; constructor
  · rintro ⟨a, b, hd, rfl, ⟨x, ha⟩, hb⟩; exact ⟨x, a, b, hd, rfl, ha, hb⟩
  · rintro ⟨x, a, b, hd, rfl, ha, hb⟩; exact ⟨a, b, hd, rfl, ⟨x, ha⟩, hb⟩
theorem rQ (K : Hp → Prop) (hK : ∀ I I', Hp.le I I' → K I → K I') (B : HP) (I h : Hp) : (know K hK • B).p I h ↔ K I ∧ B.p I h := by
  constructor
  · rintro ⟨a, b, _, rfl, ⟨rfl, hk⟩, hb⟩; rw [Hp.xR]; exact ⟨hk, hb⟩
  · rintro ⟨hk, hb⟩; exact ⟨Hp.none, h, Hp.wM h, (Hp.xR h).symm, ⟨rfl, hk⟩, hb⟩
theorem D5 (q : Prop) (B : HP) (I h : Hp) : (fact q • B).p I h ↔ q ∧ B.p I h := by
  constructor
  · rintro ⟨a, b, _, rfl, ⟨hk, rfl⟩, hb⟩; rw [Hp.xR]; exact ⟨hk, hb⟩
  · rintro ⟨hk, hb⟩; exact ⟨Hp.none, h, Hp.wM h, (Hp.xR h).symm, ⟨hk, rfl⟩, hb⟩
structure V (w0 w : World) (A : HP) : Prop where
  base : Below w0.heap.size w0 w
  hp : ∃ I h, A.p I h ∧ Hp.Vu I h ∧ (∀ k o, I k = some o → w0.heap.size ≤ k ∧ w.heap[k]? = some o) ∧ ∀ k o, h k = some o → w0.heap.size ≤ k ∧ w.heap[k]? = some o
section
variable {w0 w : World} {A B F : HP}
theorem V.GY (h : V w0 w A) (e : Qv A B) : V w0 w B := ⟨h.base, let ⟨I, x, ha, hk⟩ := h.hp; ⟨I, x, e _ _ ha, hk⟩⟩
theorem V.of_eq (h : V w0 w A) (e : A = B) : V w0 w B := e ▸ h
theorem V.start (w : World) : V w w emp := ⟨Below.refl _ _, Hp.none, Hp.none, rfl, Hp.wM _, fun k o h => by simp [Hp.none] at h, fun k o h => by simp [Hp.none] at h⟩
theorem V.drew (h : V w0 w A) : V w0 w.drew A := ⟨h.base.drew, h.hp⟩
theorem V.drewN (h : V w0 w A) (n : Nat) : V w0 (w.drewN n) A := ⟨⟨h.base.os, h.base.tape, h.base.output, h.base.size, h.base.block⟩, h.hp⟩
theorem V.left (h : V w0 w (A • B)) : V w0 w A :=
  ⟨h.base, let ⟨I, _, ⟨a, b, _, e, ha, _⟩, hd, hI, hk⟩ := h.hp
    ⟨I, a, ha, fun k => (hd k).imp id fun hn => by rw [e] at hn; exact (Hp.kW.1 hn).1, hI, fun k o ho => hk k o (by rw [e]; simp [Hp.join, ho])⟩⟩
theorem V.right (h : V w0 w (A • B)) : V w0 w B := V.left (by rw [zY]; exact h)
theorem V.ex {α : Sort _} {A : α → HP} (h : V w0 w (xQ A)) : ∃ x, V w0 w (A x) := let ⟨I, y, ⟨x, ha⟩, hk⟩ := h.hp; ⟨x, h.base, I, y, ha, hk⟩
theorem V.oN {α : Sort _} {A : α → HP} (h : V w0 w (xQ A • F)) : ∃ x, V w0 w (A x • F) := by rw [aac] at h; exact h.ex
theorem V.af6 {α : Sort _} {A : α → HP} (x : α) (h : V w0 w (A x)) : V w0 w (xQ A) := h.GY fun _ _ ha => ⟨x, ha⟩
theorem V.jV {α : Sort _} {A : α → HP} (x : α) (h : V w0 w (A x • F)) : V w0 w (xQ A • F) := by rw [aac]; exact h.af6 x
theorem V.fact {q : Prop} (h : V w0 w (fact q • F)) : q ∧ V w0 w F :=
  let ⟨I, x, ha, hk⟩ := h.hp; ⟨((D5 q F I x).1 ha).1, h.base, I, x, ((D5 q F I x).1 ha).2, hk⟩
theorem V.mW {q : Prop} (hq : q) (h : V w0 w F) : V w0 w (Go.Proofs.YtpdeedplgmbopaaGreatDoor.fact q • F) := h.GY fun I x ha => (D5 q F I x).2 ⟨hq, ha⟩
theorem V.sQ {K : Hp → Prop} {hK : ∀ I I', Hp.le I I' → K I → K I'} (h : V w0 w (know K hK • F)) : V w0 w (know K hK • know K hK • F) :=
  h.GY fun I x ha => (rQ K hK _ I x).2 ⟨((rQ K hK F I x).1 ha).1, ha⟩
theorem V.uZ {K : Hp → Prop} {hK : ∀ I I', Hp.le I I' → K I → K I'} (h : V w0 w (know K hK • F)) : ∃ I, K I ∧ ∀ k o, I k = some o → w0.heap.size ≤ k ∧ w.heap[k]? = some o :=
  let ⟨I, x, ha, _, hI, _⟩ := h.hp; ⟨I, ((rQ K hK F I x).1 ha).1, hI⟩
theorem V.get {b : Nat} {o : Obj} (h : V w0 w (eP b o • F)) : w0.heap.size ≤ b ∧ w.heap[b]? = some o := by
  obtain ⟨I, x, ⟨a, c, hd, e, ha, _⟩, _, _, hk⟩ := h.hp
  have ha' : a = _ := ha
  exact hk b o (by rw [e, ha']; simp [Hp.join])
theorem V.lt {b : Nat} {o : Obj} (h : V w0 w (eP b o • F)) : b < w.heap.size := lt_of_block h.get.2
theorem V.qL (h : V w0 w (emp • F)) : V w0 w F := by rw [Go.Proofs.YtpdeedplgmbopaaGreatDoor.qL] at h; exact h
theorem V.Qw (h : V w0 w F) : V w0 w (emp • F) := by rw [Go.Proofs.YtpdeedplgmbopaaGreatDoor.qL]; exact h
theorem V.swap (h : V w0 w (A • B • F)) : V w0 w (B • A • F) := by rw [aF]; exact h
theorem V.Og {C : HP} (h : V w0 w (A • B • C • F)) : V w0 w (C • A • B • F) := by rw [aF C, aF C]; exact h
theorem V.r4 {C D : HP} (h : V w0 w (A • B • C • D • F)) : V w0 w (D • A • B • C • F) := by rw [aF D, aF D, aF D]; exact h
theorem V.r5 {C D E : HP} (h : V w0 w (A • B • C • D • E • F)) : V w0 w (E • A • B • C • D • F) := by rw [aF E, aF E, aF E, aF E]; exact h
theorem V.r6 {C D E G : HP} (h : V w0 w (A • B • C • D • E • G • F)) : V w0 w (G • A • B • C • D • E • F) := by rw [aF G, aF G, aF G, aF G, aF G]; exact h
theorem V.d3 {C : HP} (h : V w0 w (A • B • C • F)) : V w0 w (B • C • A • F) := by rw [aF C A, aF B A]; exact h
theorem V.flat (h : V w0 w ((A • B) • F)) : V w0 w (A • B • F) := by rw [← dH]; exact h
theorem V.deep (h : V w0 w (A • B • F)) : V w0 w ((A • B) • F) := by rw [dH]; exact h
theorem V.f2 (h : V w0 w (A • B • F)) : V w0 w (B • A • F) := h.swap
theorem V.f3 {A1 B1 C1 : HP} (h : V w0 w (A1 • B1 • C1 • F)) : V w0 w (C1 • A1 • B1 • F) := h.of_eq (by rw [aF C1, aF C1])
theorem V.f4 {A1 B1 C1 D1 : HP} (h : V w0 w (A1 • B1 • C1 • D1 • F)) : V w0 w (D1 • A1 • B1 • C1 • F) := h.of_eq (by rw [aF D1, aF D1, aF D1])
theorem V.f5 {A1 B1 C1 D1 E1 : HP} (h : V w0 w (A1 • B1 • C1 • D1 • E1 • F)) : V w0 w (E1 • A1 • B1 • C1 • D1 • F) := h.of_eq (by rw [aF E1, aF E1, aF E1, aF E1])
theorem V.f6 {A1 B1 C1 D1 E1 G1 : HP} (h : V w0 w (A1 • B1 • C1 • D1 • E1 • G1 • F)) : V w0 w (G1 • A1 • B1 • C1 • D1 • E1 • F) := h.of_eq (by rw [aF G1, aF G1, aF G1, aF G1, aF G1])
theorem V.f7 {A1 B1 C1 D1 E1 G1 H1 : HP} (h : V w0 w (A1 • B1 • C1 • D1 • E1 • G1 • H1 • F)) : V w0 w (H1 • A1 • B1 • C1 • D1 • E1 • G1 • F) := h.of_eq (by rw [aF H1, aF H1, aF H1, aF H1, aF H1, aF H1])
theorem V.f8 {A1 B1 C1 D1 E1 G1 H1 I1 : HP} (h : V w0 w (A1 • B1 • C1 • D1 • E1 • G1 • H1 • I1 • F)) : V w0 w (I1 • A1 • B1 • C1 • D1 • E1 • G1 • H1 • F) := h.of_eq (by rw [aF I1, aF I1, aF I1, aF I1, aF I1, aF I1, aF I1])
theorem V.f9 {A1 B1 C1 D1 E1 G1 H1 I1 J1 : HP} (h : V w0 w (A1 • B1 • C1 • D1 • E1 • G1 • H1 • I1 • J1 • F)) : V w0 w (J1 • A1 • B1 • C1 • D1 • E1 • G1 • H1 • I1 • F) := h.of_eq (by rw [aF J1, aF J1, aF J1, aF J1, aF J1, aF J1, aF J1, aF J1])
theorem V.f10 {A1 B1 C1 D1 E1 G1 H1 I1 J1 K1 : HP} (h : V w0 w (A1 • B1 • C1 • D1 • E1 • G1 • H1 • I1 • J1 • K1 • F)) : V w0 w (K1 • A1 • B1 • C1 • D1 • E1 • G1 • H1 • I1 • J1 • F) := h.of_eq (by rw [aF K1, aF K1, aF K1, aF K1, aF K1, aF K1, aF K1, aF K1, aF K1])
theorem V.f11 {A1 B1 C1 D1 E1 G1 H1 I1 J1 K1 M1 : HP} (h : V w0 w (A1 • B1 • C1 • D1 • E1 • G1 • H1 • I1 • J1 • K1 • M1 • F)) : V w0 w (M1 • A1 • B1 • C1 • D1 • E1 • G1 • H1 • I1 • J1 • K1 • F) := h.of_eq (by rw [aF M1, aF M1, aF M1, aF M1, aF M1, aF M1, aF M1, aF M1, aF M1, aF M1])
theorem V.f12 {A1 B1 C1 D1 E1 G1 H1 I1 J1 K1 M1 N1 : HP} (h : V w0 w (A1 • B1 • C1 • D1 • E1 • G1 • H1 • I1 • J1 • K1 • M1 • N1 • F)) : V w0 w (N1 • A1 • B1 • C1 • D1 • E1 • G1 • H1 • I1 • J1 • K1 • M1 • F) := h.of_eq (by rw [aF N1, aF N1, aF N1, aF N1, aF N1, aF N1, aF N1, aF N1, aF N1, aF N1, aF N1])
theorem V.f13 {A1 B1 C1 D1 E1 G1 H1 I1 J1 K1 M1 N1 O1 : HP} (h : V w0 w (A1 • B1 • C1 • D1 • E1 • G1 • H1 • I1 • J1 • K1 • M1 • N1 • O1 • F)) : V w0 w (O1 • A1 • B1 • C1 • D1 • E1 • G1 • H1 • I1 • J1 • K1 • M1 • N1 • F) := h.of_eq (by rw [aF O1, aF O1, aF O1, aF O1, aF O1, aF O1, aF O1, aF O1, aF O1, aF O1, aF O1, aF O1])
theorem V.f14 {A1 B1 C1 D1 E1 G1 H1 I1 J1 K1 M1 N1 O1 P1 : HP} (h : V w0 w (A1 • B1 • C1 • D1 • E1 • G1 • H1 • I1 • J1 • K1 • M1 • N1 • O1 • P1 • F)) : V w0 w (P1 • A1 • B1 • C1 • D1 • E1 • G1 • H1 • I1 • J1 • K1 • M1 • N1 • O1 • F) := h.of_eq (by rw [aF P1, aF P1, aF P1, aF P1, aF P1, aF P1, aF P1, aF P1, aF P1, aF P1, aF P1, aF P1, aF P1])
theorem V.f15 {A1 B1 C1 D1 E1 G1 H1 I1 J1 K1 M1 N1 O1 P1 Q1 : HP} (h : V w0 w (A1 • B1 • C1 • D1 • E1 • G1 • H1 • I1 • J1 • K1 • M1 • N1 • O1 • P1 • Q1 • F)) : V w0 w (Q1 • A1 • B1 • C1 • D1 • E1 • G1 • H1 • I1 • J1 • K1 • M1 • N1 • O1 • P1 • F) := h.of_eq (by rw [aF Q1, aF Q1, aF Q1, aF Q1, aF Q1, aF Q1, aF Q1, aF Q1, aF Q1, aF Q1, aF Q1, aF Q1, aF Q1, aF Q1])
theorem V.f16 {A1 B1 C1 D1 E1 G1 H1 I1 J1 K1 M1 N1 O1 P1 Q1 R1 : HP} (h : V w0 w (A1 • B1 • C1 • D1 • E1 • G1 • H1 • I1 • J1 • K1 • M1 • N1 • O1 • P1 • Q1 • R1 • F)) : V w0 w (R1 • A1 • B1 • C1 • D1 • E1 • G1 • H1 • I1 • J1 • K1 • M1 • N1 • O1 • P1 • Q1 • F) := h.of_eq (by rw [aF R1, aF R1, aF R1, aF R1, aF R1, aF R1, aF R1, aF R1, aF R1, aF R1, aF R1, aF R1, aF R1, aF R1, aF R1])
theorem V.f17 {A1 B1 C1 D1 E1 G1 H1 I1 J1 K1 M1 N1 O1 P1 Q1 R1 S1 : HP} (h : V w0 w (A1 • B1 • C1 • D1 • E1 • G1 • H1 • I1 • J1 • K1 • M1 • N1 • O1 • P1 • Q1 • R1 • S1 • F)) : V w0 w (S1 • A1 • B1 • C1 • D1 • E1 • G1 • H1 • I1 • J1 • K1 • M1 • N1 • O1 • P1 • Q1 • R1 • F) := h.of_eq (by rw [aF S1, aF S1, aF S1, aF S1, aF S1, aF S1, aF S1, aF S1, aF S1, aF S1, aF S1, aF S1, aF S1, aF S1, aF S1, aF S1])
theorem V.g2 {A1 B1 : HP} (h : V w0 w (A1 • B1 • F)) : V w0 w ((A1 • B1) • F) := h.of_eq (by simp only [dH])
theorem V.u2 {A1 B1 : HP} (h : V w0 w ((A1 • B1) • F)) : V w0 w (A1 • B1 • F) := h.of_eq (by simp only [dH])
theorem V.g3 {A1 B1 C1 : HP} (h : V w0 w (A1 • B1 • C1 • F)) : V w0 w ((A1 • B1 • C1) • F) := h.of_eq (by simp only [dH])
theorem V.u3 {A1 B1 C1 : HP} (h : V w0 w ((A1 • B1 • C1) • F)) : V w0 w (A1 • B1 • C1 • F) := h.of_eq (by simp only [dH])
theorem V.g4 {A1 B1 C1 D1 : HP} (h : V w0 w (A1 • B1 • C1 • D1 • F)) : V w0 w ((A1 • B1 • C1 • D1) • F) := h.of_eq (by simp only [dH])
theorem V.u4 {A1 B1 C1 D1 : HP} (h : V w0 w ((A1 • B1 • C1 • D1) • F)) : V w0 w (A1 • B1 • C1 • D1 • F) := h.of_eq (by simp only [dH])
theorem V.g5 {A1 B1 C1 D1 E1 : HP} (h : V w0 w (A1 • B1 • C1 • D1 • E1 • F)) : V w0 w ((A1 • B1 • C1 • D1 • E1) • F) := h.of_eq (by simp only [dH])
theorem V.u5 {A1 B1 C1 D1 E1 : HP} (h : V w0 w ((A1 • B1 • C1 • D1 • E1) • F)) : V w0 w (A1 • B1 • C1 • D1 • E1 • F) := h.of_eq (by simp only [dH])
theorem V.u6 {A1 B1 C1 D1 E1 G1 : HP} (h : V w0 w ((A1 • B1 • C1 • D1 • E1 • G1) • F)) : V w0 w (A1 • B1 • C1 • D1 • E1 • G1 • F) := h.of_eq (by simp only [dH])
theorem V.u7 {A1 B1 C1 D1 E1 G1 H1 : HP} (h : V w0 w ((A1 • B1 • C1 • D1 • E1 • G1 • H1) • F)) : V w0 w (A1 • B1 • C1 • D1 • E1 • G1 • H1 • F) := h.of_eq (by simp only [dH])
theorem V.g8 {A1 B1 C1 D1 E1 G1 H1 I1 : HP} (h : V w0 w (A1 • B1 • C1 • D1 • E1 • G1 • H1 • I1 • F)) : V w0 w ((A1 • B1 • C1 • D1 • E1 • G1 • H1 • I1) • F) := h.of_eq (by simp only [dH])
theorem V.u8 {A1 B1 C1 D1 E1 G1 H1 I1 : HP} (h : V w0 w ((A1 • B1 • C1 • D1 • E1 • G1 • H1 • I1) • F)) : V w0 w (A1 • B1 • C1 • D1 • E1 • G1 • H1 • I1 • F) := h.of_eq (by simp only [dH])
theorem V.u9 {A1 B1 C1 D1 E1 G1 H1 I1 J1 : HP} (h : V w0 w ((A1 • B1 • C1 • D1 • E1 • G1 • H1 • I1 • J1) • F)) : V w0 w (A1 • B1 • C1 • D1 • E1 • G1 • H1 • I1 • J1 • F) := h.of_eq (by simp only [dH])
theorem V.u10 {A1 B1 C1 D1 E1 G1 H1 I1 J1 K1 : HP} (h : V w0 w ((A1 • B1 • C1 • D1 • E1 • G1 • H1 • I1 • J1 • K1) • F)) : V w0 w (A1 • B1 • C1 • D1 • E1 • G1 • H1 • I1 • J1 • K1 • F) := h.of_eq (by simp only [dH])
theorem V.u11 {A1 B1 C1 D1 E1 G1 H1 I1 J1 K1 M1 : HP} (h : V w0 w ((A1 • B1 • C1 • D1 • E1 • G1 • H1 • I1 • J1 • K1 • M1) • F)) : V w0 w (A1 • B1 • C1 • D1 • E1 • G1 • H1 • I1 • J1 • K1 • M1 • F) := h.of_eq (by simp only [dH])
theorem V.u12 {A1 B1 C1 D1 E1 G1 H1 I1 J1 K1 M1 N1 : HP} (h : V w0 w ((A1 • B1 • C1 • D1 • E1 • G1 • H1 • I1 • J1 • K1 • M1 • N1) • F)) : V w0 w (A1 • B1 • C1 • D1 • E1 • G1 • H1 • I1 • J1 • K1 • M1 • N1 • F) := h.of_eq (by simp only [dH])
theorem V.comm (h : V w0 w (A • B)) : V w0 w (B • A) := h.of_eq (zY A B)
theorem V.ed {D : HP} (h : V w0 w (D • A • B)) : V w0 w (D • B • A) := h.of_eq (by rw [zY A B])
theorem V.e1 {D A1 : HP} (h : V w0 w (D • A1 • F)) : V w0 w (D • F • A1) := h.of_eq (by ac_rfl)
theorem V.e2 {D A1 B1 : HP} (h : V w0 w (D • A1 • B1 • F)) : V w0 w (D • F • (A1 • B1)) := h.of_eq (by ac_rfl)
theorem V.e3 {D A1 B1 C1 : HP} (h : V w0 w (D • A1 • B1 • C1 • F)) : V w0 w (D • F • (A1 • B1 • C1)) := h.of_eq (by ac_rfl)
theorem V.e4 {D A1 B1 C1 E1 : HP} (h : V w0 w (D • A1 • B1 • C1 • E1 • F)) : V w0 w (D • F • (A1 • B1 • C1 • E1)) := h.of_eq (by ac_rfl)
theorem V.af7 (h : V w0 w (A • F)) : ∃ R, F = R ∧ V w0 w (A • R) := ⟨F, rfl, h⟩
theorem V.af8 {C : HP} (h : V w0 w (A • C • F)) : ∃ R, F = R ∧ V w0 w (A • C • R) := ⟨F, rfl, h⟩
theorem V.Ls {C D : HP} (h : V w0 w (A • C • D • F)) : ∃ R, F = R ∧ V w0 w (A • C • D • R) := ⟨F, rfl, h⟩
theorem V.af9 {C D E : HP} (h : V w0 w (A • C • D • E • F)) : ∃ R, F = R ∧ V w0 w (A • C • D • E • R) := ⟨F, rfl, h⟩
def Kp (w0 : World) (A : HP) (W : World) : Prop := V w0 W A
theorem Kp.h (h : Kp w0 A w) : V w0 w A := h
theorem V.kp (h : V w0 w A) : Kp w0 A w := h
theorem V.freeze {b : Nat} {o : Obj} (h : V w0 w (eP b o • F)) : V w0 w (imm b o • F) := by
  obtain ⟨I, x, ⟨a, c, hd, e, ha, hc⟩, hD, hI, hk⟩ := h.hp
  have ha' : a = _ := ha
  have hb := h.get
  refine ⟨h.base, Hp.join I a, c, (rQ _ _ F _ c).2 ⟨?_, F.mono _ _ _ (fun k o' hk' => by simp [Hp.join, hk']) hc⟩, ?_, ?_, ?_⟩
  · have : I b = none := (hD b).resolve_right (by rw [e, ha']; simp [Hp.join])
    simp [Hp.join, this, ha']
  · intro k
    rcases hD k with h1 | h1
    · rcases hd k with h2 | h2
      · exact .inl (Hp.kW.2 ⟨h1, h2⟩)
      · exact .inr h2
    · rw [e] at h1; exact .inr (Hp.kW.1 h1).2
  · intro k o' hk'
    unfold Hp.join at hk'
    cases hI' : I k with
    | some o2 => rw [hI'] at hk'; simp at hk'; subst hk'; exact hI k _ hI'
    | none => rw [hI'] at hk'; simp at hk'; exact hk k o' (by rw [e]; simp [Hp.join, hk'])
  · intro k o' hk'
    refine hk k o' ?_
    rw [e]; unfold Hp.join
    rw [(hd k).resolve_right (by rw [hk']; simp)]; simpa using hk'
theorem V.alloc (h : V w0 w F) (o : Obj) : V w0 (w.alloc o) (eP w.heap.size o • F) := by
  obtain ⟨I, x, hx, hD, hI, hk⟩ := h.hp
  have old : ∀ k o', w0.heap.size ≤ k ∧ w.heap[k]? = some o' → w0.heap.size ≤ k ∧ (w.alloc o).heap[k]? = some o' := fun k o' h => ⟨h.1, by rw [Below.heap_alloc w o k (lt_of_block h.2)]; exact h.2⟩
  refine ⟨h.base.alloc h.base.size o, I, _, ⟨_, x, ?_, rfl, rfl, hx⟩, ?_, fun k o' ho => old k o' (hI k o' ho), ?_⟩
  · intro k
    by_cases e : k = w.heap.size
    · refine .inr ?_
      cases hx' : x k with
      | none => rfl
      | some o' => have := lt_of_block (hk k o' hx').2; omega
    · exact .inl (by simp [e])
  · intro k
    rcases hD k with h1 | h1
    · exact .inl h1
    · by_cases e : k = w.heap.size
      · refine .inl ?_
        cases hx' : I k with
        | none => rfl
        | some o' => have := lt_of_block (hI k o' hx').2; omega
      · exact .inr (by simp [Hp.join, e, h1])
  · intro k o' ho
    unfold Hp.join at ho
    by_cases e : k = w.heap.size
    · subst e
      simp at ho
      subst ho
      exact ⟨h.base.size, heap_alloc_new w o⟩
    · simp [e] at ho
      exact old k o' (hk k o' ho)
theorem V.turn {b : Nat} {o o' : Obj} {w' : World} (h : V w0 w (eP b o • F)) (hos : w'.os = w.os) (ht : w'.tape = w.tape) (hout : w'.output = w.output)
    (hs : w.heap.size ≤ w'.heap.size) (hb : w'.heap[b]? = some o') (hr : ∀ k, k ≠ b → k < w.heap.size → w'.heap[k]? = w.heap[k]?) : V w0 w' (eP b o' • F) := by
  obtain ⟨hb0, hb1⟩ := h.get
  obtain ⟨I, x, ⟨a, c, hd, e, ha, hc⟩, hD, hI, hk⟩ := h.hp
  have ha' : a = _ := ha
  have hIb : I b = none := (hD b).resolve_right (by rw [e, ha']; simp [Hp.join])
  refine ⟨h.base.trans ⟨hos, ht, hout, hs, fun k hk' => hr k (by omega) (by have := h.base.size; omega)⟩, I, _, ⟨_, c, ?_, rfl, rfl, hc⟩, ?_, ?_, ?_⟩
  · intro k
    have := hd k
    rw [ha'] at this
    by_cases e : k = b
    · subst e; simp at this; exact .inr this
    · exact .inl (by simp [e])
  · intro k
    rcases hD k with h1 | h1
    · exact .inl h1
    · by_cases ek : k = b
      · subst ek; exact .inl hIb
      · rw [e] at h1
        exact .inr (Hp.kW.2 ⟨by simp [ek], (Hp.kW.1 h1).2⟩)
  · intro k o2 ho
    by_cases ek : k = b
    · subst ek; rw [hIb] at ho; cases ho
    · have := hI k o2 ho
      exact ⟨this.1, by rw [hr k ek (lt_of_block this.2)]; exact this.2⟩
  · intro k o2 ho
    unfold Hp.join at ho
    by_cases ek : k = b
    · subst ek; simp at ho; subst ho; exact ⟨hb0, hb⟩
    · simp [ek] at ho
      have := hk k o2 (by rw [e, ha']; simp [Hp.join, ek, ho])
      exact ⟨this.1, by rw [hr k ek (lt_of_block this.2)]; exact this.2⟩
theorem heap_setCell_same (w : World) (b i : Nat) (v : Value) (cs : Array Value) (t : TypeId) (fr : Nat × Nat) (h : w.heap[b]? = some (.cells cs t fr)) :
    (w.setCell ⟨b, i, none⟩ v).heap[b]? = some (.cells (cs.setIfInBounds i v) t fr) := by
  simp [World.setCell, Array.getElem?_modify, h]
theorem V.setCell {b i : Nat} {cs : Array Value} {t : TypeId} {fr : Nat × Nat} (h : V w0 w (eP b (.cells cs t fr) • F)) (v : Value) :
    V w0 (w.setCell ⟨b, i, none⟩ v) (eP b (.cells (cs.setIfInBounds i v) t fr) • F) :=
  h.turn rfl rfl rfl (by simp) (heap_setCell_same _ _ _ _ _ _ _ h.get.2) fun k hk _ => Below.heap_setCell _ _ _ _ hk
end
theorem vw (b o j : Nat) : (⟨b, o, none⟩ : Addr).add j = ⟨b, o + j, none⟩ := by unfold Addr.add; split <;> simp_all
structure Rd (w : World) (sz : Nat) (v : Value) (n : Nat) (xs : List Value) : Prop where
  len : xs.length = n * sz
  form : ∃ a c, v = .slice a n c ∧ n ≤ c ∧ (c : Int) ≤ 9223372036854775807 ∧ (0 < n → ∃ b o, a = some ⟨b, o, none⟩ ∧ ∀ j, j < n * sz → w.cell? ⟨b, o + j, none⟩ = some (xs.getD j undef))
def fJ (w : World) (k : IntKind) (v : Value) (l : List Int) : Prop := Rd w 1 v l.length (l.map (Value.int k))
theorem fJ.open {w : World} {k : IntKind} {v : Value} {l : List Int} (h : fJ w k v l) :
    ∃ a c, v = .slice a l.length c ∧ l.length ≤ c ∧ (c : Int) ≤ 9223372036854775807 ∧ (0 < l.length → ∃ b o, a = some ⟨b, o, none⟩ ∧ ∀ j, j < l.length → w.cell? ⟨b, o + j, none⟩ = some (.int k (l.getD j 0))) := by
  obtain ⟨a, c, h1, h2, h3, h4⟩ := h.form
  refine ⟨a, c, h1, h2, h3, fun hp => ?_⟩
  obtain ⟨b, o, ha, hc⟩ := h4 hp
  refine ⟨b, o, ha, fun j hj => ?_⟩
  rw [hc j (by omega)]
  simp [List.getD_eq_getElem?_getD, hj]
theorem Rd.drewN {w : World} {sz : Nat} {v : Value} {n : Nat} {xs : List Value} (h : Rd w sz v n xs) (m : Nat) : Rd (w.drewN m) sz v n xs := ⟨h.len, h.form⟩
theorem fJ.drewN {w : World} {k : IntKind} {v : Value} {l : List Int} (h : fJ w k v l) (m : Nat) : fJ (w.drewN m) k v l := Rd.drewN h m
theorem Rd.below {w w' : World} {sz : Nat} {v : Value} {n : Nat} {xs : List Value} (h : Rd w sz v n xs) (hb : Below w.heap.size w w') : Rd w' sz v n xs := by
  refine ⟨h.len, ?_⟩
  obtain ⟨a, c, h1, h2, h3, h4⟩ := h.form
  refine ⟨a, c, h1, h2, h3, fun hp => ?_⟩
  obtain ⟨b, o, ha, hc⟩ := h4 hp
  exact ⟨b, o, ha, fun j hj => (hb.cell (World.block_lt_of_cell? _ _ (hc j hj))).trans (hc j hj)⟩
theorem fJ.below {w w' : World} {k : IntKind} {v : Value} {l : List Int} (h : fJ w k v l) (hb : Below w.heap.size w w') : fJ w' k v l := Rd.below h hb
theorem V.rd {w0 w : World} {A : HP} (h : V w0 w A) {sz : Nat} {v : Value} {n : Nat} {xs : List Value} (hr : Rd w0 sz v n xs) : Rd w sz v n xs := hr.below h.base
def Ba (w w' : World) : Prop := ∃ n, w' = w.drewN n
theorem Ba.refl (w : World) : Ba w w := ⟨0, rfl⟩
theorem Ba.step {w w' : World} (h : Ba w w') (n : Nat) : Ba w (w'.drewN n) := by obtain ⟨m, rfl⟩ := h; exact ⟨m + n, World.drewN_drewN ..⟩
theorem Ba.drew {w w' : World} (h : Ba w w') : Ba w w'.drew := h.step 1
theorem Ba.trans {a b c : World} (h : Ba a b) (k : Ba b c) : Ba a c := by obtain ⟨m, rfl⟩ := k; exact h.step m
theorem Ba.heap {w w' : World} (h : Ba w w') : w'.heap = w.heap := by obtain ⟨n, rfl⟩ := h; rfl
theorem I5 {w w' : World} (h : w'.heap = w.heap) (a : Addr) : w'.cell? a = w.cell? a := by simp [World.cell?, h]
theorem V.Bd {w0 w w' : World} {A : HP} (h : V w0 w A) (k : Ba w w') : V w0 w' A := by obtain ⟨n, rfl⟩ := k; exact h.drewN n
theorem fJ.heap {w w' : World} {k : IntKind} {v : Value} {l : List Int} (h : fJ w k v l) (e : w'.heap = w.heap) : fJ w' k v l := by
  obtain ⟨h1, a, c, h2, h3, h4, h5⟩ := h
  exact ⟨h1, a, c, h2, h3, h4, fun hp => let ⟨b, o, e1, e2⟩ := h5 hp; ⟨b, o, e1, fun j hj => (I5 e _).trans (e2 j hj)⟩⟩
theorem lN {a b : Nat} (h : Nat.ble (a + 1) b = true) : a < b := Nat.le_of_ble_eq_true h
theorem acz {a b : Nat} (h : ¬ a = b) : Nat.beq a b = false := by
  cases h' : Nat.beq a b
  · rfl
  · exact absurd (Nat.eq_of_beq_eq_true h') h
def look : List (Nat × Value) → Nat → Option Value
  | [], _ => none
  | (j, v) :: r, i => bif Nat.beq j i then some v else look r i
structure Sh where
  n : Nat
  ds : List Nat := []
  ro : Option Nat := none
abbrev Sh.of (n : Nat) : Sh := ⟨n, [], none⟩
def aad (b : Nat) : Deferred := { target := .collected b, args := #[] }
def Marks : List Nat → HP
  | [] => emp
  | b :: r => eP b (.deferred (some [])) • Marks r
def fz (ro : Option Nat) : Fence := { Fence.wide with round := ro }
theorem aae {n : Nat} {ro : Option Nat} {P : Program} {f : FuncId} {args : Array Value} {w : World} {R : Ending → World → Prop} : CallsIn (fz ro) n P f args w R ↔ Calls P f args w R := callsIn_wide (n := n)
structure Fits (N : Sh) (L : List (Nat × Value)) (a : Act) : Prop where
  size : a.tmps.size = N.n
  defers : a.defers = N.ds.map aad
  at_ : ∀ i v, look L i = some v → a.tmps[i]? = some v
def ev (L : List (Nat × Value)) : Operand → Option Value
  | .tmp t => look L t
  | .const v => some v
  | .global g => some (.pointer (some ⟨g, 0, none⟩))
  | .func f => some (.func (.func f) #[] #[])
theorem Fits.ev {N : Sh} {L : List (Nat × Value)} {a : Act} (h : Fits N L a) {x : Operand} {v : Value} (he : ev L x = some v) : a.eval x = v := by
  cases x with
  | tmp t => have := h.at_ t v he; simp [Act.eval, Array.getD_eq_getD_getElem?, this]
  | const u => simpa [YtpdeedplgmbopaaGreatDoor.ev, Act.eval] using he
  | global g => simpa [YtpdeedplgmbopaaGreatDoor.ev, Act.eval] using he
  | func f => simpa [YtpdeedplgmbopaaGreatDoor.ev, Act.eval] using he
theorem Fits.put {N : Sh} {L : List (Nat × Value)} {a : Act} (h : Fits N L a) {d : Nat} (hd : d < N.n) (v : Value) : Fits N ((d, v) :: L) (a.put (some d) v) := by
  refine ⟨by simp [Act.put, h.size], by simp [Act.put, h.defers], fun i u hu => ?_⟩
  simp only [look] at hu
  simp only [Act.put, Array.getElem?_setIfInBounds]
  by_cases e : d = i
  · subst e
    simp at hu
    simp [h.size, hd, hu]
  · rw [if_neg e]
    have : Nat.beq d i = false := acz e
    rw [this] at hu
    exact h.at_ i u hu
def Sub (M L : List (Nat × Value)) : Prop := ∀ i v, look M i = some v → look L i = some v
theorem Sub.nil (L : List (Nat × Value)) : Sub [] L := fun _ _ h => by cases h
theorem Sub.cons {M L : List (Nat × Value)} {i : Nat} {v : Value} (h : look L i = some v) (k : Sub M L) : Sub ((i, v) :: M) L := by
  intro j u hj
  simp only [look] at hj
  by_cases e : i = j
  · subst e; simp at hj; rw [← hj]; exact h
  · have : Nat.beq i j = false := acz e
    rw [this] at hj
    exact k j u hj
theorem Sub.jW {M L : List (Nat × Value)} {i : Nat} {v u : Value} (h : look L i = some u) (e : u = v) (k : Sub M L) : Sub ((i, v) :: M) L := Sub.cons (e ▸ h) k
theorem Fits.sub {N : Sh} {L M : List (Nat × Value)} {a : Act} (h : Fits N L a) (k : Sub M L) : Fits N M a := ⟨h.size, h.defers, fun i v hv => h.at_ i v (k i v hv)⟩
theorem bW : ∀ u ∈ ([] : List Value), u.oneCell' = true := fun _ h => by cases h
theorem bg {v : Value} {l : List Value} (h : v.oneCell' = true) (k : ∀ u ∈ l, u.oneCell' = true) : ∀ u ∈ v :: l, u.oneCell' = true := fun u hu => by
  rcases List.mem_cons.1 hu with rfl | hu
  · exact h
  · exact k u hu
def NP (Q : Exit → Act → World → Prop) : Prop := ∀ c a w, ¬ Q (.panic c) a w
theorem NP.then {Q : Exit → Act → World → Prop} (h : NP Q) (K : Act → World → Prop) : NP (Exit.then K Q) := h
theorem NP.inBlock {Q : Exit → Act → World → Prop} (h : NP Q) (id : Nat) : NP (Exit.inBlock id Q) := h
def WC (P : Program) (N : Sh) (c : Code) (Q : Exit → Act → World → Prop) (L : List (Nat × Value)) (w : World) : Prop := NP Q → ∀ a, Fits N L a → c.wpIn (fz N.ro) 0 P Q a w
def WL (P : Program) (N : Sh) (ops : Array Oper) (Q : Exit → Act → World → Prop) (l : List Oper) (L : List (Nat × Value)) (w : World) : Prop := NP Q → ∀ a, Fits N L a → wpListIn Fence.wide 0 P ops Q l a w
def WQ (N : Sh) (Q : Exit → Act → World → Prop) (e : Exit) (L : List (Nat × Value)) (w : World) : Prop := NP Q → ∀ a, Fits N L a → Q e a w
def iQ (P : Program) (f : FuncId) (args : Array Value) (w : World) (S : Value → World → Prop) : Prop := Calls P f args w fun e w' => ∃ v, e = .returned v ∧ S v w'
theorem iQ.mono {P : Program} {f : FuncId} {args : Array Value} {w : World} {S S' : Value → World → Prop} (h : iQ P f args w S) (k : ∀ v w', S v w' → S' v w') : iQ P f args w S' :=
  Calls.mono h fun _ _ ⟨v, e, s⟩ => ⟨v, e, k _ _ s⟩
section
variable {P : Program} {N : Sh} {Q : Exit → Act → World → Prop} {L : List (Nat × Value)} {w : World}
def zZ : Nat → List Value → List (Nat × Value)
  | _, [] => []
  | i, v :: r => (i, v) :: zZ (i + 1) r
theorem SB (args : List Value) : ∀ (k i : Nat) (v : Value), look (zZ k args) i = some v → k ≤ i ∧ args[i - k]? = some v := by
  induction args with
  | nil => intro k i v h; cases h
  | cons u r ih =>
    intro k i v h
    simp only [zZ, look] at h
    by_cases e : k = i
    · subst e; simp at h; simp [h]
    · have : Nat.beq k i = false := acz e
      rw [this] at h
      have := ih (k + 1) i v h
      refine ⟨by omega, ?_⟩
      rw [show i - k = (i - (k + 1)) + 1 from by omega]
      simpa using this.2
def oD (P : Program) (fn : Func) (S : Value → World → Prop) : Exit → Act → World → Prop
  | .normal, a, w | .ret, a, w => LeavesInM Fence.wide 0 P fn a.tmps (fun e w' => ∃ v, e = .returned v ∧ S v w') a.defers .returning w
  | _, _, _ => False
theorem YJ {f n : Nat} {fn : Func} {c : Code} {args : List Value} {S : Value → World → Prop} (hf : P.funcs[f]? = some fn) (hb : fn.body = some c) (hN : fn.ntmps = n) (hl : args.length ≤ n)
    (h : WC P (Sh.of n) c (oD P fn S) (zZ 0 args) w) : iQ P f args.toArray w S := by
  refine (callsIn_wide (n := 0)).1 (callsIn_of_wp_marks hf hb trivial (wpIn_mono (h ?_ _ ⟨?_, rfl, ?_⟩) ?_))
  rotate_left 3
  · rintro e a w hq
    cases e with
    | normal => exact hq
    | ret => exact hq
    | exit id => exact hq.elim
    | goto l => exact hq.elim
    | panic c => exact hq.elim
    | outgrown => exact hq.elim
  · rintro c a w h; exact h
  · simp [hN]; omega
  · intro i v hv
    have := (SB args 0 i v hv).2
    simp at this
    have hi : i < args.length := by
      rcases Nat.lt_or_ge i args.length with h | h
      · exact h
      · rw [List.getElem?_eq_none h] at this; cases this
    rw [Array.getElem?_append_left (by simpa using hi)]
    simpa using this
theorem aI {x y : Code} (h : WC P N x (Exit.then (y.wpIn (fz N.ro) 0 P Q) Q) L w) : WC P N (.seq x y) Q L w := fun np a ha => wpIn_seq (h (np.then _) a ha)
theorem dh (h : WQ N Q .normal L w) : WC P N .skip Q L w := fun np a ha => wpIn_skip (h np a ha)
theorem lQ (h : WQ N Q .ret L w) : WC P N .ret Q L w := fun np a ha => wpIn_ret (h np a ha)
theorem dR {id : Nat} (h : WQ N Q (.exit id) L w) : WC P N (.exit id) Q L w := fun np a ha => wpIn_exit (h np a ha)
theorem bf {id : Nat} {c : Code} (h : WC P N c (Exit.inBlock id Q) L w) : WC P N (.block id c) Q L w := fun np a ha => wpIn_block (h (np.inBlock id) a ha)
def pU : List Oper → Bool
  | [] => true
  | o :: r => (match o.op with | .defer _ => false | _ => true) && pU r
theorem Kv {F : Fence} {n : Nat} {P : Program} {Q : Exit → Act → World → Prop} {a : Act} {w : World} {c : Code} (I : Nat → Act → World → Prop) (n₀ : Nat) (h₀ : I n₀ a w)
    (round : ∀ k a w, I k a w → c.wpIn F n P (Exit.then (fun a' w' => ∃ k', k' < k ∧ I k' a' w') Q) a w) : (Code.loop c).wpIn F n P Q a w := by
  refine wpIn_loop (fun a w => ∃ n, I n a w) (fun a w => leastOf (fun n => I n a w)) ⟨n₀, h₀⟩ ?_
  intro a w hI
  refine wpIn_mono (round _ a w (leastOf_spec hI).1) ?_
  intro e a' w' hq
  cases e with
  | normal =>
    obtain ⟨n', hlt, hI'⟩ := hq
    exact show (∃ n, I n a' w') ∧ leastOf (fun n => I n a' w') < leastOf (fun n => I n a w) from ⟨⟨n', hI'⟩, Nat.lt_of_le_of_lt ((leastOf_spec ⟨n', hI'⟩).2 n' hI') hlt⟩
  | exit id => exact hq
  | goto l => exact hq
  | ret => exact hq
  | panic c => exact hq
  | outgrown => exact hq
theorem Lu {o : Oper} (h : (match o.op with | .defer _ => false | _ => true) = true) : ∀ c, o.op ≠ .defer c := by
  intro c e; rw [e] at h; cases h
theorem Pm {ro : Option Nat} {o : Oper} {a : Act} {K : Act → World → Prop} (hd : ∀ c, o.op ≠ .defer c) (h : o.wpIn Fence.wide 0 P a w K Q) : o.wpIn (fz ro) 0 P a w K Q := by
  unfold Oper.wpIn at *
  rw [Oper.semAt_eq _ _ _ hd] at *
  exact h
theorem I7 {ro : Option Nat} {ops : Array Oper} : ∀ {l : List Oper} {a : Act} {w : World}, pU l = true → wpListIn Fence.wide 0 P ops Q l a w → wpListIn (fz ro) 0 P ops Q l a w
  | [], _, _, _, h => h
  | o :: r, a, w, hd, h => by
    simp only [pU, Bool.and_eq_true] at hd
    unfold wpListIn at h ⊢
    split
    · rename_i hw
      rw [if_pos hw] at h
      exact Pm (Lu hd.1) (Oper.wpIn_mono (fun a w => I7 hd.2) h)
    · rename_i hw
      rw [if_neg hw] at h
      exact ⟨h.1, I7 hd.2 h.2⟩
theorem aB {id : Nat} {l : List Oper} (h : WL P N l.toArray Q l L w) (hd : N.ro = none ∨ pU l = true := by first | exact .inl rfl | exact .inr rfl) : WC P N (.region id l.toArray false) Q L w := fun np a ha => by
  rcases hd with hd | hd
  · rw [hd]; exact wpIn_region_lit (h np a ha)
  · exact wpIn_region_lit (I7 hd (h np a ha))
theorem aZ {x : Operand} {b : Bool} {c d : Code} (hx : ev L x = some (.bool b)) (ht : b = true → WC P N c Q L w) (hf : b = false → WC P N d Q L w) : WC P N (.cond x c d) Q L w := fun np a ha =>
  wpIn_cond_split (ha.ev hx) (fun e => ht e np a ha) (fun e => hf e np a ha)
theorem YK {x : Operand} {c d : Code} (hx : ev L x = some (.bool true)) (h : WC P N c Q L w) : WC P N (.cond x c d) Q L w := fun np a ha => wpIn_cond_true (ha.ev hx) (h np a ha)
theorem YL {x : Operand} {c d : Code} (hx : ev L x = some (.bool false)) (h : WC P N d Q L w) : WC P N (.cond x c d) Q L w := fun np a ha => wpIn_cond_false (ha.ev hx) (h np a ha)
theorem aX {y : Code} (h : WC P N y Q L w) : WQ N (Exit.then (y.wpIn (fz N.ro) 0 P Q) Q) .normal L w := fun np a ha => h np a ha
theorem aA {K : Act → World → Prop} (h : WQ N Q .ret L w) : WQ N (Exit.then K Q) .ret L w := fun np a ha => h np a ha
theorem aO {K : Act → World → Prop} {id : Nat} (h : WQ N Q (.exit id) L w) : WQ N (Exit.then K Q) (.exit id) L w := fun np a ha => h np a ha
theorem aH {id : Nat} (h : WQ N Q .normal L w) : WQ N (Exit.inBlock id Q) .normal L w := fun np a ha => h np a ha
theorem aU {id : Nat} (h : WQ N Q .ret L w) : WQ N (Exit.inBlock id Q) .ret L w := fun np a ha => h np a ha
theorem bG {id : Nat} (h : WQ N Q .normal L w) : WQ N (Exit.inBlock id Q) (.exit id) L w := fun np a ha => by
  show (if id = id then Q .normal a w else _); rw [if_pos rfl]; exact h np a ha
theorem FU {id id' : Nat} (hne : id' ≠ id) (h : WQ N Q (.exit id') L w) : WQ N (Exit.inBlock id Q) (.exit id') L w := fun np a ha => by
  show (if id' = id then _ else Q (.exit id') a w); rw [if_neg hne]; exact h np a ha
theorem SC (A B : List (Nat × Value)) (i : Nat) : look (A ++ B) i = (look A i).or (look B i) := by
  induction A with
  | nil => simp [look]
  | cons p A ih =>
    obtain ⟨j, v⟩ := p
    simp only [List.cons_append, look]
    cases h : Nat.beq j i with
    | true => simp
    | false => simp [ih]
theorem Sub.append {A B L : List (Nat × Value)} (h : Sub A L) (k : Sub B L) : Sub (A ++ B) L := fun i v hv => by
  rw [SC] at hv
  cases e : look A i with
  | none => rw [e] at hv; exact k i v (by simpa using hv)
  | some u => rw [e] at hv; simp at hv; subst hv; exact h i u e
def Pn {G : Type} (N : Sh) (K : List (Nat × Value)) (S : G → List (Nat × Value)) (I : G → World → Prop) (m : G → Nat) (g : G) (a : Act) (w : World) : Prop := ∃ g', Fits N (S g' ++ K) a ∧ I g' w ∧ m g' < m g
def SE {G : Type} (N : Sh) (K : List (Nat × Value)) (S : G → List (Nat × Value)) (I : G → World → Prop) (a : Act) (w : World) : Prop := ∃ g, Fits N (S g ++ K) a ∧ I g w
theorem iC {c : Code} {G : Type} (K : List (Nat × Value)) (S : G → List (Nat × Value)) (I : G → World → Prop) (m : G → Nat) (g0 : G) (hK : Sub K L) (h0 : Sub (S g0) L) (hI : I g0 w)
    (round : ∀ g w, I g w → WC P N c (Exit.then (Pn N K S I m g) Q) (S g ++ K) w) : WC P N (.loop c) Q L w := fun np a ha => by
  refine Kv (fun n a w => ∃ g, m g = n ∧ Fits N (S g ++ K) a ∧ I g w) (m g0) ⟨g0, rfl, ha.sub (h0.append hK), hI⟩ ?_
  rintro n a w ⟨g, rfl, hf, hg⟩
  refine wpIn_mono (round g w hg (np.then _) a hf) fun e a w q => ?_
  cases e with
  | normal => obtain ⟨g', h1, h2, h3⟩ := q; exact ⟨m g', h3, g', rfl, h1, h2⟩
  | exit id => exact q
  | goto l => exact q
  | ret => exact q
  | panic c => exact q
  | outgrown => exact q
theorem dX {G : Type} {K : List (Nat × Value)} {S : G → List (Nat × Value)} {I : G → World → Prop} {m : G → Nat} {g : G} (g' : G) (hS : Sub (S g') L) (hK : Sub K L) (hI : I g' w) (hm : m g' < m g) :
    WQ N (Exit.then (Pn N K S I m g) Q) .normal L w := fun _ _ ha => ⟨g', ha.sub (hS.append hK), hI, hm⟩
def aeI {G : Type} (n : Nat) (df : G → List Nat) (K : List (Nat × Value)) (S : G → List (Nat × Value)) (I : G → World → Prop) (m : G → Nat) (g : G) (a : Act) (w : World) : Prop := ∃ g', Fits ⟨n, df g', none⟩ (S g' ++ K) a ∧ I g' w ∧ m g' < m g
theorem V.XD {w0 w : World} {F : HP} {D : Nat} (h : V w0 w (eP D (.deferred (some [])) • F)) : V w0 w (Marks [D] • F) := h.of_eq (by show _ = ((eP D (.deferred (some [])) • emp) • F); rw [zi])
theorem kL {x y : Code} {G : Type} (K : List (Nat × Value)) (S : G → List (Nat × Value)) (I : G → World → Prop) (hK : Sub K L) (J : ∀ g w, I g w → WC P N y Q (S g ++ K) w)
    (h : WC P N x (Exit.then (SE N K S I) Q) L w) : WC P N (.seq x y) Q L w := fun np a ha => by
  refine wpIn_seq (wpIn_mono (h (np.then _) a ha) fun e a w q => ?_)
  cases e with
  | normal => obtain ⟨g, h1, h2⟩ := q; exact J g w h2 np a h1
  | exit id => exact q
  | goto l => exact q
  | ret => exact q
  | panic c => exact q
  | outgrown => exact q
theorem dD {G : Type} {K : List (Nat × Value)} {S : G → List (Nat × Value)} {I : G → World → Prop} (g : G) (hS : Sub (S g) L) (hK : Sub K L) (hI : I g w) :
    WQ N (Exit.then (SE N K S I) Q) .normal L w := fun _ _ ha => ⟨g, ha.sub (hS.append hK), hI⟩
def Res (P : Program) (fn : Func) (N : Sh) (L : List (Nat × Value)) (w : World) (v : Value) : Prop := ∀ a, Fits N L a → (results fn a.tmps).run P w = .ok v w
theorem aeJ {fn : Func} (hr : fn.results = #[]) : Res P fn N L w (.tuple #[]) := fun _ _ => results_none hr _ _ _
theorem aeK {fn : Func} {t : Nat} {v : Value} (hr : fn.results = #[.tmp t]) (hv : look L t = some v) : Res P fn N L w v := fun a ha => by
  have hx := results_tmp hr a.tmps P w
  rwa [Array.getD_eq_getD_getElem?, ha.at_ t v hv] at hx
theorem ahN {fn : Func} {t u : Nat} {v x : Value} (hr : fn.results = #[.tmp t, .tmp u]) (hv : look L t = some v) (hx : look L u = some x) : Res P fn N L w (.tuple #[v, x]) := fun a ha => by
  have hy := results_tmp2 hr a.tmps P w
  rwa [Array.getD_eq_getD_getElem?, ha.at_ t v hv, Array.getD_eq_getD_getElem?, ha.at_ u x hx] at hy
theorem ahO {fn : Func} {t u s : Nat} {v x y : Value} (hr : fn.results = #[.tmp t, .tmp u, .tmp s]) (hv : look L t = some v) (hx : look L u = some x) (hy : look L s = some y) : Res P fn N L w (.tuple #[v, x, y]) := fun a ha => by
  have hz := results_tmp3 hr a.tmps P w
  rwa [Array.getD_eq_getD_getElem?, ha.at_ t v hv, Array.getD_eq_getD_getElem?, ha.at_ u x hx, Array.getD_eq_getD_getElem?, ha.at_ s y hy] at hz
theorem sS {fn : Func} {e : Exit} {S : Value → World → Prop} {v : Value} (he : e = .ret ∨ e = .normal) (hr : Res P fn N L w v) (h : S v w) (hd : N.ds = [] := by rfl) : WQ N (oD P fn S) e L w := fun _ a ha => by
  have h1 : a.defers = [] := by rw [ha.defers, hd]; rfl
  rcases he with rfl | rfl <;> (show LeavesInM _ _ _ _ _ _ a.defers _ _; rw [h1]; exact ⟨_, hr a ha, _, rfl, h⟩)
theorem GZ {w0 : World} {fn : Func} {tmps : Array Value} {R : Ending → World → Prop} {F : HP} : ∀ (bs : List Nat) (w : World), V w0 w (Marks bs • F) → (∀ w', V w0 w' F → LeavesInM Fence.wide 0 P fn tmps R [] .returning w') → LeavesInM Fence.wide 0 P fn tmps R (bs.map aad) .returning w
  | [], w, H, k => k w H.qL
  | b :: r, w, H, k => by
    have H1 := H.flat
    have hb := H1.get.2
    refine ⟨by simp, .inl ⟨b, _, rfl, run_takeDeferred hb, ?_⟩⟩
    have H2 : V w0 (w.putObj b (.deferred none)) (eP b (.deferred none) • Marks r • F) := H1.turn rfl rfl rfl (by simp) (World.putObj_heap_same H1.lt) fun k hk _ => World.putObj_heap_other hk
    exact GZ r _ H2.right k
theorem KL {w0 : World} {fn : Func} {e : Exit} {S : Value → World → Prop} {F : HP} (he : e = .ret ∨ e = .normal) (H : V w0 w (Marks N.ds • F)) (h : ∀ w', V w0 w' F → ∃ v, Res P fn N L w' v ∧ S v w') : WQ N (oD P fn S) e L w := fun _ a ha => by
  have : LeavesInM Fence.wide 0 P fn a.tmps (fun e w' => ∃ v, e = .returned v ∧ S v w') a.defers .returning w := by
    rw [ha.defers]
    exact GZ _ _ H fun w' H' => let ⟨v, h1, h2⟩ := h w' H'; ⟨v, h1 a ha, v, rfl, h2⟩
  rcases he with rfl | rfl <;> exact this
theorem mX {fn : Func} {e : Exit} {S : Value → World → Prop} (he : e = .ret ∨ e = .normal) (hr : fn.results = #[]) (h : S (.tuple #[]) w) (hd : N.ds = [] := by rfl) : WQ N (oD P fn S) e L w := sS he (aeJ hr) h hd
theorem acA {fn : Func} {e : Exit} {S : Value → World → Prop} {t : Nat} {v : Value} (he : e = .ret ∨ e = .normal) (hr : fn.results = #[.tmp t]) (hv : look L t = some v) (h : S v w) (hd : N.ds = [] := by rfl) : WQ N (oD P fn S) e L w := sS he (aeK hr hv) h hd
theorem acB {fn : Func} {e : Exit} {S : Value → World → Prop} {t u : Nat} {v x : Value} (he : e = .ret ∨ e = .normal) (hr : fn.results = #[.tmp t, .tmp u]) (hv : look L t = some v) (hx : look L u = some x) (h : S (.tuple #[v, x]) w) (hd : N.ds = [] := by rfl) :
  WQ N (oD P fn S) e L w := sS he (ahN hr hv hx) h hd
theorem iP {fn : Func} {e : Exit} {S : Value → World → Prop} {t u s : Nat} {v x y : Value} (he : e = .ret ∨ e = .normal) (hr : fn.results = #[.tmp t, .tmp u, .tmp s]) (hv : look L t = some v) (hx : look L u = some x) (hy : look L s = some y) (h : S (.tuple #[v, x, y]) w) (hd : N.ds = [] := by rfl) :
  WQ N (oD P fn S) e L w := sS he (ahO hr hv hx hy) h hd
end
def Kw (P : Program) (L : List (Nat × Value)) (op : Op) (ty : TypeId) (w : World) (r : Result Next) : Prop :=
  ∀ ρ : Operand → Value, (∀ x u, ev L x = some u → ρ x = u) → ∀ d pos qK g, (execOp ρ ⟨d, op, ty, pos, qK, g⟩).run P w = r
abbrev Val (P : Program) (L : List (Nat × Value)) (op : Op) (ty : TypeId) (w : World) (v : Value) (w' : World) : Prop := Kw P L op ty w (.ok (.value v) w')
section
variable {P : Program} {N : Sh} {Q : Exit → Act → World → Prop} {L : List (Nat × Value)} {w w' : World} {ops : Array Oper} {rest : List Oper} {op : Op} {ty : TypeId} {pos : String} {qK : Array Edge} {d : Nat} {v : Value}
theorem bZ (h : WQ N Q .normal L w) : WL P N ops Q [] L w := fun np a ha => wpListIn_nil (h np a ha)
theorem KN {o : Oper} {a : Act} {K : Act → World → Prop} (h : o.uponIn Fence.wide 0 P a K Q ((execOp a.eval o).run P w)) : o.wpIn Fence.wide 0 P a w K Q := ⟨fun _ _ => trivial, h⟩
theorem aeL (h : ∀ x, x = v → WL P N ops Q rest ((d, x) :: L) w) : WL P N ops Q rest ((d, v) :: L) w := h v rfl
theorem BH (hr : Val P L op ty w v w') (hd : d < N.n) (h : WL P N ops Q rest ((d, v) :: L) w') : WL P N ops Q (⟨some d, op, ty, pos, qK, none⟩ :: rest) L w := fun np a ha =>
  wpListIn_plain rfl fun K hK => KN (by
    rw [hr a.eval (fun x u hx => ha.ev hx)]
    exact hK _ _ (h np _ (ha.put hd v)))
def xU (P : Program) (L : List (Nat × Value)) (op : Op) (ty : TypeId) (w : World) (T : Value → World → Prop) : Prop :=
  (∃ v w', Kw P L op ty w (.ok (.value v) w') ∧ T v w') ∨ (∃ w', Kw P L op ty w (.ok .skip w') ∧ T undef w') ∨ (∃ f args w', Kw P L op ty w (.ok (.enter f args) w') ∧ iQ P f args w' T) ∨
  (∃ l f tmps c d w', Kw P L op ty w (.ok (.round l f tmps c d) w') ∧ RoundIn Fence.wide 0 P l f tmps c d w' fun e w'' => ∃ v, e = .returned v ∧ T v w'')
theorem vJ {T : Value → World → Prop} (hr : Val P L op ty w v w') (h : T v w') : xU P L op ty w T := .inl ⟨v, w', hr, h⟩
theorem LC {T : Value → World → Prop} (hr : Kw P L op ty w (.ok .skip w')) (h : T undef w') : xU P L op ty w T := .inr (.inl ⟨w', hr, h⟩)
theorem yU {T : Value → World → Prop} {f : FuncId} {args : Array Value} (hr : Kw P L op ty w (.ok (.enter f args) w')) (h : iQ P f args w' T) : xU P L op ty w T := .inr (.inr (.inl ⟨f, args, w', hr, h⟩))
theorem acC {T : Value → World → Prop} {l : Nat} {f : FuncId} {tmps : Array Value} {c d : Code} (hr : Kw P L op ty w (.ok (.round l f tmps c d) w')) (h : RoundIn Fence.wide 0 P l f tmps c d w' fun e w'' => ∃ v, e = .returned v ∧ T v w'') : xU P L op ty w T :=
  .inr (.inr (.inr ⟨l, f, tmps, c, d, w', hr, h⟩))
theorem xU.mono {T T' : Value → World → Prop} (he : xU P L op ty w T) (h : ∀ v w', T v w' → T' v w') : xU P L op ty w T' := by
  rcases he with ⟨v, w', hr, ht⟩ | ⟨w', hr, ht⟩ | ⟨f, args, w', hr, hc⟩ | ⟨l, f, tmps, c, d, w', hr, hc⟩
  · exact .inl ⟨v, w', hr, h _ _ ht⟩
  · exact .inr (.inl ⟨w', hr, h _ _ ht⟩)
  · exact .inr (.inr (.inl ⟨f, args, w', hr, hc.mono h⟩))
  · exact .inr (.inr (.inr ⟨l, f, tmps, c, d, w', hr, RoundIn.mono hc fun e w'' ⟨v, e, t⟩ => ⟨v, e, h _ _ t⟩⟩))
theorem xU.wp {T : Value → World → Prop} (he : xU P L op ty w T) {a : Act} (ha : Fits N L a) {o : Oper} (h1 : o.op = op) (h2 : o.type = ty) {K : Act → World → Prop} (h : ∀ v w', T v w' → K (a.put o.dst v) w') : o.wpIn Fence.wide 0 P a w K Q := by
  obtain ⟨d, op', ty', pos, qK, g⟩ := o
  dsimp only at h1 h2
  subst h1 h2
  refine KN ?_
  rcases he with ⟨v, w', hr, ht⟩ | ⟨w', hr, ht⟩ | ⟨f, args, w', hr, hc⟩ | ⟨l, f, tmps, c, d, w', hr, hc⟩ <;> rw [hr a.eval (fun x u hx => ha.ev hx)]
  · exact h _ _ ht
  · exact h _ _ ht
  · refine ⟨by simp [Fence.wide], callsIn_wide.2 (Calls.mono hc ?_)⟩
    rintro e w'' ⟨v, rfl, hs⟩
    exact h _ _ hs
  · refine ⟨by simp [Fence.wide], RoundIn.mono hc ?_⟩
    rintro e w'' ⟨v, rfl, hs⟩
    exact h _ _ hs
theorem Vw {T : Value → World → Prop} (he : xU P L op ty w T) (hd : d < N.n) (h : ∀ v w', T v w' → WL P N ops Q rest ((d, v) :: L) w') : WL P N ops Q (⟨some d, op, ty, pos, qK, none⟩ :: rest) L w := fun np a ha =>
  wpListIn_plain rfl fun _ hK => he.wp ha rfl rfl fun v w' ht => hK _ _ (h v w' ht np _ (ha.put hd v))
theorem aJ {T : Value → World → Prop} (he : xU P L op ty w T) (h : ∀ v w', T v w' → WL P N ops Q rest L w') : WL P N ops Q (⟨none, op, ty, pos, qK, none⟩ :: rest) L w := fun np a ha =>
  wpListIn_plain rfl fun _ hK => he.wp ha rfl rfl fun v w' ht => hK _ _ (h v w' ht np _ ha)
theorem Aa {a : Act} (ha : Fits N L a) {j t : Nat} {b : Bool} (hj : (ops[j]?).bind (·.dst) = some t) (hl : look L t = some (.bool b)) : yielded ops a.tmps j = some b := by
  unfold yielded; rw [hj]; simp [ha.at_ t _ hl]
theorem aeM {j t : Nat} {want : Bool} {o : Option Nat} (hj : (ops[j]?).bind (·.dst) = some t) (hl : look L t = some (.bool want))
    (h : WL P N ops Q (⟨o, op, ty, pos, qK, none⟩ :: rest) L w) : WL P N ops Q (⟨o, op, ty, pos, qK, some (j, want)⟩ :: rest) L w := fun np a ha => by
  have h1 := h np a ha
  have hw : Region.wanted ⟨o, op, ty, pos, qK, some (j, want)⟩ (yielded ops a.tmps) = true := by simp [Region.wanted, Aa ha hj hl]
  unfold wpListIn at h1 ⊢
  rw [if_pos hw]
  rw [if_pos (by simp [Region.wanted])] at h1
  exact h1
theorem aga {j t : Nat} {want b : Bool} (hj : (ops[j]?).bind (·.dst) = some t) (hl : look L t = some (.bool b)) (hb : (b == want) = false) (hd : d < N.n)
    (h : WL P N ops Q rest ((d, undef) :: L) w) : WL P N ops Q (⟨some d, op, ty, pos, qK, some (j, want)⟩ :: rest) L w := fun np a ha => by
  have hw : Region.wanted ⟨some d, op, ty, pos, qK, some (j, want)⟩ (yielded ops a.tmps) = false := by simp [Region.wanted, Aa ha hj hl]; simpa using hb
  unfold wpListIn
  rw [if_neg (by rw [hw]; decide)]
  exact ⟨fun _ _ => trivial, h np _ (ha.put hd _)⟩
theorem Ol {a : Act} (ha : Fits N L a) {j t : Nat} (hj : (ops[j]?).bind (·.dst) = some t) (hl : look L t = some undef) : yielded ops a.tmps j = none := by
  unfold yielded; rw [hj]; simp [ha.at_ t _ hl, undef]
theorem aeN {j t : Nat} {want : Bool} (hj : (ops[j]?).bind (·.dst) = some t) (hl : look L t = some undef) (hd : d < N.n)
    (h : WL P N ops Q rest ((d, undef) :: L) w) : WL P N ops Q (⟨some d, op, ty, pos, qK, some (j, want)⟩ :: rest) L w := fun np a ha => by
  have hw : Region.wanted ⟨some d, op, ty, pos, qK, some (j, want)⟩ (yielded ops a.tmps) = false := by simp [Region.wanted, Ol ha hj hl]
  unfold wpListIn
  rw [if_neg (by rw [hw]; decide)]
  exact ⟨fun _ _ => trivial, h np _ (ha.put hd _)⟩
theorem aaf {x : Operand} {b : Bool} (hx : ev L x = some (.bool b)) (hd : d < N.n) (ht : b = true → WL P N ops Q rest ((d, .bool true) :: L) w) (hf : b = false → WL P N ops Q rest ((d, .bool false) :: L) w) :
    WL P N ops Q (⟨some d, .move x, ty, pos, qK, none⟩ :: rest) L w := by
  refine BH (v := .bool b) (w' := w) ?_ hd ?_
  · intro ρ hρ dd pos qK g; simp [execOp, hρ _ _ hx]
  · cases b
    · exact hf rfl
    · exact ht rfl
end
end Go.Proofs.YtpdeedplgmbopaaGreatDoor
end
