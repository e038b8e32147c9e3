import Derived.Test.YtddekefihgejoaaGreatDoorZ2
import Derived.Test.YtddekefihgejoaaGreatDoorZ4
import Derived.Scope
import Derived.Laws.RangeString
import Derived.Lib.OthersKept
import Derived.Lib.Bytealg
set_option linter.unusedSimpArgs false
set_option linter.unusedVariables false
/- Texts of mine, joined, their names in short: IsM Str. -/
section
namespace Go.Proofs.YtddekefihgejoaaGreatDoor
open Go.RowKit
def Bq (l p : List Int) (i : Nat) : Bool := decide (i + p.length ≤ l.length ∧ (l.drop i).take p.length = p)
def lD (l p : List Int) : Nat → Int
  | 0 => -1
  | n + 1 => if Bq l p n then n else lD l p n
def jG (l p : List Int) : Nat → Nat → Int
  | 0, _ => -1
  | n + 1, i => if Bq l p i then i else jG l p n (i + 1)
def mg (l p : List Int) : Int := (l.length : Int) - p.length
def jO (l p : List Int) (from_ : Int) (back : Bool) : Int :=
  if back then lD l p ((min from_ (mg l p)) + 1).toNat else jG l p (mg l p - max from_ 0 + 1).toNat (max from_ 0).toNat
def qQ (ls : List (List Int)) (place at_ : Int) (p : List Int) (back : Bool) (i : Nat) : Int :=
  jO (ls.getD i []) p (if (i : Int) = place then at_ else if back then ((ls.getD i []).length : Int) else 0) back
def yK (ls : List (List Int)) (place at_ : Int) (p : List Int) : Nat → Int × Int × Bool
  | 0 => (0, 0, false)
  | n + 1 => if 0 ≤ qQ ls place at_ p true n then (n, qQ ls place at_ p true n, true) else yK ls place at_ p n
def findF (ls : List (List Int)) (place at_ : Int) (p : List Int) : Nat → Nat → Int × Int × Bool
  | 0, _ => (0, 0, false)
  | n + 1, i => if 0 ≤ qQ ls place at_ p false i then (i, qQ ls place at_ p false i, true) else findF ls place at_ p n (i + 1)
def oG (ls : List (List Int)) (place at_ : Int) (p : List Int) (back : Bool) : Int × Int × Bool :=
  if place < 0 ∨ (ls.length : Int) ≤ place ∨ p.length = 0 then (0, 0, false) else if back then yK ls place at_ p (place + 1).toNat else findF ls place at_ p ((ls.length : Int) - place).toNat place.toNat
theorem Du {l p : List Int} {i : Nat} : Bq l p i = true ↔ i + p.length ≤ l.length ∧ (l.drop i).take p.length = p := by unfold Bq; simp
theorem MV {l p : List Int} {i : Int} (h : 0 ≤ i) (ha : Bq l p i.toNat = true) : lD l p (i + 1).toNat = i := by
  obtain ⟨n, rfl⟩ := Int.eq_ofNat_of_zero_le h
  rw [show ((n : Int) + 1).toNat = n + 1 from by omega]
  rw [Int.toNat_natCast] at ha
  unfold lD; rw [if_pos ha]
theorem PX {l p : List Int} {i : Int} (h : 0 ≤ i) (ha : ¬ Bq l p i.toNat = true) : lD l p (i + 1).toNat = lD l p (i - 1 + 1).toNat := by
  obtain ⟨n, rfl⟩ := Int.eq_ofNat_of_zero_le h
  rw [show ((n : Int) + 1).toNat = n + 1 from by omega, show ((n : Int) - 1 + 1).toNat = n from by omega]
  rw [Int.toNat_natCast] at ha
  rw [lD, if_neg ha]
theorem MW {l p : List Int} {i : Int} (h : ¬ 0 ≤ i) : lD l p (i + 1).toNat = -1 := by rw [show (i + 1).toNat = 0 from by omega]; rfl
theorem KD {l p : List Int} {i m : Int} (h : 0 ≤ i) (hm : i ≤ m) (ha : Bq l p i.toNat = true) : jG l p (m - i + 1).toNat i.toNat = i := by
  obtain ⟨n, hn⟩ : ∃ n, (m - i + 1).toNat = n + 1 := ⟨(m - i).toNat, by omega⟩
  rw [hn, jG, if_pos ha]; omega
theorem MX {l p : List Int} {i m : Int} (h : 0 ≤ i) (hm : i ≤ m) (ha : ¬ Bq l p i.toNat = true) : jG l p (m - i + 1).toNat i.toNat = jG l p (m - (i + 1) + 1).toNat (i + 1).toNat := by
  rw [show (m - i + 1).toNat = (m - (i + 1) + 1).toNat + 1 from by omega, jG, if_neg ha, show (i + 1).toNat = i.toNat + 1 from by omega]
theorem KE {l p : List Int} {i m : Int} (h : ¬ i ≤ m) : jG l p (m - i + 1).toNat i.toNat = -1 := by rw [show (m - i + 1).toNat = 0 from by omega]; rfl
theorem Cm (l p : List Int) : ∀ n, (lD l p n = -1 ∧ ∀ i, i < n → ¬ Bq l p i = true) ∨ ∃ i, lD l p n = (i : Nat) ∧ i < n ∧ Bq l p i = true ∧ ∀ j, i < j → j < n → ¬ Bq l p j = true
  | 0 => .inl ⟨rfl, fun i h => absurd h (by omega)⟩
  | n + 1 => by
    by_cases h : Bq l p n = true
    · exact .inr ⟨n, by rw [lD, if_pos h], by omega, h, fun j h1 h2 => absurd h2 (by omega)⟩
    · have e : lD l p (n + 1) = lD l p n := by rw [lD, if_neg h]
      rw [e]
      rcases Cm l p n with ⟨h1, h2⟩ | ⟨i, h1, h2, h3, h4⟩
      · exact .inl ⟨h1, fun i hi => (show i < n ∨ i = n from by omega).elim (h2 i) (fun c => c ▸ h)⟩
      · exact .inr ⟨i, h1, by omega, h3, fun j h5 h6 => (show j < n ∨ j = n from by omega).elim (h4 j h5) (fun c => c ▸ h)⟩
theorem Af (l p : List Int) : ∀ n i, (jG l p n i = -1 ∧ ∀ j, i ≤ j → j < i + n → ¬ Bq l p j = true) ∨ ∃ k, jG l p n i = (k : Nat) ∧ i ≤ k ∧ k < i + n ∧ Bq l p k = true ∧ ∀ j, i ≤ j → j < k → ¬ Bq l p j = true
  | 0, i => .inl ⟨rfl, fun j h1 h2 => absurd h2 (by omega)⟩
  | n + 1, i => by
    by_cases h : Bq l p i = true
    · exact .inr ⟨i, by rw [jG, if_pos h], by omega, by omega, h, fun j h1 h2 => absurd h2 (by omega)⟩
    · have e : jG l p (n + 1) i = jG l p n (i + 1) := by rw [jG, if_neg h]
      rw [e]
      rcases Af l p n (i + 1) with ⟨h1, h2⟩ | ⟨k, h1, h2, h3, h4, h5⟩
      · exact .inl ⟨h1, fun j h3 h4 => (show i + 1 ≤ j ∨ j = i from by omega).elim (fun c => h2 j c (by omega)) (fun c => c ▸ h)⟩
      · exact .inr ⟨k, h1, by omega, by omega, h4, fun j h6 h7 => (show i + 1 ≤ j ∨ j = i from by omega).elim (fun c => h5 j c h7) (fun c => c ▸ h)⟩
theorem Iq (l p : List Int) (f : Int) : (jO l p f true = -1 ∧ ∀ i : Nat, (i : Int) ≤ f → ¬ Bq l p i = true) ∨ ∃ i : Nat, jO l p f true = i ∧ (i : Int) ≤ f ∧ Bq l p i = true ∧ ∀ j : Nat, i < j → (j : Int) ≤ f → ¬ Bq l p j = true := by
  have hm : ∀ i : Nat, Bq l p i = true → (i : Int) ≤ mg l p := fun i h => by have := (Du.1 h).1; unfold mg; omega
  have e : jO l p f true = lD l p ((min f (mg l p)) + 1).toNat := by unfold jO; rw [if_pos rfl]
  rw [e]
  rcases Cm l p ((min f (mg l p)) + 1).toNat with ⟨h1, h2⟩ | ⟨i, h1, h2, h3, h4⟩
  · exact .inl ⟨h1, fun i hi ha => h2 i (by have := hm i ha; omega) ha⟩
  · exact .inr ⟨i, h1, by omega, h3, fun j h5 h6 ha => h4 j h5 (by have := hm j ha; omega) ha⟩
theorem FI (l p : List Int) (f : Int) : (jO l p f false = -1 ∧ ∀ i : Nat, f ≤ (i : Int) → ¬ Bq l p i = true) ∨ ∃ i : Nat, jO l p f false = i ∧ f ≤ (i : Int) ∧ Bq l p i = true ∧ ∀ j : Nat, f ≤ (j : Int) → j < i → ¬ Bq l p j = true := by
  have hm : ∀ i : Nat, Bq l p i = true → (i : Int) ≤ mg l p := fun i h => by have := (Du.1 h).1; unfold mg; omega
  have e : jO l p f false = jG l p (mg l p - max f 0 + 1).toNat (max f 0).toNat := by unfold jO; rw [if_neg (by decide)]
  rw [e]
  rcases Af l p (mg l p - max f 0 + 1).toNat (max f 0).toNat with ⟨h1, h2⟩ | ⟨k, h1, h2, h3, h4, h5⟩
  · exact .inl ⟨h1, fun i hi ha => h2 i (by omega) (by have := hm i ha; omega) ha⟩
  · exact .inr ⟨k, h1, by omega, h4, fun j h6 h7 ha => h5 j (by omega) h7 ha⟩
def findAt (ls : List (List Int)) (place at_ : Int) (p : List Int) (back : Bool) (i : Int) : Int × Int × Bool :=
  if back then yK ls place at_ p (i + 1).toNat else findF ls place at_ p ((ls.length : Int) - i).toNat i.toNat
theorem MZ {ls : List (List Int)} {place at_ i : Int} {p : List Int} {back : Bool} (h0 : 0 ≤ i) (h1 : i < ls.length) (h : 0 ≤ qQ ls place at_ p back i.toNat) : findAt ls place at_ p back i = (i, qQ ls place at_ p back i.toNat, true) := by
  obtain ⟨n, rfl⟩ := Int.eq_ofNat_of_zero_le h0
  rw [Int.toNat_natCast] at *
  cases back with
  | true => unfold findAt; rw [if_pos rfl, show ((n : Int) + 1).toNat = n + 1 from by omega, yK, if_pos h]
  | false => unfold findAt; rw [if_neg (by decide), Int.toNat_natCast, show ((ls.length : Int) - (n : Int)).toNat = ((ls.length : Int) - (n : Int)).toNat - 1 + 1 from by omega, findF, if_pos h]
theorem vH {ls : List (List Int)} {place at_ i : Int} {p : List Int} {back : Bool} (h0 : 0 ≤ i) (h1 : i < ls.length) (h : ¬ 0 ≤ qQ ls place at_ p back i.toNat) : findAt ls place at_ p back i = findAt ls place at_ p back (i + if back then -1 else 1) := by
  obtain ⟨n, rfl⟩ := Int.eq_ofNat_of_zero_le h0
  rw [Int.toNat_natCast] at *
  cases back with
  | true => unfold findAt; rw [if_pos rfl, if_pos rfl, if_pos rfl, show ((n : Int) + 1).toNat = n + 1 from by omega, yK, if_neg h, show ((n : Int) + -1 + 1).toNat = n from by omega]
  | false =>
    unfold findAt
    rw [if_neg (by decide), if_neg (by decide), if_neg (by decide), Int.toNat_natCast, show ((ls.length : Int) - (n : Int)).toNat = ((ls.length : Int) - ((n : Int) + 1)).toNat + 1 from by omega, findF, if_neg h, show ((n : Int) + 1).toNat = n + 1 from by omega]
theorem EU {ls : List (List Int)} {place at_ i : Int} {p : List Int} {back : Bool} (h : ¬ (0 ≤ i ∧ i < ls.length)) (h1 : back = true → i < ls.length) (h2 : ¬ back = true → 0 ≤ i) : findAt ls place at_ p back i = (0, 0, false) := by
  cases back with
  | true => have := h1 rfl; unfold findAt; rw [if_pos rfl, show (i + 1).toNat = 0 from by omega]; rfl
  | false => have := h2 (by decide); unfold findAt; rw [if_neg (by decide), show ((ls.length : Int) - i).toNat = 0 from by omega]; rfl
theorem xI {ls : List (List Int)} {place at_ : Int} {p : List Int} {i : Nat} {back : Bool} (hb : back = true) (h : (i : Int) = place) (ha : at_ < 0) : ¬ 0 ≤ qQ ls place at_ p back i := by
  subst hb
  unfold qQ; rw [if_pos h]
  rcases Iq (ls.getD i []) p at_ with ⟨h1, _⟩ | ⟨k, h1, h2, _⟩
  · rw [h1]; omega
  · omega
theorem xJ {ls : List (List Int)} {place at_ : Int} {p : List Int} {i : Nat} {back : Bool} (hb : back = false) (h : (i : Int) = place) (ha : ((ls.getD i []).length : Int) < at_) : ¬ 0 ≤ qQ ls place at_ p back i := by
  subst hb
  unfold qQ; rw [if_pos h]
  rcases FI (ls.getD i []) p at_ with ⟨h1, _⟩ | ⟨k, h1, h2, h3, _⟩
  · rw [h1]; omega
  · have := (Du.1 h3).1; omega
end Go.Proofs.YtddekefihgejoaaGreatDoor
end
section
namespace Go.Proofs.YtddekefihgejoaaGreatDoor
open Go.RowKit Go.Lib
section
variable {P : Program} {N : Sh} {Q : Exit → Act → World → Prop} {L : List (Nat × Value)} {w : World}
theorem NP.noGoto (h : NP Q) : NP (Exit.noGoto Q) := fun c a w => h c a w
theorem Tq {c : Code} (h : WC P N c (Exit.noGoto Q) L w) (hr : N.ro = none := by rfl) : WC P N (.scope c) Q L w := fun np a ha => by
  have h1 := h np.noGoto a ha
  rw [hr] at h1 ⊢
  exact wpIn_wide.2 (wp_scope_straight (wpIn_wide.1 h1))
theorem Tt {l : Nat} (h : WQ N Q .normal L w) : WC P N (.label l) Q L w := fun np a ha => wpIn_label (h np a ha)
theorem lK (h : WQ N Q .ret L w) : WQ N (Exit.noGoto Q) .ret L w := fun np a ha => h (fun c a w => np c a w) a ha
end
def sb (s : ByteArray) (i : Nat) : Int := ((s.data.toList.getD i 0).toNat : Nat)
section
variable {P : Program} {L : List (Nat × Value)} {w w0 : World} {ty : TypeId} {x y : Operand} {F : HP}
def ach (s : ByteArray) (k : Nat) : Value := if k < s.size then .tuple #[.bool true, .int .i64 k, .int .i32 (sb s k)] else .tuple #[.bool false]
end
end Go.Proofs.YtddekefihgejoaaGreatDoor
end
