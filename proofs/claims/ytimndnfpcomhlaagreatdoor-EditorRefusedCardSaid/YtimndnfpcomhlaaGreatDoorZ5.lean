import Derived.Test.YtimndnfpcomhlaaGreatDoorZ4
import Derived.Lib.RuneBytes
import Derived.Test.YtimndnfpcomhlaaGreatDoorZ3
import Derived.Laws.BitsLemmas
import GoSem.PinnedTables
import Derived.Test.YtimndnfpcomhlaaGreatDoorProg
set_option linter.unusedSimpArgs false
set_option linter.unusedVariables false
/- Texts of mine, joined, their names in short: UtfM Bits Utf ELaidU CmdIn Equal Slices Buf. -/
section
namespace Go.Proofs.YtimndnfpcomhlaaGreatDoor

def kR (x : Int) : Nat := if x < 128 then 1 else if 194 ≤ x ∧ x ≤ 223 then 2 else if 224 ≤ x ∧ x ≤ 239 then 3 else if 240 ≤ x ∧ x ≤ 244 then 4 else 0
def Jf (x : Int) : Int := if x = 224 then 160 else if x = 240 then 144 else 128
def Ar (x : Int) : Int := if x = 237 then 159 else if x = 244 then 143 else 191
def yC (b : List Int) (j : Nat) : Bool := j == 0 || (decide (128 ≤ b.getD j 0 ∧ b.getD j 0 ≤ 191) && (j != 1 || decide (Jf (b.getD 0 0) ≤ b.getD 1 0 ∧ b.getD 1 0 ≤ Ar (b.getD 0 0))))
def uY (b : List Int) : Nat → Bool
  | 0 => true
  | k + 1 => uY b k && yC b k
def oQ (b : List Int) : Nat × Nat := if b = [] then (0, 0) else if kR (b.getD 0 0) = 0 then (0, 0) else if uY b (min (kR (b.getD 0 0)) b.length) then (min (kR (b.getD 0 0)) b.length, kR (b.getD 0 0)) else (0, kR (b.getD 0 0))
def SK (b : List Int) (n : Nat) : Int :=
  if n = 1 then b.getD 0 0 else if n = 2 then b.getD 0 0 % 32 * 64 + b.getD 1 0 % 64 else if n = 3 then b.getD 0 0 % 16 * 4096 + b.getD 1 0 % 64 * 64 + b.getD 2 0 % 64
  else b.getD 0 0 % 8 * 262144 + b.getD 1 0 % 64 * 4096 + b.getD 2 0 % 64 * 64 + b.getD 3 0 % 64
def wW (b : List Int) : Bool := decide ((oQ b).1 = (oQ b).2 ∧ 0 < (oQ b).2)
def qY (b : List Int) : Int × Nat := if wW b then (SK b (oQ b).2, (oQ b).2) else (65533, 1)
def aay (b : List Int) : Bool := decide (0 < (oQ b).1 ∧ (oQ b).1 < (oQ b).2)
def y8 : Nat → List Int → List Int
  | 0, _ => []
  | f + 1, b => if b = [] then [] else (qY b).1 :: y8 f (b.drop (qY b).2)
def xQ (b : List Int) : List Int := y8 b.length b
def Zd : Nat → List Int → List Int × List Int
  | 0, b => ([], b)
  | f + 1, b => if b = [] ∨ aay b = true then ([], b) else ((qY b).1 :: (Zd f (b.drop (qY b).2)).1, (Zd f (b.drop (qY b).2)).2)
def adk (b : List Int) : List Int × List Int := Zd b.length b
def rY (l : List Int) : List Int := l.flatMap Lib.encodeRuneZ
def Jg (b : List Int) : Prop := ∀ x ∈ b, 0 ≤ x ∧ x < 256
theorem MX (x : Int) : kR x ≤ 4 := by unfold kR; repeat' split <;> try omega
theorem GN {b : List Int} {k m : Nat} (h : uY b k = true) (hm : m ≤ k) : uY b m = true := by
  induction k with
  | zero => obtain rfl : m = 0 := by omega
            exact h
  | succ k ih =>
    simp only [uY, Bool.and_eq_true] at h
    by_cases e : m = k + 1
    · subst e; simp only [uY, Bool.and_eq_true]; exact h
    · exact ih h.1 (by omega)
theorem EF {b : List Int} (hb : b ≠ []) : (oQ b).2 = kR (b.getD 0 0) := by
  unfold oQ; rw [if_neg hb]; split
  · rename_i h; rw [h]
  · split <;> rfl
theorem DR {b : List Int} : (oQ b).1 ≤ b.length ∧ (oQ b).1 ≤ (oQ b).2 := by
  unfold oQ; split
  · exact ⟨Nat.zero_le _, Nat.le_refl _⟩
  · split
    · exact ⟨Nat.zero_le _, Nat.le_refl _⟩
    · split
      · exact ⟨Nat.min_le_right _ _, Nat.min_le_left _ _⟩
      · exact ⟨Nat.zero_le _, Nat.zero_le _⟩
theorem CZ {b : List Int} (h : wW b = true) : 1 ≤ (oQ b).2 ∧ (oQ b).2 ≤ b.length ∧ (oQ b).2 ≤ 4 ∧ b ≠ [] := by
  unfold wW at h; simp only [decide_eq_true_eq] at h
  have h1 := DR (b := b)
  have hb : b ≠ [] := by rintro rfl; exact absurd h.2 (by decide)
  refine ⟨h.2, by omega, ?_, hb⟩
  rw [EF hb]; exact MX _
theorem DT {b : List Int} (hb : b ≠ []) : 1 ≤ (qY b).2 ∧ (qY b).2 ≤ b.length ∧ (qY b).2 ≤ 4 := by
  have := List.length_pos_iff.2 hb
  unfold qY; split
  · rename_i h; have := CZ h; exact ⟨this.1, this.2.1, this.2.2.1⟩
  · exact ⟨Nat.le_refl _, this, by decide⟩
theorem MZ : ∀ (f g : Nat) (b : List Int), b.length ≤ f → b.length ≤ g → y8 f b = y8 g b := by
  intro f
  induction f with
  | zero => intro g b h1 h2; obtain rfl : b = [] := List.eq_nil_of_length_eq_zero (by omega); cases g <;> simp [y8]
  | succ f ih =>
    intro g b h1 h2
    cases g with
    | zero => obtain rfl : b = [] := List.eq_nil_of_length_eq_zero (by omega); simp [y8]
    | succ g =>
      unfold y8
      by_cases hb : b = []
      · simp [hb]
      · rw [if_neg hb, if_neg hb]
        have := DT hb
        rw [ih g (b.drop (qY b).2) (by simp; omega) (by simp; omega)]
theorem GR : xQ [] = [] := rfl
theorem E8 {b : List Int} (hb : b ≠ []) : xQ b = (qY b).1 :: xQ (b.drop (qY b).2) := by
  have h := DT hb
  have hl := List.length_pos_iff.2 hb
  unfold xQ
  obtain ⟨n, hn⟩ : ∃ n, b.length = n + 1 := ⟨b.length - 1, by omega⟩
  rw [hn, show y8 (n + 1) b = if b = [] then [] else (qY b).1 :: y8 n (b.drop (qY b).2) from rfl, if_neg hb, MZ n (b.drop (qY b).2).length _ (by simp; omega) (Nat.le_refl _)]
end Go.Proofs.YtimndnfpcomhlaaGreatDoor
end
section
namespace Go.Proofs.YtimndnfpcomhlaaGreatDoor
open Go.RowKit
section
variable {P : Program} {L : List (Nat × Value)} {w : World} {ty t t' : TypeId} {x y : Operand} {k k2 : IntKind} {m n : Int}
theorem QO (o : BinOp) {r : Value} (ho : o = .shl ∨ o = .shr) (hx : ev L x = some (.int k m)) (hy : ev L y = some (.int k2 n)) (h : (Op.shift o k m k2 n).run P w = .ok r w) : Val P L (.binOp o t x y t') ty w r w := fun ρ hρ _ _ _ _ => by
  simp only [execOp, hρ _ _ hx, hρ _ _ hy]
  have h1 : (eqGuard o t x y (.int k m) (.int k2 n)).run P w = .ok () w := by rcases ho with rfl | rfl <;> rfl
  have h2 : (binOp o t (.int k m) (.int k2 n)).run P w = .ok r w := by
    rcases ho with rfl | rfl <;> simpa [binOp] using h
  simp [h1, h2]
theorem UG (i : Nat) (hx : ev L x = some (.int k m)) (hy : ev L y = some (.int k2 (i : Int))) (hi : i ≤ k.bits) : Val P L (.binOp .shl t x y t') ty w (.int k (k.wrap (m * 2 ^ i))) w :=
  QO .shl (.inl rfl) hx hy (by unfold Op.shift; rw [if_neg (by omega), show min (i : Int).toNat k.bits = i from by omega]; rfl)
theorem JQ (i : Nat) (c : Int) (hc : (2 : Int) ^ i = c) (hi : i ≤ k.bits) (hx : ev L x = some (.int k m)) (hy : ev L y = some (.int k2 (i : Int))) (hb : k.wrap (m * c) = m * c) : Val P L (.binOp .shl t x y t') ty w (.int k (m * c)) w := by
  have := UG (P := P) (w := w) (ty := ty) (t := t) (t' := t') i hx hy hi
  rwa [hc, hb] at this
theorem UH (i : Nat) (hx : ev L x = some (.int k m)) (hy : ev L y = some (.int k2 (i : Int))) (hi : i ≤ k.bits) : Val P L (.binOp .shr t x y t') ty w (.int k (m / 2 ^ i)) w :=
  QO .shr (.inr rfl) hx hy (by unfold Op.shift; rw [if_neg (by omega), show min (i : Int).toNat k.bits = i from by omega]; show _ = _; rw [← Int.fdiv_eq_ediv_of_nonneg _ (by exact Int.le_of_lt (Int.pow_pos (by decide)))]; rfl)
theorem wX (i : Nat) (c : Int) (hc : (2 : Int) ^ i = c) (hi : i ≤ k.bits) (hx : ev L x = some (.int k m)) (hy : ev L y = some (.int k2 (i : Int))) : Val P L (.binOp .shr t x y t') ty w (.int k (m / c)) w := by
  have := UH (P := P) (w := w) (ty := ty) (t := t) (t' := t') i hx hy hi
  rwa [hc] at this
theorem Bv (o : BinOp) (hx : ev L x = some (.int k m)) (hy : ev L y = some (.int k n)) (ho : o = .and ∨ o = .or ∨ o = .xor ∨ o = .andNot) : Val P L (.binOp o t x y t') ty w (.int k (bits o k m n)) w :=
  Y9 o hx hy ho (by rcases ho with rfl | rfl | rfl | rfl <;> rfl)
theorem jf (i : Nat) (c q : Int) (hc : (2 : Int) ^ i = q) (hq : q - 1 = c) (hi : i ≤ 8) (hx : ev L x = some (.int .u8 m)) (hy : ev L y = some (.int .u8 c)) (hm : 0 ≤ m ∧ m < 256) : Val P L (.binOp .and t x y t') ty w (.int .u8 (m % q)) w := by
  have := Bv (P := P) (w := w) (ty := ty) (t := t) (t' := t') .and hx hy (.inl rfl)
  rwa [← hq, ← hc, bits_mask .u8 8 (by decide) wraps_u8 i hi m hm.1 hm.2, hc] at this
theorem lS (i : Nat) (q : Int) (hc : (2 : Int) ^ i = q) (hx : ev L x = some (.int .u8 m)) (hy : ev L y = some (.int .u8 n)) (h : 0 ≤ m ∧ m % q = 0 ∧ m < 256 ∧ 0 ≤ n ∧ n < q ∧ n < 256) : Val P L (.binOp .or t x y t') ty w (.int .u8 (m + n)) w := by
  have := Bv (P := P) (w := w) (ty := ty) (t := t) (t' := t') .or hx hy (.inr (.inl rfl))
  obtain ⟨h1, h2, h3, h4, h5, h6⟩ := h
  rwa [bits_join .u8 8 (by decide) wraps_u8 i m n h1 (by rw [hc]; exact h2) h3 h4 (by rw [hc]; exact h5) h6] at this
theorem yD (i : Nat) (q : Int) (hc : (2 : Int) ^ i = q) (hx : ev L x = some (.int .i32 m)) (hy : ev L y = some (.int .i32 n)) (h : 0 ≤ m ∧ m % q = 0 ∧ m < 2147483648 ∧ 0 ≤ n ∧ n < q ∧ n < 2147483648) : Val P L (.binOp .or t x y t') ty w (.int .i32 (m + n)) w := by
  have := Bv (P := P) (w := w) (ty := ty) (t := t) (t' := t') .or hx hy (.inr (.inl rfl))
  obtain ⟨h1, h2, h3, h4, h5, h6⟩ := h
  rwa [bits_join .i32 31 (by decide) wraps_i32 i m n h1 (by rw [hc]; exact h2) h3 h4 (by rw [hc]; exact h5) h6] at this
theorem mY {n : Int} (h : -2147483648 ≤ n ∧ n < 2147483648) : IntKind.i32.wrap n = n := by rw [IntKind.wrap_i32]; omega
theorem XD {n : Int} (h : -9223372036854775808 ≤ n ∧ n < 9223372036854775808) : IntKind.i64.wrap n = n := by rw [IntKind.wrap_i64]; omega
theorem GU {src dst : TypeId} (hx : ev L x = some (.int k m)) (hs : (P.underlying src).isSome = true) (hd : P.underlying dst = some (.int .u32)) : Val P L (.convert src dst x) ty w (.int .u32 (m % 4294967296)) w := fun ρ hρ _ _ _ _ => by
  obtain ⟨ds, hs'⟩ := Option.isSome_iff_exists.1 hs
  simp only [execOp, hρ _ _ hx]
  simp [convert, run_underlying hs', run_underlying hd, Conv.intToInt, IntKind.wrap_u32]
theorem iY {src dst : TypeId} (hx : ev L x = some (.int k m)) (hs : (P.underlying src).isSome = true) (hd : P.underlying dst = some (.int .u8)) : Val P L (.convert src dst x) ty w (.int .u8 (m % 256)) w := fun ρ hρ _ _ _ _ => by
  obtain ⟨ds, hs'⟩ := Option.isSome_iff_exists.1 hs
  simp only [execOp, hρ _ _ hx]
  simp [convert, run_underlying hs', run_underlying hd, Conv.intToInt, IntKind.wrap_u8]
theorem mM.atC (j : Nat) {b o n c : Nat} {l : List Int} (h : mM w k (.slice (some ⟨b, o, none⟩) n c) l) (hj : j < l.length) : w.cell? ⟨b, o + j * 1, none⟩ = some (.int k (l.getD j 0)) := by
  have := h.GI (i := j) hj
  rwa [Int.toNat_natCast] at this
end
end Go.Proofs.YtimndnfpcomhlaaGreatDoor
end
section
namespace Go.Proofs.YtimndnfpcomhlaaGreatDoor
open Go.RowKit
open _root_.Go.Proofs.Tryz
def firstM (x : Nat) : Int := ((Go.Pinned.utf8FirstZ.getD x 0 : Nat) : Int)
def SL : List (Int × Int) := [(128, 191), (160, 191), (128, 159), (144, 191), (128, 143)]
theorem SN : ((List.range 256).all fun x => let f := firstM x; let n := kR (x : Int)
    decide ((f = 240 ∧ x < 128) ∨ (f = 241 ∧ n = 0 ∧ 128 ≤ x) ∨ (0 ≤ f ∧ f < 240 ∧ f % 8 = (n : Int) ∧ 2 ≤ n ∧ 128 ≤ x ∧ f / 16 < 5 ∧ SL.getD (f / 16).toNat (0, 0) = (Jf x, Ar x)))) = true := by decide +kernel
theorem UJ {x : Int} (h : 0 ≤ x ∧ x < 256) : (firstM x.toNat = 240 ∧ x < 128) ∨ (firstM x.toNat = 241 ∧ kR x = 0 ∧ 128 ≤ x) ∨
    (0 ≤ firstM x.toNat ∧ firstM x.toNat < 240 ∧ firstM x.toNat % 8 = (kR x : Int) ∧ 2 ≤ kR x ∧ 128 ≤ x ∧ firstM x.toNat / 16 < 5 ∧ SL.getD (firstM x.toNat / 16).toNat (0, 0) = (Jf x, Ar x)) := by
  have := List.all_eq_true.1 SN x.toNat (List.mem_range.2 (by omega))
  simp only [decide_eq_true_eq, Int.toNat_of_nonneg h.1] at this
  rcases this with h1 | h1 | h1
  · exact .inl ⟨h1.1, by omega⟩
  · exact .inr (.inl ⟨h1.1, h1.2.1, by omega⟩)
  · exact .inr (.inr ⟨h1.1, h1.2.1, h1.2.2.1, h1.2.2.2.1, by omega, h1.2.2.2.2.2.1, h1.2.2.2.2.2.2⟩)
structure DU (w : World) : Prop where
  first : ∀ x : Nat, x < 256 → w.cell? ⟨0, x, none⟩ = some (.int .u8 (firstM x))
  acc : ∀ i : Nat, i < 5 → w.cell? ⟨1, i * 2, none⟩ = some (.int .u8 (SL.getD i (0, 0)).1) ∧ w.cell? ⟨1, i * 2 + 1, none⟩ = some (.int .u8 (SL.getD i (0, 0)).2)
theorem UK : ((List.range 256).all fun x => decide (bits .or .i32 (bits .andNot .i32 (x : Int) (IntKind.i32.wrap (240 * 2 ^ 31) / 2 ^ 31)) (bits .and .i32 65533 (IntKind.i32.wrap (240 * 2 ^ 31) / 2 ^ 31)) = (x : Int) ∧
    bits .or .i32 (bits .andNot .i32 (x : Int) (IntKind.i32.wrap (241 * 2 ^ 31) / 2 ^ 31)) (bits .and .i32 65533 (IntKind.i32.wrap (241 * 2 ^ 31) / 2 ^ 31)) = 65533)) = true := by decide +kernel
theorem UL {x : Int} (h : 0 ≤ x ∧ x < 256) : bits .or .i32 (bits .andNot .i32 x (IntKind.i32.wrap (240 * 2 ^ 31) / 2 ^ 31)) (bits .and .i32 65533 (IntKind.i32.wrap (240 * 2 ^ 31) / 2 ^ 31)) = x ∧
    bits .or .i32 (bits .andNot .i32 x (IntKind.i32.wrap (241 * 2 ^ 31) / 2 ^ 31)) (bits .and .i32 65533 (IntKind.i32.wrap (241 * 2 ^ 31) / 2 ^ 31)) = 65533 := by
  have := List.all_eq_true.1 UK x.toNat (List.mem_range.2 (by omega))
  simpa only [decide_eq_true_eq, Int.toNat_of_nonneg h.1] using this
section
variable {b : List Int}
theorem EG (h : Jg b) (j : Nat) : 0 ≤ b.getD j 0 ∧ b.getD j 0 < 256 := by
  rw [List.getD_eq_getElem?_getD]
  by_cases hj : j < b.length
  · rw [List.getElem?_eq_getElem hj]; exact h _ (List.getElem_mem hj)
  · rw [List.getElem?_eq_none (by omega)]; decide
theorem SQ {j : Nat} (hj : j < kR (b.getD 0 0)) (h : yC b j = false) (hl : j < b.length) : oQ b = (0, kR (b.getD 0 0)) := by
  have hb : b ≠ [] := by rintro rfl; simp at hl
  unfold oQ
  rw [if_neg hb, if_neg (show ¬ kR (b.getD 0 0) = 0 by omega), if_neg]
  intro hg
  have := GN hg (m := j + 1) (by omega)
  simp only [uY, h, Bool.and_false] at this
  cases this
theorem UM (hb : b ≠ []) (hn : 0 < kR (b.getD 0 0)) (h : uY b (min (kR (b.getD 0 0)) b.length) = true) : oQ b = (min (kR (b.getD 0 0)) b.length, kR (b.getD 0 0)) := by
  unfold oQ
  rw [if_neg hb, if_neg (show ¬ kR (b.getD 0 0) = 0 by omega), if_pos h]
theorem PE (h : kR (b.getD 0 0) = 0) : oQ b = (0, 0) := by
  unfold oQ
  by_cases hb : b = []
  · rw [if_pos hb]
  · rw [if_neg hb, if_pos h]
theorem SS (h : kR (b.getD 0 0) = 0) : qY b = (65533, 1) := by
  unfold qY wW; rw [PE h]; rfl
theorem wY {j : Nat} (hb : b ≠ []) (hj : j < kR (b.getD 0 0)) (h : yC b j = false) : qY b = (65533, 1) := by
  by_cases hl : j < b.length
  · unfold qY wW; rw [SQ hj h hl]; rw [if_neg]; simp only [decide_eq_true_eq]; omega
  · unfold qY wW
    have h1 := DR (b := b)
    rw [EF hb] at h1 ⊢
    rw [if_neg]
    simp only [decide_eq_true_eq]; omega
theorem UN {j : Nat} (h : b.length ≤ j) (hj : 0 < j) : yC b j = false := by
  unfold yC
  rw [List.getD_eq_getElem?_getD, List.getElem?_eq_none h]
  simp
  omega
theorem Bz {n : Nat} (hb : b ≠ []) (hn : kR (b.getD 0 0) = n) (h1 : 1 ≤ n) (hl : n ≤ b.length) (h : uY b n = true) : qY b = (SK b n, n) := by
  have := UM hb (by omega) (by rw [hn, Nat.min_eq_left hl]; exact h)
  rw [hn, Nat.min_eq_left hl] at this
  unfold qY wW; rw [this]; rw [if_pos]; simp [show 0 < n from h1]
theorem GV (hb : b ≠ []) (h : b.getD 0 0 < 128) : qY b = (b.getD 0 0, 1) := by
  have hl := List.length_pos_iff.2 hb
  rw [Bz (n := 1) hb (by unfold kR; rw [if_pos h]) (Nat.le_refl _) hl (by simp [uY, yC])]
  rfl
theorem ok1 (h1 : Jf (b.getD 0 0) ≤ b.getD 1 0) (h2 : b.getD 1 0 ≤ Ar (b.getD 0 0)) : yC b 1 = true := by
  have : 128 ≤ b.getD 1 0 ∧ b.getD 1 0 ≤ 191 := by
    unfold Jf at h1; unfold Ar at h2
    constructor
    · split at h1 <;> (try split at h1) <;> omega
    · split at h2 <;> (try split at h2) <;> omega
  unfold yC
  simp only [Bool.or_eq_true, Bool.and_eq_true, decide_eq_true_eq]
  exact .inr ⟨this, .inr ⟨h1, h2⟩⟩
theorem aaz (h : b.getD 1 0 < Jf (b.getD 0 0) ∨ Ar (b.getD 0 0) < b.getD 1 0) : yC b 1 = false := by
  unfold yC
  rw [← Bool.not_eq_true]
  simp only [Bool.or_eq_true, Bool.and_eq_true, decide_eq_true_eq]
  rintro (h1 | ⟨h1, h2 | h2⟩)
  · simp at h1
  · simp at h2
  · omega
theorem okj {j : Nat} (hj : 2 ≤ j) (h : 128 ≤ b.getD j 0 ∧ b.getD j 0 ≤ 191) : yC b j = true := by
  unfold yC
  simp only [Bool.or_eq_true, Bool.and_eq_true, decide_eq_true_eq]
  exact .inr ⟨h, .inl (by simp; omega)⟩
theorem XE {j : Nat} (hj : 1 ≤ j) (h : b.getD j 0 < 128 ∨ 191 < b.getD j 0) : yC b j = false := by
  unfold yC
  rw [← Bool.not_eq_true]
  simp only [Bool.or_eq_true, Bool.and_eq_true, decide_eq_true_eq]
  rintro (h1 | ⟨h1, h2⟩)
  · simp at h1; omega
  · omega
theorem ok0 : yC b 0 = true := rfl
end
section
variable {w0 w : World} {F : HP} {v : Value} {b : List Int}
theorem UO (H : V w0 w F) (hT : DU w0) (hv : kP w0 F .u8 v b) (hb : Jg b) (hne : b ≠ []) : iU prog 115 #[v] w fun v' w' => v' = .tuple #[.int .i32 (qY b).1, .int .i64 ((qY b).2 : Nat)] ∧ V w0 w' F := by
  have hl := List.length_pos_iff.2 hne
  have y0 := EG hb 0
  have y1 := EG hb 1
  have y2 := EG hb 2
  have y3 := EG hb 3
  have hf := UJ y0
  have hfb : 0 ≤ firstM (b.getD 0 0).toNat ∧ firstM (b.getD 0 0).toNat < 256 := by
    rcases hf with h1 | h1 | h1
    · omega
    · omega
    · exact ⟨h1.1, Int.lt_trans h1.2.1 (by decide)⟩
  have hn4 := MX (b.getD 0 0)
  refine ji func115 ntmps115 ?_
  refine jg (lU O (gY O (bM O (aV (rX (hv _ (H)) bH O) (tJ O (bM O (aV (fJ O O) (iT (O7 O (fun h1 => ?_))))))))))
  (try simp only [aH] at h1)
  refine iq (bM O ?_)
  obtain ⟨bv, ov, cv, ev⟩ := mM.vS (hv _ (H)) (by omega)
  cases ev
  refine aV (gU bH jl O O (by omega)) (aV (jM (fK dn O) O (mM.atC 0 (hv _ (H)) (by omega))) (gY O (bM O (aV (sD underlying194 jl O O (by omega)) ?_))))
  refine aV (jM (fK dn O) O (by rw [show 0 + (b.getD 0 0).toNat * 1 = (b.getD 0 0).toNat from by omega]; exact H.cell (hT.first _ (by omega)))) ?_
  refine tJ O (bM O (aV (Gv O O) (kK O (fun h2 => ?_) (fun h2 => ?_))))
  · (try simp only [aH] at h2)
    refine bM O ?_
    refine aV (kU O (by rw [underlying5]; rfl) fH (mY (by omega))) ?_
    refine aV (UG 31 O O (by decide)) (aV (UH 31 O O (by decide)) (gY O (bM O (aV (gU bH jl O O (by omega)) (aV (jM (fK dn O) O (mM.atC 0 (hv _ (H)) (by omega))) ?_)))))
    refine aV (kU O (by rw [underlying5]; rfl) fH (mY (by omega))) ?_
    refine cZ O ?_
    refine aV (Bv .andNot O O (by simp)) ?_
    refine cZ O ?_
    refine aV (Bv .and O O (by simp)) ?_
    refine aV (Bv .or O O (by simp)) ?_
    refine lU O (iW O (aK (DL lH O O ?_)))
    rcases hf with ⟨h1, h2⟩ | ⟨h1, h2⟩ | h1
    · rw [h1, GV hne h2]
      exact ⟨by rw [(UL y0).1]; rfl, H⟩
    · rw [h1, SS h2.1]
      exact ⟨by rw [(UL y0).2]; rfl, H⟩
    · exfalso; omega
  · (try simp only [aH] at h2)
    refine iq (aO ?_)
    have hf2 : 0 ≤ firstM (b.getD 0 0).toNat ∧ firstM (b.getD 0 0).toNat < 240 ∧ firstM (b.getD 0 0).toNat % 8 = (kR (b.getD 0 0) : Int) ∧ 2 ≤ kR (b.getD 0 0) ∧ 128 ≤ b.getD 0 0 ∧ firstM (b.getD 0 0).toNat / 16 < 5 ∧ SL.getD (firstM (b.getD 0 0).toNat / 16).toNat (0, 0) = (Jf (b.getD 0 0), Ar (b.getD 0 0)) := by
      rcases hf with h1 | h1 | h1
      · exfalso; have := h1.1; omega
      · exfalso; have := h1.1; omega
      · exact h1
    obtain ⟨q1, q2, q3, q4, q5, q6, q7⟩ := hf2
    have hacc := hT.acc (firstM (b.getD 0 0).toNat / 16).toNat (by omega)
    rw [q7] at hacc
    refine aC (cZ O (aV (jf 3 7 8 (by decide) (by decide) (by decide) O O (by omega)) ?_))
    refine aV (kU O (by rw [underlying5]; rfl) ay (XD (by omega))) ?_
    refine gY O (bM O (aV (wX 4 16 (by decide) (by decide) O O) (aV (sD underlying198 sizeOf197 O O (by omega)) ?_)))
    refine aV (yZ (cs := [.int .u8 (Jf (b.getD 0 0)), .int .u8 (Ar (b.getD 0 0))]) (by rw [underlying197]; rfl) (MP underlying197 O) sizeOf197 O O (SH (by rw [Nat.zero_add]; exact H.cell hacc.1) (by rw [Nat.zero_add]; exact H.cell hacc.2))) ?_
    refine jL (fE (l := [_, _]) H zeroValue197 O) ?_
    rintro _ w1 ⟨b1, rfl, H1⟩
    refine aI (dh 0 (l' := [_, _]) (us := [_, _]) H1 sizeOf197 O O O (aF (aF bK)) O O) ?_
    rintro _ w2 H2
    refine qj (bM O (cZ O (aV (fJ O O) (kK O (fun h3 => ?_) (fun h3 => ?_)))))
    · (try simp only [aH] at h3)
      refine jg (lU O (iW O (aK (DL lH O O ?_))))
      exact ⟨by rw [wY (j := b.length) hne (by omega) (UN (Nat.le_refl _) hl)]; rfl, H2.right⟩
    · (try simp only [aH] at h3)
      refine iq (bM O (aV (gU bH jl O O (by omega)) (aV (jM (fK dn O) O (mM.atC 1 (hv _ (H2.right)) (by omega))) (tJ O (bM O (bf 0 underlying197 O jl O (dQ dn O (H2).get.2 O (aV (fJ O O) (qC O (fun h4 => ?_) (fun h4 => ?_))))))))))
      · (try simp only [aH] at h4)
        refine dH (dH (dH (dH (pW O O (iT (EY (jg (lU O (iW O (aK (DL lH O O ?_)))))))))))
        exact ⟨by rw [wY (j := 1) hne (by omega) (aaz (by omega))]; rfl, H2.right⟩
      · (try simp only [aH] at h4)
        refine bU (bf 1 underlying197 O jl O (bU (dQ dn O (H2).get.2 O (bU (cZ O (bU (aV (fJ O O) (lV O O (kK O (fun h5 => ?_) (fun h5 => ?_))))))))))
        · (try simp only [aH] at h5)
          refine jg (lU O (iW O (aK (DL lH O O ?_))))
          exact ⟨by rw [wY (j := 1) hne (by omega) (aaz (by omega))]; rfl, H2.right⟩
        · (try simp only [aH] at h5)
          refine iq (aO (bM O (aV (BZ O O) (kK O (fun h6 => ?_) (fun h6 => ?_)))))
          · (try simp only [aH] at h6)
            refine bM O (aV (jf 5 31 32 (by decide) (by decide) (by decide) O O (by omega)) ?_)
            refine aV (kU O (by rw [underlying5]; rfl) fH (mY (by omega))) ?_
            refine aV (JQ 6 64 (by decide) (by decide) O O (mY (by omega))) (cZ O (aV (jf 6 63 64 (by decide) (by decide) (by decide) O O (by omega)) ?_))
            refine aV (kU O (by rw [underlying5]; rfl) fH (mY (by omega))) ?_
            refine aV (yD 6 64 (by decide) O O (by omega)) (lU O (iW O (aK (DL lH O O ?_))))
            exact ⟨by rw [Bz (n := 2) hne (by omega) (by decide) (by omega) (by simp only [uY, ok0, ok1 (b := b) (by omega) (by omega), Bool.and_true])]; rfl, H2.right⟩
          · (try simp only [aH] at h6)
            refine iq (bM O (aV (gU bH jl O O (by omega)) (aV (jM (fK dn O) O (mM.atC 2 (hv _ (H2.right)) (by omega))) (tJ O (bM O (aV (fJ O O) (qC O (fun h7 => ?_) (fun h7 => ?_))))))))
            · (try simp only [aH] at h7)
              refine dH (dH (pW O O (iT (EY (jg (lU O (iW O (aK (DL lH O O ?_)))))))))
              exact ⟨by rw [wY (j := 2) hne (by omega) (XE (by decide) (by omega))]; rfl, H2.right⟩
            · (try simp only [aH] at h7)
              refine bU (cZ O (bU (aV (fJ O O) (lV O O (kK O (fun h8 => ?_) (fun h8 => ?_))))))
              · (try simp only [aH] at h8)
                refine jg (lU O (iW O (aK (DL lH O O ?_))))
                exact ⟨by rw [wY (j := 2) hne (by omega) (XE (by decide) (by omega))]; rfl, H2.right⟩
              · (try simp only [aH] at h8)
                refine iq (aO (bM O (aV (BZ O O) (kK O (fun h9 => ?_) (fun h9 => ?_)))))
                · (try simp only [aH] at h9)
                  refine bM O (aV (jf 4 15 16 (by decide) (by decide) (by decide) O O (by omega)) ?_)
                  refine aV (kU O (by rw [underlying5]; rfl) fH (mY (by omega))) ?_
                  refine aV (JQ 12 4096 (by decide) (by decide) O O (mY (by omega))) (cZ O (aV (jf 6 63 64 (by decide) (by decide) (by decide) O O (by omega)) ?_))
                  refine aV (kU O (by rw [underlying5]; rfl) fH (mY (by omega))) ?_
                  refine aV (JQ 6 64 (by decide) (by decide) O O (mY (by omega))) (aV (yD 12 4096 (by decide) O O (by omega)) (cZ O (aV (jf 6 63 64 (by decide) (by decide) (by decide) O O (by omega)) ?_)))
                  refine aV (kU O (by rw [underlying5]; rfl) fH (mY (by omega))) ?_
                  refine aV (yD 6 64 (by decide) O O (by omega)) (lU O (iW O (aK (DL lH O O ?_))))
                  exact ⟨by rw [Bz (n := 3) hne (by omega) (by decide) (by omega) (by simp only [uY, ok0, ok1 (b := b) (by omega) (by omega), okj (b := b) (j := 2) (by decide) (by omega), Bool.and_true])]; rfl, H2.right⟩
                · (try simp only [aH] at h9)
                  refine iq (bM O (aV (gU bH jl O O (by omega)) (aV (jM (fK dn O) O (mM.atC 3 (hv _ (H2.right)) (by omega))) (tJ O (bM O (aV (fJ O O) (qC O (fun h10 => ?_) (fun h10 => ?_))))))))
                  · (try simp only [aH] at h10)
                    refine dH (dH (pW O O (iT (EY (jg (lU O (iW O (aK (DL lH O O ?_)))))))))
                    exact ⟨by rw [wY (j := 3) hne (by omega) (XE (by decide) (by omega))]; rfl, H2.right⟩
                  · (try simp only [aH] at h10)
                    refine bU (cZ O (bU (aV (fJ O O) (lV O O (kK O (fun h11 => ?_) (fun h11 => ?_))))))
                    · (try simp only [aH] at h11)
                      refine jg (lU O (iW O (aK (DL lH O O ?_))))
                      exact ⟨by rw [wY (j := 3) hne (by omega) (XE (by decide) (by omega))]; rfl, H2.right⟩
                    · (try simp only [aH] at h11)
                      refine iq (bM O (aV (jf 3 7 8 (by decide) (by decide) (by decide) O O (by omega)) ?_))
                      refine aV (kU O (by rw [underlying5]; rfl) fH (mY (by omega))) ?_
                      refine aV (JQ 18 262144 (by decide) (by decide) O O (mY (by omega))) (cZ O (aV (jf 6 63 64 (by decide) (by decide) (by decide) O O (by omega)) ?_))
                      refine aV (kU O (by rw [underlying5]; rfl) fH (mY (by omega))) ?_
                      refine aV (JQ 12 4096 (by decide) (by decide) O O (mY (by omega))) (aV (yD 18 262144 (by decide) O O (by omega)) (cZ O (aV (jf 6 63 64 (by decide) (by decide) (by decide) O O (by omega)) ?_)))
                      refine aV (kU O (by rw [underlying5]; rfl) fH (mY (by omega))) ?_
                      refine aV (JQ 6 64 (by decide) (by decide) O O (mY (by omega))) (aV (yD 12 4096 (by decide) O O (by omega)) (cZ O (aV (jf 6 63 64 (by decide) (by decide) (by decide) O O (by omega)) ?_)))
                      refine aV (kU O (by rw [underlying5]; rfl) fH (mY (by omega))) ?_
                      refine aV (yD 6 64 (by decide) O O (by omega)) (lU O (iW O (DL lH O O ?_)))
                      exact ⟨by rw [Bz (n := 4) hne (by omega) (by decide) (by omega) (by simp only [uY, ok0, ok1 (b := b) (by omega) (by omega), okj (b := b) (j := 2) (by decide) (by omega), okj (b := b) (j := 3) (by decide) (by omega), Bool.and_true])]; rfl, H2.right⟩
end
end Go.Proofs.YtimndnfpcomhlaaGreatDoor
end
section
set_option maxRecDepth 100000
namespace Go.Proofs.YtimndnfpcomhlaaGreatDoor
open Go.ChangeShapes Go.WideShapes Go.ChangeAt Go.RowKit
theorem Ze : Tryz.prog.globalNamed "unicode/utf8.first" = some 0 := by kernel_rfl
theorem abI : Tryz.prog.globalNamed "unicode/utf8.acceptRanges" = some 1 := by kernel_rfl
theorem Zf : (Tryz.prog.globals[0]?).map (·.type) = some 194 := by kernel_rfl
theorem abJ : (Tryz.prog.globals[1]?).map (·.type) = some 198 := by kernel_rfl
def JR : List (Int × Int) := [(128, 191), (160, 191), (128, 159), (144, 191), (128, 143), (0, 0), (0, 0), (0, 0), (0, 0), (0, 0), (0, 0), (0, 0), (0, 0), (0, 0), (0, 0), (0, 0)]
def QS (x : Int × Int) : DataW Unit := .agg [.lit (.int .u8 x.1), .lit (.int .u8 x.2)]
def uZ (T : List (Int × Int)) : List Value := T.flatMap fun x => [.int .u8 x.1, .int .u8 x.2]
theorem JU (T : List (Int × Int)) (k : Nat) (h : k < T.length) : (uZ T).getD (k * 2) undef = .int .u8 (T.getD k (0, 0)).1 ∧ (uZ T).getD (k * 2 + 1) undef = .int .u8 (T.getD k (0, 0)).2 := by
  induction T generalizing k with
  | nil => simp at h
  | cons x r ih =>
    cases k with
    | zero => exact ⟨rfl, rfl⟩
    | succ k =>
      have := ih k (by simpa using h)
      rw [show (k + 1) * 2 = k * 2 + 2 from by omega, show k * 2 + 2 + 1 = (k * 2 + 1) + 2 from by omega]
      simpa [uZ, List.getD_eq_getElem?_getD] using this
theorem Na (T : List (Int × Int)) : (uZ T).length = T.length * 2 := by
  induction T with
  | nil => rfl
  | cons x r ih => simp only [uZ, List.flatMap_cons, List.length_append] at *; simp [ih]; omega
section
variable {enc : TypeId × Value → Unit} {w : World} {base : Nat} {spare : Nat → Bool} {held : Bool} {fuel : Nat} {ps : List MemPlace}
theorem XF {cs : List Value} {x : Int × Int} (h : DataW.trod enc Tryz.prog w base spare held fuel 197 cs = some (QS x, ps)) : cs = [.int .u8 x.1, .int .u8 x.2] := by
  obtain ⟨xs, n, -, hx, hl, hl2, hf⟩ := DataW.trod_struct Tryz.underlying197 h
  rw [show Tryz.prog.cellsOf 197 = 2 from by kernel_rfl] at hl
  simp only [Prod.mk.injEq, QS, DataW.agg.injEq] at hx
  match xs, hl2, hx, cs, hl with
  | [y0, y1], _, hx, [c0, c1], _ =>
    have h0 : DataW.trod enc Tryz.prog w base spare held n 5 (([c0, c1].drop 0).take (Tryz.prog.cellsOf 5)) = some y0 := hf 0 _ rfl
    have h1 : DataW.trod enc Tryz.prog w base spare held n 5 (([c0, c1].drop 1).take (Tryz.prog.cellsOf 5)) = some y1 := hf 1 _ rfl
    simp only [List.map_cons, List.map_nil, List.cons.injEq] at hx
    obtain ⟨n0, e0, d0, -⟩ := DataW.trod_int Tryz.underlying5 h0
    obtain ⟨n1, e1, d1, -⟩ := DataW.trod_int Tryz.underlying5 h1
    rw [show Tryz.prog.cellsOf 5 = 1 from by kernel_rfl] at e0 e1
    simp at e0 e1
    rw [d0, d1] at hx
    simp at hx
    subst e0; subst e1
    rw [hx.1.1, hx.1.2]
theorem XG {t n : Nat} {cs : List Value} {T : List (Int × Int)} (ht : Tryz.prog.underlying t = some (.array n 197)) (hc : Tryz.prog.cellsOf t = n * 2) (h : DataW.trod enc Tryz.prog w base spare held fuel t cs = some (.agg (T.map QS), ps)) : cs = uZ T := by
  obtain ⟨xs, m, -, hx, hl, hl2, hel⟩ := DataW.trod_array ht h
  simp only [Prod.mk.injEq, DataW.agg.injEq] at hx
  rw [hc] at hl
  have hTn : T.length = n := by have := congrArg List.length hx.1; simpa [hl2] using this
  have hv := Na T
  apply List.ext_getElem?
  intro j
  by_cases hj : j < n * 2
  · have hk : j / 2 < n := by omega
    have h1 := hel (j / 2) hk
    rw [show Tryz.prog.cellsOf 197 = 2 from by kernel_rfl, List.getElem?_eq_getElem (by omega)] at h1
    have h2 : xs[j / 2].1 = QS (T.getD (j / 2) (0, 0)) := by
      have := congrArg (fun l => l[j / 2]?) hx.1
      simp [List.getElem?_eq_getElem (show j / 2 < T.length by omega), List.getElem?_eq_getElem (show j / 2 < xs.length by omega)] at this
      rw [List.getD_eq_getElem?_getD, List.getElem?_eq_getElem (show j / 2 < T.length by omega), Option.getD_some, this]
    have h3 := XF (x := T.getD (j / 2) (0, 0)) (ps := xs[j / 2].2) (by rw [h1, ← h2])
    obtain ⟨e0, e1⟩ := JU T (j / 2) (by omega)
    have hq : (uZ T)[j]? = some ((uZ T).getD j undef) := by rw [List.getD_eq_getElem?_getD, List.getElem?_eq_getElem (by omega)]; rfl
    rw [hq]
    rcases (show j = j / 2 * 2 ∨ j = j / 2 * 2 + 1 by omega) with hj2 | hj2
    · have := congrArg (fun l => l[0]?) h3
      simp [List.getElem?_drop] at this
      rw [show j / 2 * 2 = j from by omega] at this e0
      rw [this, e0]; simp [List.getD_eq_getElem?_getD]
    · have := congrArg (fun l => l[1]?) h3
      simp [List.getElem?_take, List.getElem?_drop] at this
      rw [show j / 2 * 2 + 1 = j from by omega] at this e1
      rw [this, e1]; simp [List.getD_eq_getElem?_getD]
  · rw [List.getElem?_eq_none (by omega), List.getElem?_eq_none (by omega)]
theorem UQ {t n : Nat} {cs : List Value} {Z : List Nat} (ht : Tryz.prog.underlying t = some (.array n 5)) (h : DataW.trod enc Tryz.prog w base spare held fuel t cs = some (.agg (Z.map fun (q : Nat) => .lit (.int .u8 q)), ps)) {r : Nat} (hr : r < n) : cs[r]? = some (.int .u8 (Z.getD r 0 : Nat)) := by
  obtain ⟨xs, m, _, ex, _, hl, hel⟩ := DataW.trod_array ht h
  have c5 : Tryz.prog.cellsOf 5 = 1 := by kernel_rfl
  have hE := hel r hr
  rw [c5, Nat.mul_one, List.getElem?_eq_getElem (by omega)] at hE
  obtain ⟨z, e1, e2, _⟩ := DataW.trod_int Tryz.underlying5 hE
  have e3 : (xs.map (·.1)) = Z.map fun (q : Nat) => .lit (.int .u8 q) := (DataW.agg.inj (Prod.mk.inj ex).1).symm
  have hzl : Z.length = n := by have := congrArg List.length e3; simpa [hl] using this.symm
  have e4 : (xs.map (·.1))[r]? = (Z.map fun (q : Nat) => (DataW.lit (.int .u8 q) : DataW Unit))[r]? := by rw [e3]
  rw [List.getElem?_map, List.getElem?_map, List.getElem?_eq_getElem (by omega : r < xs.length), List.getElem?_eq_getElem (by omega : r < Z.length), e2] at e4
  have hz : z = (Z.getD r 0 : Nat) := by
    simp only [Option.map_some, Option.some.injEq, DataW.lit.injEq, Lit.int.injEq, true_and] at e4
    rw [e4, List.getD_eq_getElem?_getD, List.getElem?_eq_getElem (by omega : r < Z.length)]; rfl
  have : cs[r]? = some (.int .u8 z) := by
    have h0 : ((cs.drop r).take 1)[0]? = some (.int .u8 z) := by rw [e1]; rfl
    simpa using h0
  rw [this, hz]
end
theorem UR {W : World} (h : laidMetH Tryz.prog GL W) : DU W := by
  rw [MakeChecks.laidMetH_plain _ _ _ (by kernel_rfl)] at h
  obtain ⟨ps, ⟨g3, t3, cs3, f3, p3, q3, hg3, ht3, hv3, hd3, ⟨g2, t2, cs2, f2, p2, q2, hg2, ht2, hv2, hd2, _, _⟩, _⟩, _, _⟩ := h
  obtain rfl := Option.some.inj (Ze.symm.trans hg2)
  obtain rfl := Option.some.inj (abI.symm.trans hg3)
  obtain rfl := Option.some.inj (Zf.symm.trans ht2)
  obtain rfl := Option.some.inj (abJ.symm.trans ht3)
  have e3 := XG (T := JR) Tryz.underlying198 (by kernel_rfl) hd3
  refine ⟨fun x hx => ?_, fun i hi => ?_⟩
  · rw [World.var?_cell hg2 hv2 x, ← Array.getElem?_toList, UQ (Z := Go.Pinned.utf8FirstZ) Tryz.underlying194 hd2 hx]; rfl
  · have hp := JU JR i (by simp [JR]; omega)
    have ha : JR.getD i (0, 0) = SL.getD i (0, 0) := by
      match i, hi with
      | 0, _ => rfl
      | 1, _ => rfl
      | 2, _ => rfl
      | 3, _ => rfl
      | 4, _ => rfl
    rw [ha] at hp
    have hl := Na JR
    have hl2 : JR.length = 16 := rfl
    constructor
    · rw [World.var?_cell hg3 hv3 _, ← Array.getElem?_toList, e3, ← hp.1, List.getD_eq_getElem?_getD, List.getElem?_eq_getElem (by omega)]; rfl
    · rw [World.var?_cell hg3 hv3 _, ← Array.getElem?_toList, e3, ← hp.2, List.getD_eq_getElem?_getD, List.getElem?_eq_getElem (by omega)]; rfl
end Go.Proofs.YtimndnfpcomhlaaGreatDoor
end
section
set_option maxRecDepth 100000
namespace Go.Proofs.YtimndnfpcomhlaaGreatDoor
open Go.ChangeShapes Go.WideShapes Go.ChangeAt Go.RowKit
theorem XH {H : Type} {enc : TypeId × Value → H} {W : World} {B : Nat} {cs : List Value} (h : yX B enc Tryz.prog W 36 cs) : ∃ x0 x1 x2 x3 v4 x4, cs = [.int .i64 x0, .int .i64 x1, .int .i64 x2, .bool x3, v4] ∧ (Lit.int .i64 x0).wf = true ∧ (Lit.int .i64 x1).wf = true ∧ (Lit.int .i64 x2).wf = true ∧ (mM W .i32 v4 x4 ∧ x4.length * 4 ≤ B ∧ ∀ n ∈ x4, (Lit.int .i32 n).wf = true) := by
  obtain ⟨hl, hf⟩ := h.struct Tryz.underlying36
  rw [show Tryz.prog.cellsOf 36 = 5 from by kernel_rfl] at hl
  match cs, hl with
  | [c0, c1, c2, c3, c4], _ =>
    have h0 : yX B enc Tryz.prog W 3 (([c0, c1, c2, c3, c4].drop 0).take (Tryz.prog.cellsOf 3)) := hf 0 _ rfl
    rw [show Tryz.prog.cellsOf 3 = 1 from by kernel_rfl] at h0
    obtain ⟨x0, e0, w0⟩ := h0.int Tryz.underlying3
    have h1 : yX B enc Tryz.prog W 3 (([c0, c1, c2, c3, c4].drop 1).take (Tryz.prog.cellsOf 3)) := hf 1 _ rfl
    rw [show Tryz.prog.cellsOf 3 = 1 from by kernel_rfl] at h1
    obtain ⟨x1, e1, w1⟩ := h1.int Tryz.underlying3
    have h2 : yX B enc Tryz.prog W 3 (([c0, c1, c2, c3, c4].drop 2).take (Tryz.prog.cellsOf 3)) := hf 2 _ rfl
    rw [show Tryz.prog.cellsOf 3 = 1 from by kernel_rfl] at h2
    obtain ⟨x2, e2, w2⟩ := h2.int Tryz.underlying3
    have h3 : yX B enc Tryz.prog W 4 (([c0, c1, c2, c3, c4].drop 3).take (Tryz.prog.cellsOf 4)) := hf 3 _ rfl
    rw [show Tryz.prog.cellsOf 4 = 1 from by kernel_rfl] at h3
    obtain ⟨x3, e3⟩ := h3.bool Tryz.underlying4
    have h4 : yX B enc Tryz.prog W 34 (([c0, c1, c2, c3, c4].drop 4).take (Tryz.prog.cellsOf 34)) := hf 4 _ rfl
    rw [show Tryz.prog.cellsOf 34 = 1 from by kernel_rfl] at h4
    obtain ⟨v4, x4, e4, g4, b4, w4⟩ := h4.ints Tryz.underlying34 Tryz.underlying21 (by kernel_rfl)
    rw [show Tryz.prog.bytesOf 21 = 4 from by kernel_rfl] at b4
    simp only [List.drop, List.take, List.cons.injEq, and_true] at e0 e1 e2 e3 e4
    exact ⟨x0, x1, x2, x3, v4, x4, by simp_all, w0, w1, w2, ⟨g4, b4, w4⟩⟩
theorem UU {H : Type} {enc : TypeId × Value → H} {W : World} {B : Nat} {cs : List Value} (h : yX B enc Tryz.prog W 27 cs) : ∃ v0 n0 x0 x1, cs = [v0, .int .i64 x1] ∧ (Rd W 5 v0 n0 x0 ∧ n0 * Tryz.prog.bytesOf 36 ≤ B ∧ ∀ k, k < n0 → yX B enc Tryz.prog W 36 ((x0.drop (k * 5)).take 5)) ∧ (Lit.int .i64 x1).wf = true := by
  obtain ⟨hl, hf⟩ := h.struct Tryz.underlying27
  rw [show Tryz.prog.cellsOf 27 = 2 from by kernel_rfl] at hl
  match cs, hl with
  | [c0, c1], _ =>
    have h0 : yX B enc Tryz.prog W 24 (([c0, c1].drop 0).take (Tryz.prog.cellsOf 24)) := hf 0 _ rfl
    rw [show Tryz.prog.cellsOf 24 = 1 from by kernel_rfl] at h0
    obtain ⟨v0, n0, x0, e0, g0, b0, s0⟩ := h0.slice Tryz.underlying24 (by rw [show Tryz.prog.cellsOf 36 = 5 from by kernel_rfl]; decide)
    rw [show Tryz.prog.cellsOf 36 = 5 from by kernel_rfl] at g0 s0
    have h1 : yX B enc Tryz.prog W 25 (([c0, c1].drop 1).take (Tryz.prog.cellsOf 25)) := hf 1 _ rfl
    rw [show Tryz.prog.cellsOf 25 = 1 from by kernel_rfl] at h1
    obtain ⟨x1, e1, w1⟩ := h1.int Tryz.underlying25
    simp only [List.drop, List.take, List.cons.injEq, and_true] at e0 e1
    exact ⟨v0, n0, x0, x1, by simp_all, ⟨g0, b0, s0⟩, w1⟩
end Go.Proofs.YtimndnfpcomhlaaGreatDoor
end
section
namespace Go.Proofs.YtimndnfpcomhlaaGreatDoor
open Go.RowKit
open _root_.Go.Proofs.Tryz
theorem DV {l m : List Int} {i : Nat} (h1 : i < l.length) (h2 : i < m.length) (h : l.take i = m.take i) (e : l.getD i 0 = m.getD i 0) : l.take (i + 1) = m.take (i + 1) := by
  rw [List.take_succ_eq_append_getElem h1, List.take_succ_eq_append_getElem h2, h]
  simp [List.getD_eq_getElem?_getD, h1, h2] at e
  rw [e]
theorem JV (w : World) (v1 v2 : Value) (l1 l2 : List Int) (h1 : mM w .i32 v1 l1) (h2 : mM w .i32 v2 l2) :
  iU prog 104 #[v1, v2] w fun v w' => v = .bool (l1 == l2) ∧ uy w w' := by
 obtain ⟨a1, c1, rfl, hc1, hm1, hr1⟩ := h1.open
 obtain ⟨a2, c2, rfl, hc2, hm2, hr2⟩ := h2.open
 clear h1 h2
 refine oP func104 ntmps104 ?_
 refine lZ O (aO (bM O (aV (jy aG O) (cZ O (aV (jy aG O) (aV (dO O O) (kK O (fun h1 => ?_) (fun h1 => ?_))))))))
 ·(try simp only [aH] at h1)
  refine lF O (aK (fB results104 O ?_))
  exact ⟨by rw [show (l1 == l2) = false from beq_eq_false_iff_ne.2 (by rintro rfl; exact h1 rfl)], uy.refl _⟩
 ·(try simp only [aH] at h1)
  refine iq (aO (bM O (aV (jy aG O) (cZ O (iT (bn ?_))))))
  refine iR [(0, _), (1, _), (12, _)] (fun (k : Nat) => [(13, .int .i64 (k : Int))]) (fun (k : Nat) W => k ≤ l1.length ∧ l1.length = l2.length ∧ l1.take k = l2.take k ∧ uy w W) (fun (k : Nat) => l1.length - k) (0) Gf sJ ⟨by omega, by omega, by simp, uy.refl _⟩ ?_
  rintro k w1 ⟨hk, hl, ht, hD⟩
  dsimp only [List.cons_append, List.nil_append]
  refine jg (aV (fJ O O) (qj (bI O (fun h2 => ?_) (fun h2 => ?_))))
  ·(try simp only [aH] at h2)
   refine iq (aO (bn (bM O (tJ O ?_))))
   obtain ⟨b1, o1, rfl, hq1⟩ := hr1 (by omega)
   obtain ⟨b2, o2, rfl, hq2⟩ := hr2 (by omega)
   have hc1 := hq1 k (by omega)
   have hc2 := hq2 k (by omega)
   refine oC (n := 9) [0, 1, 2, 3, 4, 5, 6, 7, 8] (fun W => W.heap = w1.heap) (by kernel_rfl) (by kernel_rfl) O ?_
   have hS0 : (fun W => W.heap = w1.heap) (w1.drew) := rfl
   refine jc 0 O hS0 O (jc 1 O hS0 O (jW 2 O hS0 (fun _ => gU aG jr O O (by omega)) ?_))
   refine jq 3 O hS0 (fun W hW => jM (fK fH O) O (by rw [yw (hW.trans hD.heap)]; simpa using hc1)) ?_
   refine jc 4 O hS0 O (jc 5 O hS0 O (jW 6 O hS0 (fun _ => gU aG jr O O (by omega)) ?_))
   refine jq 7 O hS0 (fun W hW => jM (fK fH O) O (by rw [yw (hW.trans hD.heap)]; simpa using hc2)) ?_
   refine jW 8 O hS0 (fun _ => dO O O) (qp (bg (bI O (fun h3 => ?_) (fun h3 => ?_))))
   ·(try simp only [aH] at h3)
    refine lF O (bD (aK (aK (bD (aK (fB results104 O ?_))))))
    exact ⟨by rw [show (l1 == l2) = false from beq_eq_false_iff_ne.2 (by rintro rfl; exact h3 rfl)], hD.drew⟩
   ·(try simp only [aH] at h3)
    refine fU (aN (bg (aC (aV (gX O O (by omega)) (cZ O (bY ?_))))))
    refine fG (k + 1) ?_ ?_ ?_ ?_
    ·exact sJ
    ·exact Gf
    ·(try dsimp only)
     first | done | exact ⟨by omega, by omega, DV (by omega) (by omega) ht (by simpa using h3), hD.drew⟩
    ·(try dsimp only); omega
  ·(try simp only [aH] at h2)
   refine iJ (aX (aX (dA (bg (lF O (fB results104 O ?_))))))
   exact ⟨by rw [show (l1 == l2) = true from beq_iff_eq.2 (by rw [List.take_of_length_le (by omega), List.take_of_length_le (by omega)] at ht; exact ht)], hD⟩
theorem Au : (prog.info? 21).map (fun i => (i.zero, i.size, i.bytes)) = some (some (.int .i32 0), 1, 4) := by kernel_rfl
theorem sK {w0 w : World} {F : HP} {v : Value} {l : List Int} (H : V w0 w F) (hr : kP w0 F .i32 v l) (hb : l.length * 4 ≤ 140737488355328) :
    iU prog 93 #[v] w fun v' w' => V w0 w' (jR 21 .i32 v' l • F) := by
  obtain ⟨a, c, rfl, h1, h2, h3⟩ := (hr w H).open
  refine ji func93 ntmps93 ?_
  refine lZ O (aO (bM O (aV (Aj aG O O) ?_)))
  refine kK O (fun h1 => ?_) (fun h1 => ?_)
  · (try simp only [aH] at h1)
    refine lF O (aK (fB results93 O ?_))
    obtain rfl : a = none := by simpa using h1
    obtain rfl : l = [] := by
      cases l with
      | nil => rfl
      | cons x l => obtain ⟨b, o, e, _⟩ := h3 (by simp); cases e
    exact H.jH none
  · (try simp only [aH] at h1)
    refine iq (jg (jL (pO (vs := []) H aG jr zeroValue21 O O O (by decide) (by simp)) ?_))
    rintro _ w1 H1
    refine cZ O (jL (gy (l := []) H1 (hr.under _ H1) aG Au O O (by simp; omega) (by simpa using hb)) ?_)
    rintro _ w2 H2
    refine iW O (fB results93 O ?_)
    exact H2
theorem UW {w0 w : World} {F : HP} {n : Int} (H : V w0 w F) (h0 : 0 ≤ n) (hb : n ≤ 70368744177664) :
  iU prog 112 #[.slice none 0 0, .int .i64 n] w fun v' w' => V w0 w' (jR 21 .i32 v' [] • F) := by
 refine oP func112 ntmps112 ?_
 refine lZ O (aO (bM O (aV (fJ O O) (iT (O7 O (fun h1 => ?_))))))
 (try simp only [aH] at h1)
 refine iq (aO (bM O (cZ O (aV (Yt aG O) (cZ O (aV (jy aG O) (aV (lX O O (by omega)) (aV (lX O O (by omega)) (gY O (bM O (aV (fZ O O) (kK O (fun h2 => ?_) (fun h2 => ?_)))))))))))))
 ·(try simp only [aH] at h2)
  refine aC (mQ O O (aV (Yt aG O) (aV (uN aG jr O O O (by omega)) ?_)))
  refine cZ O (jL (GH H aG ay Au O O (by omega) (by omega) (by omega)) ?_)
  rintro _ w1 ⟨g, c, cur, rfl, hc1, hc2, hc3, H1⟩
  refine cZ O (aV (jy aG O) (aV (uN aG jr O O O (by omega)) ?_))
  refine gY O (bM O (iW O (fB results112 O ?_)))
  exact H1.Am (o := 0) (by simp) (JK 1 0 g 0 _ c) (by simp) hc2 (by simpa using hc3) (by simp)
 ·(try simp only [aH] at h2)
  refine iq (bM O (iW O (fB results112 O ?_)))
  exact H.jH none
theorem PG {w0 w : World} {F : HP} {v : Value} {vs : List Value} {ls : List (List Int)} (H : V w0 w F) (hv : Bl w0 F 1 v ls.length vs) (hls : ∀ k, k < ls.length → kP w0 F .i32 (vs.getD k undef) (ls.getD k [])) (hb : ls.flatten.length * 4 ≤ 140737488355328) :
  iU prog 101 #[v] w fun v' w' => V w0 w' (jR 21 .i32 v' ls.flatten • F) := by
 obtain ⟨_, a, c, rfl, hc1, hc2, _⟩ := hv w H
 refine ji func101 ntmps101 ?_
 refine lZ O (lZ O (aO (bM O (aV (jy fC O) (cZ O (iT (bn ?_)))))))
 refine iR [(0, _), (9, _), (10, _)] (fun (k : Nat) => [(3, .int .i64 ((ls.take k).flatten.length : Int)), (11, .int .i64 (k : Int))]) (fun (k : Nat) W => k ≤ ls.length ∧ V w0 W F) (fun (k : Nat) => ls.length - k) (0) Gf (Sub.BU O (by simp) (Sub.BU O (O) (Sub.nil _))) ⟨by omega, H⟩ ?_
 rintro k w1 ⟨hk, HL⟩
 dsimp only [List.cons_append, List.nil_append]
 refine jg (aV (fJ O O) (qj (bI O (fun h1 => ?_) (fun h1 => ?_))))
 ·(try simp only [aH] at h1)
  refine iq (aO (bn (aO ?_)))
  have hk1 : k < ls.length := by omega
  obtain ⟨b, o, rfl, hc⟩ := hv.cell HL (j := k) (by omega)
  obtain ⟨ak, ck, ek, hk2, hk3, _⟩ := (hls k hk1 _ HL).open
  rw [ek] at hc
  have hfl := KQ ls (k + 1)
  rw [Bo ls hk1, List.length_append] at hfl
  refine aC (aV (gU fC dD O O (by omega)) ?_)
  refine aV (jM (fK aG O) O (by rw [show ((k : Int).toNat * 1) = k from by omega]; exact hc)) ?_
  refine gY O (bM O (cZ O (aV (jy aG O) (aV (gX O O (by omega)) (gY O (bM O (aV (fJ O O) (iT (O7 O (fun h2 => ?_))))))))))
  (try simp only [aH] at h2)
  refine fU (aN (bg (aC (aV (gX O O (by omega)) (cZ O (bY ?_))))))
  refine fG (k + 1) ?_ ?_ ?_ ?_
  ·exact (Sub.BU O (by rw [Bo ls hk1, List.length_append, Int.natCast_add]) sJ)
  ·exact Gf
  ·(try dsimp only)
   first | done | exact ⟨by omega, HL⟩
  ·(try dsimp only); omega
 ·(try simp only [aH] at h1)
  refine iJ (aX (aX (dA (bg (bM O (dZ O func112 (UW HL (by omega) (by have := KQ ls k; omega)) ?_))))))
  rintro vg w2 H2
  refine tJ O (bM O (aV (jy fC O) (cZ O (iT (bn ?_)))))
  refine iR [(25, _), (26, _)] (fun (⟨k, u⟩ : Nat × Value) => [(6, u), (27, .int .i64 (k : Int))]) (fun (⟨k, u⟩ : Nat × Value) W => k ≤ ls.length ∧ V w0 W (jR 21 .i32 u (ls.take k).flatten • F)) (fun (⟨k, u⟩ : Nat × Value) => ls.length - k) ((0, vg)) vT vT ⟨by omega, H2⟩ ?_
  rintro ⟨k, u⟩ w3 ⟨hk, HM⟩
  dsimp only [List.cons_append, List.nil_append]
  refine jg (aV (fJ O O) (qj (bI O (fun h3 => ?_) (fun h3 => ?_))))
  ·(try simp only [aH] at h3)
   refine iq (aO (bn (aO ?_)))
   have hk1 : k < ls.length := by omega
   obtain ⟨b, o, rfl, hc⟩ := hv.cell HM.right (j := k) (by omega)
   have hrk := hls k hk1
   have hfl := KQ ls (k + 1)
   rw [Bo ls hk1, List.length_append] at hfl
   refine aC (aV (gU fC dD O O (by omega)) ?_)
   refine aV (jM (fK aG O) O (by rw [show ((k : Int).toNat * 1) = k from by omega]; exact hc)) ?_
   refine gY O (aC (mQ O O (jL (gy HM (hrk _ HM.right) aG Au O O (by omega) (by omega)) ?_)))
   rintro va w4 H4
   refine lU O (bY (aN (bg (aC (aV (gX O O (by omega)) (cZ O (bY ?_)))))))
   refine fG ((k + 1, va)) ?_ ?_ ?_ ?_
   ·exact vT
   ·exact vT
   ·(try dsimp only)
    first | done | exact ⟨by omega, by rw [Bo ls hk1]; exact H4⟩
   ·(try dsimp only); omega
  ·(try simp only [aH] at h3)
   refine iJ (aX (aX (dA (bg (bM O (iW O (fB results101 O ?_)))))))
   rw [List.take_of_length_le (by omega)] at HM; exact HM
theorem Aw {w0 w : World} {F : HP} {b : Nat} {T : TypeId} {u1 u2 : Value} {l1 l2 : List Int} (H : V w0 w (dR b (.cells #[u1, u2] T (0, 0)) • F)) (h1 : kP w0 (dR b (.cells #[u1, u2] T (0, 0)) • F) .i32 u1 l1) (h2 : kP w0 (dR b (.cells #[u1, u2] T (0, 0)) • F) .i32 u2 l2)
    (hb : (l1.length + l2.length) * 4 ≤ 140737488355328) :
    iU prog 101 #[.slice (some ⟨b, 0, none⟩) 2 2] w fun v' w' => V w0 w' (jR 21 .i32 v' (l1 ++ l2) • dR b (.cells #[u1, u2] T (0, 0)) • F) := by
  have := PG (ls := [l1, l2]) (vs := [u1, u2]) (v := .slice (some ⟨b, 0, none⟩) 2 2) H (fun W HW => ⟨rfl, _, 2, rfl, by simp, by decide, fun _ => ⟨b, 0, rfl, fun j hj => ?_⟩⟩) (fun k hk => ?_) (by simpa using hb)
  · simpa using this
  · refine iP HW.get.2 ?_
    simp at hj
    match j, hj with
    | 0, _ => rfl
    | 1, _ => rfl
  · simp at hk
    match k, hk with
    | 0, _ => exact h1
    | 1, _ => exact h2
theorem Nb {s i j : Nat} {v : Value} (h : v.oneCell' = true) : (qQ s i j v).oneCell' = true := by cases v <;> simp_all [qQ, Value.oneCell']
def iH (v : Value) (f t pt mk : Int) : Array Value := #[.bool true, v, .int .i64 f, .int .i64 t, .int .i64 pt, .int .i64 mk]
theorem XI {a b : Value} (h : a.oneCell' = true) (k : b.oneCell' = true) : ∀ u ∈ [a, b], u.oneCell' = true := by
  intro u hu; simp at hu; rcases hu with rfl | rfl
  · exact h
  · exact k
section
variable {v u : Value} {f t pt mk x : Int}
theorem lY : (iH v f t pt mk).size = 6 := rfl
theorem SV : (iH v f t pt mk).setIfInBounds 1 u = iH u f t pt mk := rfl
theorem y9 : (iH v f t pt mk).setIfInBounds 2 (.int .i64 x) = iH v x t pt mk := rfl
theorem C9 : (iH v f t pt mk).setIfInBounds 3 (.int .i64 x) = iH v f x pt mk := rfl
theorem xR : (iH v f t pt mk).setIfInBounds 4 (.int .i64 x) = iH v f t x mk := rfl
theorem qF : (iH v f t pt mk).setIfInBounds 5 (.int .i64 x) = iH v f t pt x := rfl
end
def fF (p : Nat) (L : List Int) (pt mk : Int) : HP := wR fun (x : Value × List Int × Nat × Nat) =>
  fact (x.2.2.1 ≤ x.2.2.2 ∧ x.2.2.2 ≤ x.2.1.length ∧ L = x.2.1.take x.2.2.1 ++ x.2.1.drop x.2.2.2 ∧ L.length ≤ 1024 ∧ x.2.1.length ≤ 4096 ∧ (0 ≤ pt ∧ pt ≤ L.length) ∧ (-1 ≤ mk ∧ mk ≤ L.length)) •
    dR p (.cells (iH x.1 x.2.2.1 x.2.2.2 pt mk) 162 (0, 0)) • jR 21 .i32 x.1 x.2.1
section
variable {w0 w : World} {F : HP} {p : Nat} {L : List Int} {pt mk : Int}
theorem V.buf (H : V w0 w (fF p L pt mk • F)) : ∃ (a : Option Addr) (c : Nat) (xs : List Int) (f t : Nat), f ≤ t ∧ t ≤ xs.length ∧ L = xs.take f ++ xs.drop t ∧ L.length ≤ 1024 ∧ xs.length ≤ 4096 ∧ (0 ≤ pt ∧ pt ≤ L.length) ∧ (-1 ≤ mk ∧ mk ≤ L.length) ∧ xs.length ≤ c ∧ (c : Int) ≤ 9223372036854775807 ∧ L.length + t = xs.length + f ∧
    V w0 w (dR p (.cells (iH (.slice a xs.length c) f t pt mk) 162 (0, 0)) • jR 21 .i32 (.slice a xs.length c) xs • F) := by
  obtain ⟨⟨v, xs, f, t⟩, H⟩ := H.qP
  obtain ⟨⟨h1, h2, h3, h4, h5, h6, h7⟩, H⟩ := H.flat.fact
  have H := H.flat
  obtain ⟨a, c, hv, hc1, hc2, _⟩ := (H.swap.aP).form
  dsimp only at *
  subst hv
  refine ⟨a, c, xs, f, t, h1, h2, h3, h4, h5, h6, h7, hc1, hc2, ?_, H⟩
  rw [h3]; simp; omega
theorem V.qx {v : Value} {xs : List Int} {f t : Nat} (h1 : f ≤ t) (h2 : t ≤ xs.length) (h3 : L = xs.take f ++ xs.drop t) (h4 : L.length ≤ 1024) (h5 : xs.length ≤ 4096) (h6 : 0 ≤ pt ∧ pt ≤ L.length) (h7 : -1 ≤ mk ∧ mk ≤ L.length)
    (H : V w0 w (dR p (.cells (iH v f t pt mk) 162 (0, 0)) • jR 21 .i32 v xs • F)) : V w0 w (fF p L pt mk • F) :=
  V.jQ (v, xs, f, t) (V.deep (V.nH ⟨h1, h2, h3, h4, h5, h6, h7⟩ (V.deep H)))
theorem tV (t : TypeId) {cs : Array Value} {fr : Nat × Nat} {m : Bool} (hb : w.heap[p]? = some (.cells cs t fr)) (h0 : cs[0]? = some (.bool m)) :
    iU prog 92 #[.pointer (some ⟨p, 0, none⟩)] w fun v w' => v = .bool (!m) ∧ w = w' := by
  refine ji func92 ntmps92 ?_
  refine lZ O (bM O (aV (kV dU O O) (JO O (fun h1 => ?_))))
  (try simp only [aH] at h1)
  refine bU (cZ O (bU (dM O (bU (bf 0 aW O aQ O (bU (dQ bW O hb h0 (bU (aV (oO O) (lV O O (iW O (fB results92 O ?_))))))))))))
  exact ⟨O, O⟩
theorem mG (H : V w0 w (fF p L pt mk • F)) : iU prog 50 #[.pointer (some ⟨p, 0, none⟩)] w fun v w' => v = .int .i64 L.length ∧ uy w w' := by
 obtain ⟨a, c, xs, f, t, h1, h2, h3, h4, h5, h6, h7, hc1, hc2, hl, H1⟩ := H.buf
 have hb := H1.get.2
 refine ji func50 ntmps50 ?_
 refine lZ O (aO (bM O (dZ O func92 (tV _ hb O) ?_)))
 rintro _ _ ⟨rfl, rfl⟩
 refine iT (vO (iq (aO ?_)))
 refine oC (n := 16) [0, 1, 2, 3, 4, 5, 6, 7, 8, 9, 10, 11, 12, 13, 14, 15] (fun W => W.heap = w.heap) (by kernel_rfl) (by kernel_rfl) O ?_
 have hS0 : (fun W => W.heap = w.heap) (w.drew) := rfl
 have H3d := H1.drew
 refine jc 0 O hS0 O (kN 1 O hS0 O (fV 2 O hS0 1 aW O dD O ?_))
 refine jq 3 O hS0 (fun W hW => jV aG O (by rw [hW]; exact hb) O) ?_
 refine jW 4 O hS0 (fun _ => jy aG O) (jc 5 O hS0 O (kN 6 O hS0 O (fV 7 O hS0 3 aW O aj O ?_)))
 refine jq 8 O hS0 (fun W hW => jV ay O (by rw [hW]; exact hb) O) ?_
 refine jc 9 O hS0 O (kN 10 O hS0 O (fV 11 O hS0 2 aW O aj O ?_))
 refine jq 12 O hS0 (fun W hW => jV ay O (by rw [hW]; exact hb) O) ?_
 refine jW 13 O hS0 (fun _ => lX O O (by omega)) (jW 14 O hS0 (fun _ => lX O O (by omega)) (jW 15 O hS0 (fun _ => iV O) (qp (bg (rV (fB results50 O ?_))))))
 exact ⟨by congr 1; omega, uy.refl _ |>.drew⟩
theorem nS (H : V w0 w (fF p L pt mk • F)) : iU prog 49 #[.pointer (some ⟨p, 0, none⟩)] w fun v w' => v = .int .i64 pt ∧ w = w' := by
  obtain ⟨a, c, xs, f, t, h1, h2, h3, h4, h5, h6, h7, hc1, hc2, hl, H1⟩ := H.buf
  have hb := H1.get.2
  refine ji func49 ntmps49 ?_
  refine lZ O (aO (bM O (dZ O func92 (tV _ hb O) ?_)))
  rintro _ _ ⟨rfl, rfl⟩
  refine iT (vO (iq (bM O (dM O (bf 4 aW O aj O (dQ ay O hb O (iW O (fB results49 O ?_))))))))
  exact ⟨O, O⟩
theorem KX (H : V w0 w (fF p L pt mk • F)) : iU prog 110 #[.pointer (some ⟨p, 0, none⟩)] w fun v w' => v = .int .i64 mk ∧ w = w' := by
  obtain ⟨a, c, xs, f, t, h1, h2, h3, h4, h5, h6, h7, hc1, hc2, hl, H1⟩ := H.buf
  have hb := H1.get.2
  refine ji func110 ntmps110 ?_
  refine lZ O (aO (bM O (dZ O func92 (tV _ hb O) ?_)))
  rintro _ _ ⟨rfl, rfl⟩
  refine iT (vO (iq (bM O (dM O (bf 5 aW O aj O (dQ ay O hb O (iW O (fB results110 O ?_))))))))
  exact ⟨O, O⟩
theorem oK (H : V w0 w (fF p L pt mk • F)) : iU prog 59 #[.pointer (some ⟨p, 0, none⟩)] w fun v w' => V w0 w' (jR 21 .i32 v L • fF p L pt mk • F) := by
 obtain ⟨a, c, xs, f, t, h1, h2, h3, h4, h5, h6, h7, hc1, hc2, hl, H1⟩ := H.buf
 have hb := H1.get.2
 refine ji func59 ntmps59 ?_
 refine lZ O (aO (bM O (dZ O func92 (tV _ hb O) ?_)))
 rintro _ _ ⟨rfl, rfl⟩
 refine iT (vO (iq (aO ?_)))
 refine oC (n := 21) [0, 1, 2, 3, 4, 5, 6, 7, 8, 9, 10, 11, 12, 13, 14, 15, 16, 17, 18, 19, 20] (fun W => W.heap[p]? = some (.cells (iH (.slice a xs.length c) f t pt mk) 162 (0, 0))) (by kernel_rfl) (by kernel_rfl) O ?_
 have hS0 : (fun W => W.heap[p]? = some (.cells (iH (.slice a xs.length c) f t pt mk) 162 (0, 0))) (w.drew) := hb
 have H3d := H1.drew
 refine jc 0 O hS0 O (kN 1 O hS0 O (fV 2 O hS0 1 aW O dD O (jq 3 O hS0 (fun W hW => jV aG O hW O) (jc 4 O hS0 O (kN 5 O hS0 O (fV 6 O hS0 2 aW O aj O (jq 7 O hS0 (fun W hW => jV ay O hW O) (jW 8 O hS0 (fun _ => uN aG jr O O O (by omega)) ?_))))))))
 refine jc 9 O hS0 O (kN 10 O hS0 O (fV 11 O hS0 1 aW O dD O (jq 12 O hS0 (fun W hW => jV aG O hW O) (jc 13 O hS0 O (kN 14 O hS0 O (fV 15 O hS0 3 aW O aj O (jq 16 O hS0 (fun W hW => jV ay O hW O) (jW 17 O hS0 (fun _ => uN aG jr O O O (by omega)) ?_))))))))
 refine mP 18 O (QL (vs := [qQ 1 0 f (.slice a xs.length c), qQ 1 t xs.length (.slice a xs.length c)]) H3d fC dD zeroValue34 O O O (by decide) (XI (Nb O) (Nb O))) ?_
 rintro _ w2 ⟨b2, rfl, H2⟩
 have hS2 : (fun W => W.heap[p]? = some (.cells (iH (.slice a xs.length c) f t pt mk) 162 (0, 0))) w2 := H2.swap.get.2
 refine DI hS2 ?_
 refine mP 19 O (wu O func101 (Aw (l1 := xs.take f) (l2 := xs.drop t) H2 (fun W HW => mM.upto HW.I7.aP (by omega)) (fun W HW => mM.from HW.I7.aP (by omega)) (by simp; omega))) ?_
 rintro u w3 H3
 have hS3 : (fun W => W.heap[p]? = some (.cells (iH (.slice a xs.length c) f t pt mk) 162 (0, 0))) w3 := H3.I7.get.2
 refine DI hS3 ?_
 refine jW 20 O hS3 (fun _ => iV O) (qp (bg (rV (fB results59 O ?_))))
 rw [← h3] at H3
 exact (V.qx h1 h2 h3 h4 h5 h6 h7 H3.swap.right.d3).swap
theorem Fa {v : Value} {l : List Int} (H : V w0 w F) (hr : kP w0 F .i32 v l) (hl : l.length ≤ 1024) : iU prog 71 #[v] w fun v' w' => ∃ p, v' = .tuple #[.pointer (some ⟨p, 0, none⟩), .int .i64 0] ∧ V w0 w' (fF p l l.length (-1) • F) := by
 obtain ⟨a, c, rfl, _, _, _⟩ := (hr w H).open
 refine ji func71 ntmps71 ?_
 refine jg (lU O (tJ O (bM O (aV (jy aG O) (aV (fZ O O) (iT (O7 O (fun h1 => ?_))))))))
 (try simp only [aH] at h1)
 refine iq (bM O (dZ O func93 (sK H hr (by omega)) ?_))
 rintro u w1 H1
 obtain ⟨au, cu, hu, _⟩ := (H1.aP).form
 subst hu
 refine cZ O (aV (jy aG O) (aV (lQ (pl := #[(0, 1), (1, 1), (2, 1), (3, 1), (4, 1), (5, 1)]) (iH (.slice au l.length cu) 0 0 l.length (-1)) aW zeroValue162 (fun w => by kernel_rfl) O (by kernel_rfl)) (jL (JI H1 O) ?_)))
 rintro _ w2 ⟨b2, rfl, H2⟩
 refine tJ O ?_
 have HB : V w0 w2 (dR b2 (.cells (iH (.slice au l.length cu) 0 0 l.length (-1)) 162 (0, 0)) • jR 21 .i32 (.slice au l.length cu) l • F) := H2
 refine aC (mQ O O (cZ O (aV (jy aG O) (cZ O (aV (jy aG O) (dM O (bf 2 aW O aj O (aI (jk HB aj O O O (by rw [lY]; decide)) ?_))))))))
 rintro _ w3 HB1
 rw [y9] at HB1
 refine dM O (bf 3 aW O aj O (aI (jk HB1 aj O O O (by rw [lY]; decide)) ?_))
 rintro _ w4 HB2
 rw [C9] at HB2
 refine sU O (lU O (iW O (DL results71 O O ?_)))
 exact ⟨_, O, V.qx (f := l.length) (t := l.length) (Nat.le_refl _) (Nat.le_refl _) (by simp) hl (by omega) (by omega) (by omega) HB2⟩
end
end Go.Proofs.YtimndnfpcomhlaaGreatDoor
end
