/- Shifts, masks, joins of whole numbers; strings of numbers and of bytes. -/
import Derived.Test.YtgoopiakpbcgoaaMore
import Derived.Laws.BitsLemmas
import Derived.Lib.RuneBytes
set_option linter.unusedSimpArgs false
set_option linter.unusedVariables false
namespace Go.Proofs.Ytgoopiakpbcgoaa
open Go.RowKit
section
variable {P : Program} {L : List (Nat × Value)} {w : World} {ty t t' : TypeId} {x y : Operand} {k k2 : IntKind} {m n : Int}
theorem r_shift (o : BinOp) {r : Value} (ho : o = .shl ∨ o = .shr) (hx : ev L x = some (.int k m)) (hy : ev L y = some (.int k2 n)) (h : (Op.shift o k m k2 n).run P w = .ok r w) : Val P L (.binOp o t x y t') ty w r w := fun ρ hρ _ _ _ _ => by
  simp only [execOp, hρ _ _ hx, hρ _ _ hy]
  have h1 : (eqGuard o t x y (.int k m) (.int k2 n)).run P w = .ok () w := by rcases ho with rfl | rfl <;> rfl
  have h2 : (binOp o t (.int k m) (.int k2 n)).run P w = .ok r w := by
    rcases ho with rfl | rfl <;> simpa [binOp] using h
  simp [h1, h2]
theorem r_shlK (i : Nat) (hx : ev L x = some (.int k m)) (hy : ev L y = some (.int k2 (i : Int))) (hi : i ≤ k.bits) : Val P L (.binOp .shl t x y t') ty w (.int k (k.wrap (m * 2 ^ i))) w :=
  r_shift .shl (.inl rfl) hx hy (by unfold Op.shift; rw [if_neg (by omega), show min (i : Int).toNat k.bits = i from by omega]; rfl)
theorem r_shl (i : Nat) (c : Int) (hc : (2 : Int) ^ i = c) (hi : i ≤ k.bits) (hx : ev L x = some (.int k m)) (hy : ev L y = some (.int k2 (i : Int))) (hb : k.wrap (m * c) = m * c) : Val P L (.binOp .shl t x y t') ty w (.int k (m * c)) w := by
  have := r_shlK (P := P) (w := w) (ty := ty) (t := t) (t' := t') i hx hy hi
  rwa [hc, hb] at this
theorem r_shrK (i : Nat) (hx : ev L x = some (.int k m)) (hy : ev L y = some (.int k2 (i : Int))) (hi : i ≤ k.bits) : Val P L (.binOp .shr t x y t') ty w (.int k (m / 2 ^ i)) w :=
  r_shift .shr (.inr rfl) hx hy (by unfold Op.shift; rw [if_neg (by omega), show min (i : Int).toNat k.bits = i from by omega]; show _ = _; rw [← Int.fdiv_eq_ediv_of_nonneg _ (by exact Int.le_of_lt (Int.pow_pos (by decide)))]; rfl)
theorem r_shr (i : Nat) (c : Int) (hc : (2 : Int) ^ i = c) (hi : i ≤ k.bits) (hx : ev L x = some (.int k m)) (hy : ev L y = some (.int k2 (i : Int))) : Val P L (.binOp .shr t x y t') ty w (.int k (m / c)) w := by
  have := r_shrK (P := P) (w := w) (ty := ty) (t := t) (t' := t') i hx hy hi
  rwa [hc] at this
theorem r_bitsK (o : BinOp) (hx : ev L x = some (.int k m)) (hy : ev L y = some (.int k n)) (ho : o = .and ∨ o = .or ∨ o = .xor ∨ o = .andNot) : Val P L (.binOp o t x y t') ty w (.int k (bits o k m n)) w :=
  r_bits o hx hy ho (by rcases ho with rfl | rfl | rfl | rfl <;> rfl)
theorem r_and_u8 (i : Nat) (c q : Int) (hc : (2 : Int) ^ i = q) (hq : q - 1 = c) (hi : i ≤ 8) (hx : ev L x = some (.int .u8 m)) (hy : ev L y = some (.int .u8 c)) (hm : 0 ≤ m ∧ m < 256) : Val P L (.binOp .and t x y t') ty w (.int .u8 (m % q)) w := by
  have := r_bitsK (P := P) (w := w) (ty := ty) (t := t) (t' := t') .and hx hy (.inl rfl)
  rwa [← hq, ← hc, bits_mask .u8 8 (by decide) wraps_u8 i hi m hm.1 hm.2, hc] at this
theorem r_and_i32 (i : Nat) (c q : Int) (hc : (2 : Int) ^ i = q) (hq : q - 1 = c) (hi : i ≤ 31) (hx : ev L x = some (.int .i32 m)) (hy : ev L y = some (.int .i32 c)) (hm : 0 ≤ m ∧ m < 2147483648) : Val P L (.binOp .and t x y t') ty w (.int .i32 (m % q)) w := by
  have := r_bitsK (P := P) (w := w) (ty := ty) (t := t) (t' := t') .and hx hy (.inl rfl)
  rwa [← hq, ← hc, bits_mask .i32 31 (by decide) wraps_i32 i hi m hm.1 hm.2, hc] at this
theorem r_or_u8 (i : Nat) (q : Int) (hc : (2 : Int) ^ i = q) (hx : ev L x = some (.int .u8 m)) (hy : ev L y = some (.int .u8 n)) (h : 0 ≤ m ∧ m % q = 0 ∧ m < 256 ∧ 0 ≤ n ∧ n < q ∧ n < 256) : Val P L (.binOp .or t x y t') ty w (.int .u8 (m + n)) w := by
  have := r_bitsK (P := P) (w := w) (ty := ty) (t := t) (t' := t') .or hx hy (.inr (.inl rfl))
  obtain ⟨h1, h2, h3, h4, h5, h6⟩ := h
  rwa [bits_join .u8 8 (by decide) wraps_u8 i m n h1 (by rw [hc]; exact h2) h3 h4 (by rw [hc]; exact h5) h6] at this
theorem r_or_i32 (i : Nat) (q : Int) (hc : (2 : Int) ^ i = q) (hx : ev L x = some (.int .i32 m)) (hy : ev L y = some (.int .i32 n)) (h : 0 ≤ m ∧ m % q = 0 ∧ m < 2147483648 ∧ 0 ≤ n ∧ n < q ∧ n < 2147483648) : Val P L (.binOp .or t x y t') ty w (.int .i32 (m + n)) w := by
  have := r_bitsK (P := P) (w := w) (ty := ty) (t := t) (t' := t') .or hx hy (.inr (.inl rfl))
  obtain ⟨h1, h2, h3, h4, h5, h6⟩ := h
  rwa [bits_join .i32 31 (by decide) wraps_i32 i m n h1 (by rw [hc]; exact h2) h3 h4 (by rw [hc]; exact h5) h6] at this
theorem fit_i32 {n : Int} (h : -2147483648 ≤ n ∧ n < 2147483648) : IntKind.i32.wrap n = n := by rw [IntKind.wrap_i32]; omega
theorem fit_u8 {n : Int} (h : 0 ≤ n ∧ n < 256) : IntKind.u8.wrap n = n := by rw [IntKind.wrap_u8]; omega
theorem fit_i64 {n : Int} (h : -9223372036854775808 ≤ n ∧ n < 9223372036854775808) : IntKind.i64.wrap n = n := by rw [IntKind.wrap_i64]; omega
theorem r_conv_u32 {src dst : TypeId} (hx : ev L x = some (.int k m)) (hs : (P.underlying src).isSome = true) (hd : P.underlying dst = some (.int .u32)) : Val P L (.convert src dst x) ty w (.int .u32 (m % 4294967296)) w := fun ρ hρ _ _ _ _ => by
  obtain ⟨ds, hs'⟩ := Option.isSome_iff_exists.1 hs
  simp only [execOp, hρ _ _ hx]
  simp [convert, run_underlying hs', run_underlying hd, Conv.intToInt, IntKind.wrap_u32]
theorem r_conv_u8 {src dst : TypeId} (hx : ev L x = some (.int k m)) (hs : (P.underlying src).isSome = true) (hd : P.underlying dst = some (.int .u8)) : Val P L (.convert src dst x) ty w (.int .u8 (m % 256)) w := fun ρ hρ _ _ _ _ => by
  obtain ⟨ds, hs'⟩ := Option.isSome_iff_exists.1 hs
  simp only [execOp, hρ _ _ hx]
  simp [convert, run_underlying hs', run_underlying hd, Conv.intToInt, IntKind.wrap_u8]
theorem RdI.atC (j : Nat) {b o n c : Nat} {l : List Int} (h : RdI w k (.slice (some ⟨b, o, none⟩) n c) l) (hj : j < l.length) : w.cell? ⟨b, o + j * 1, none⟩ = some (.int k (l.getD j 0)) := by
  have := h.at1n (i := j) hj
  rwa [Int.toNat_natCast] at this
end
end Go.Proofs.Ytgoopiakpbcgoaa
