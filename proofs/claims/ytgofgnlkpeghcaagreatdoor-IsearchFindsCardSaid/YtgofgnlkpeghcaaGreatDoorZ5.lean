import Derived.Test.YtgofgnlkpeghcaaGreatDoorZ4
import Derived.Test.YtgofgnlkpeghcaaGreatDoorProg
import Derived.Lib.RuneBytes
import Derived.Test.YtgofgnlkpeghcaaGreatDoorZ3
import Derived.Laws.BitsLemmas
import GoSem.PinnedTables
set_option linter.unusedSimpArgs false
set_option linter.unusedVariables false
/- Texts of mine, joined, their names in short: Tab UtfM Bits Utf ELaidU Five Sum Equal Slices LL Flat. -/
section
namespace Go.Proofs.YtgofgnlkpeghcaaGreatDoor
open Go.RowKit
open _root_.Go.Proofs.Tryz
def kN (r : Int) : Bool := decide (0 ≤ r ∧ r < 55296 ∨ 57343 < r ∧ r ≤ 1114111)
def Ub (r : Int) : Bool := decide (0 ≤ r ∧ r < 32 ∨ 127 ≤ r ∧ r ≤ 159)
def within (r : Int) (T : List (Int × Int)) : Bool := T.any fun x => decide (x.1 ≤ r ∧ r ≤ x.2)
def adj : List (Int × Int) := [(768, 879), (1155, 1161), (1425, 1469), (1552, 1562), (1611, 1631), (3633, 3633), (3636, 3642), (3655, 3662), (6832, 6911), (7616, 7679), (8203, 8207), (8400, 8447), (12441, 12442), (65024, 65039), (65056, 65071)]
def adk : List (Int × Int) := [(4352, 4447), (11904, 12350), (12353, 13311), (13312, 19903), (19968, 40959), (40960, 42191), (44032, 55203), (63744, 64255), (65072, 65135), (65280, 65376), (65504, 65510), (127744, 128591), (129280, 129535), (131072, 262141)]
def aae (r : Int) : Int := if !kN r || Ub r || within r adj then 0 else if within r adk then 2 else 1
def MI (r : Int) : Bool :=
  if r < 192 then decide (48 ≤ r ∧ r ≤ 57 ∨ 65 ≤ r ∧ r ≤ 90 ∨ 97 ≤ r ∧ r ≤ 122)
  else if r = 215 ∨ r = 247 ∨ r = 65533 ∨ 8192 ≤ r ∧ r ≤ 8303 ∨ 12288 ≤ r ∧ r ≤ 12351 ∨ 65280 ≤ r ∧ r ≤ 65295 then false
  else kN r && decide (0 < aae r)
theorem V.cell {w0 w : World} {F : HP} (H : V w0 w F) {a : Addr} {v : Value} (h : w0.cell? a = some v) : w.cell? a = some v := (H.base.cell (World.block_lt_of_cell? _ _ h)).trans h
theorem YL {w : World} {b o : Nat} {u v : Value} (h : w.cell? ⟨b, o, none⟩ = some u) (k : w.cell? ⟨b, o + 1, none⟩ = some v) : ∀ (j : Nat) x, ([u, v] : List Value)[j]? = some x → w.cell? ⟨b, o + j, none⟩ = some x := by
  intro j x hj
  match j, hj with
  | 0, hj => cases hj; exact h
  | 1, hj => cases hj; exact k
  | j + 2, hj => simp at hj
def XL (T : List (Int × Int)) : List Value := T.flatMap fun x => [.int .i32 x.1, .int .i32 x.2]
structure aiS (w : World) : Prop where
  aif : Rd w 2 (.slice (some ⟨0, 0, none⟩) 15 15) 15 (XL adj)
  aih : Rd w 2 (.slice (some ⟨1, 0, none⟩) 14 14) 14 (XL adk)
section
variable {w0 w : World} {F : HP} {r : Int}
theorem YM : iM prog 160 #[.int .i32 r] w fun v w' => v = .bool (kN r) ∧ w = w' := by
 refine iQ func160 ntmps160 ?_
 refine kQ O (aO (bg (bY O (aW (qc O O) (mX O (fun h1 => ?_) (fun h1 => ?_))))))
 ·(try simp only [aF] at h1)
  refine bW (bT O (bW (aW (fG O O) (nZ O O (iP O (dA O (fun h2 => ?_) (fun h2 => ?_)))))))
  ·(try simp only [aF] at h2)
   refine mP O (aX (aC (fD results160 O ?_)))
   refine ⟨?_, O⟩; congr 1; first | (symm; rw [kN, decide_eq_true_eq]; omega) | (symm; rw [kN, decide_eq_false_iff_not]; omega) | (rw [kN, decide_eq_decide]; omega)
  ·(try simp only [aF] at h2)
   refine bY O (aW (fG O O) (mX O (fun h3 => ?_) (fun h3 => ?_)))
   ·(try simp only [aF] at h3)
    refine bW (bT O (bW (aW (qc O O) (nZ O O (iP O (dA O (fun h4 => ?_) (fun h4 => ?_)))))))
    ·(try simp only [aF] at h4)
     refine mP O (aX (aC (fD results160 O ?_)))
     refine ⟨?_, O⟩; congr 1; first | (symm; rw [kN, decide_eq_true_eq]; omega) | (symm; rw [kN, decide_eq_false_iff_not]; omega) | (rw [kN, decide_eq_decide]; omega)
    ·(try simp only [aF] at h4)
     refine dS (aP (aZ (mP O (fD results160 O ?_))))
     refine ⟨?_, O⟩; congr 1; first | (symm; rw [kN, decide_eq_true_eq]; omega) | (symm; rw [kN, decide_eq_false_iff_not]; omega) | (rw [kN, decide_eq_decide]; omega)
   ·(try simp only [aF] at h3)
    refine dF (dF (kX O O (iP O (vS (dS (aP (aZ (mP O (fD results160 O ?_)))))))))
    refine ⟨?_, O⟩; congr 1; first | (symm; rw [kN, decide_eq_true_eq]; omega) | (symm; rw [kN, decide_eq_false_iff_not]; omega) | (rw [kN, decide_eq_decide]; omega)
 ·(try simp only [aF] at h1)
  refine dF (dF (kX O O (iP O (vS (bY O (aW (fG O O) (mX O (fun h5 => ?_) (fun h5 => ?_))))))))
  ·(try simp only [aF] at h5)
   exfalso; first | contradiction | omega
  ·(try simp only [aF] at h5)
   refine dF (dF (kX O O (iP O (vS (dS (aP (aZ (mP O (fD results160 O ?_)))))))))
   refine ⟨?_, O⟩; congr 1; first | (symm; rw [kN, decide_eq_true_eq]; omega) | (symm; rw [kN, decide_eq_false_iff_not]; omega) | (rw [kN, decide_eq_decide]; omega)
theorem adX : iM prog 148 #[.int .i32 r] w fun v w' => v = .bool (kN r) ∧ w = w' := by
  refine iQ func148 ntmps148 ?_
  refine kQ O (bY O (fE O func160 (YM) ?_))
  rintro _ _ ⟨rfl, rfl⟩
  refine ig O (fD results148 O ?_)
  exact ⟨O, O⟩
end
end Go.Proofs.YtgofgnlkpeghcaaGreatDoor
end
section
namespace Go.Proofs.YtgofgnlkpeghcaaGreatDoor

def kR (x : Int) : Nat := if x < 128 then 1 else if 194 ≤ x ∧ x ≤ 223 then 2 else if 224 ≤ x ∧ x ≤ 239 then 3 else if 240 ≤ x ∧ x ≤ 244 then 4 else 0
def D8 (x : Int) : Int := if x = 224 then 160 else if x = 240 then 144 else 128
def xW (x : Int) : Int := if x = 237 then 159 else if x = 244 then 143 else 191
def Cc (b : List Int) (j : Nat) : Bool := j == 0 || (decide (128 ≤ b.getD j 0 ∧ b.getD j 0 ≤ 191) && (j != 1 || decide (D8 (b.getD 0 0) ≤ b.getD 1 0 ∧ b.getD 1 0 ≤ xW (b.getD 0 0))))
def yV (b : List Int) : Nat → Bool
  | 0 => true
  | k + 1 => yV b k && Cc b k
def lN (b : List Int) : Nat × Nat := if b = [] then (0, 0) else if kR (b.getD 0 0) = 0 then (0, 0) else if yV b (min (kR (b.getD 0 0)) b.length) then (min (kR (b.getD 0 0)) b.length, kR (b.getD 0 0)) else (0, kR (b.getD 0 0))
def Lu (b : List Int) (n : Nat) : Int :=
  if n = 1 then b.getD 0 0 else if n = 2 then b.getD 0 0 % 32 * 64 + b.getD 1 0 % 64 else if n = 3 then b.getD 0 0 % 16 * 4096 + b.getD 1 0 % 64 * 64 + b.getD 2 0 % 64
  else b.getD 0 0 % 8 * 262144 + b.getD 1 0 % 64 * 4096 + b.getD 2 0 % 64 * 64 + b.getD 3 0 % 64
def vN (b : List Int) : Bool := decide ((lN b).1 = (lN b).2 ∧ 0 < (lN b).2)
def rX (b : List Int) : Int × Nat := if vN b then (Lu b (lN b).2, (lN b).2) else (65533, 1)
def afj (b : List Int) : Bool := decide (0 < (lN b).1 ∧ (lN b).1 < (lN b).2)
def D9 : Nat → List Int → List Int
  | 0, _ => []
  | f + 1, b => if b = [] then [] else (rX b).1 :: D9 f (b.drop (rX b).2)
def rY (b : List Int) : List Int := D9 b.length b
def adY : Nat → List Int → List Int × List Int
  | 0, b => ([], b)
  | f + 1, b => if b = [] ∨ afj b = true then ([], b) else ((rX b).1 :: (adY f (b.drop (rX b).2)).1, (adY f (b.drop (rX b).2)).2)
def aiT (b : List Int) : List Int × List Int := adY b.length b
def uH (l : List Int) : List Int := l.flatMap Lib.encodeRuneZ
def GY (b : List Int) : Prop := ∀ x ∈ b, 0 ≤ x ∧ x < 256
theorem NH (x : Int) : kR x ≤ 4 := by unfold kR; repeat' split <;> try omega
theorem Wi {b : List Int} {k m : Nat} (h : yV b k = true) (hm : m ≤ k) : yV b m = true := by
  induction k with
  | zero => obtain rfl : m = 0 := by omega
            exact h
  | succ k ih =>
    simp only [yV, Bool.and_eq_true] at h
    by_cases e : m = k + 1
    · subst e; simp only [yV, Bool.and_eq_true]; exact h
    · exact ih h.1 (by omega)
theorem Iz {b c : List Int} {j : Nat} (h : j < b.length) : (b ++ c).getD j 0 = b.getD j 0 := by rw [List.getD_eq_getElem?_getD, List.getD_eq_getElem?_getD, List.getElem?_append_left h]
theorem Qr {b : List Int} (hb : b ≠ []) : (lN b).2 = kR (b.getD 0 0) := by
  unfold lN; rw [if_neg hb]; split
  · rename_i h; rw [h]
  · split <;> rfl
theorem IB {b : List Int} : (lN b).1 ≤ b.length ∧ (lN b).1 ≤ (lN b).2 := by
  unfold lN; split
  · exact ⟨Nat.zero_le _, Nat.le_refl _⟩
  · split
    · exact ⟨Nat.zero_le _, Nat.le_refl _⟩
    · split
      · exact ⟨Nat.min_le_right _ _, Nat.min_le_left _ _⟩
      · exact ⟨Nat.zero_le _, Nat.zero_le _⟩
theorem GZ {b : List Int} (h : vN b = true) : 1 ≤ (lN b).2 ∧ (lN b).2 ≤ b.length ∧ (lN b).2 ≤ 4 ∧ b ≠ [] := by
  unfold vN at h; simp only [decide_eq_true_eq] at h
  have h1 := IB (b := b)
  have hb : b ≠ [] := by rintro rfl; exact absurd h.2 (by decide)
  refine ⟨h.2, by omega, ?_, hb⟩
  rw [Qr hb]; exact NH _
theorem EW {b : List Int} (hb : b ≠ []) : 1 ≤ (rX b).2 ∧ (rX b).2 ≤ b.length ∧ (rX b).2 ≤ 4 := by
  have := List.length_pos_iff.2 hb
  unfold rX; split
  · rename_i h; have := GZ h; exact ⟨this.1, this.2.1, this.2.2.1⟩
  · exact ⟨Nat.le_refl _, this, by decide⟩
theorem aaf {b c : List Int} {n : Nat} (h1 : 1 ≤ n) (h : n ≤ b.length) (h4 : n ≤ 4) : Lu (b ++ c) n = Lu b n := by
  unfold Lu
  rw [Iz (show 0 < b.length by omega)]
  by_cases e1 : n = 1
  · simp [e1]
  · rw [if_neg e1, if_neg e1, Iz (show 1 < b.length by omega)]
    by_cases e2 : n = 2
    · simp [e2]
    · rw [if_neg e2, if_neg e2, Iz (show 2 < b.length by omega)]
      by_cases e3 : n = 3
      · simp [e3]
      · rw [if_neg e3, if_neg e3, Iz (show 3 < b.length by omega)]
theorem Uc : ∀ (f g : Nat) (b : List Int), b.length ≤ f → b.length ≤ g → D9 f b = D9 g b := by
  intro f
  induction f with
  | zero => intro g b h1 h2; obtain rfl : b = [] := List.eq_nil_of_length_eq_zero (by omega); cases g <;> simp [D9]
  | succ f ih =>
    intro g b h1 h2
    cases g with
    | zero => obtain rfl : b = [] := List.eq_nil_of_length_eq_zero (by omega); simp [D9]
    | succ g =>
      unfold D9
      by_cases hb : b = []
      · simp [hb]
      · rw [if_neg hb, if_neg hb]
        have := EW hb
        rw [ih g (b.drop (rX b).2) (by simp; omega) (by simp; omega)]
theorem G6 : rY [] = [] := rfl
theorem zO {b : List Int} (hb : b ≠ []) : rY b = (rX b).1 :: rY (b.drop (rX b).2) := by
  have h := EW hb
  have hl := List.length_pos_iff.2 hb
  unfold rY
  obtain ⟨n, hn⟩ : ∃ n, b.length = n + 1 := ⟨b.length - 1, by omega⟩
  rw [hn, show D9 (n + 1) b = if b = [] then [] else (rX b).1 :: D9 n (b.drop (rX b).2) from rfl, if_neg hb, Uc n (b.drop (rX b).2).length _ (by simp; omega) (Nat.le_refl _)]
theorem Wj (b : List Int) : (rY b).length ≤ b.length := by
  induction hn : b.length using Nat.strongRecOn generalizing b with
  | _ n ih =>
    by_cases hb : b = []
    · subst hb; simp [G6]
    · have h := EW hb
      rw [zO hb, List.length_cons]
      have := ih (b.drop (rX b).2).length (by simp; omega) _ rfl
      simp at this
      omega
end Go.Proofs.YtgofgnlkpeghcaaGreatDoor
end
section
namespace Go.Proofs.YtgofgnlkpeghcaaGreatDoor
open Go.RowKit
section
variable {P : Program} {L : List (Nat × Value)} {w : World} {ty t t' : TypeId} {x y : Operand} {k k2 : IntKind} {m n : Int}
theorem XM (o : BinOp) {r : Value} (ho : o = .shl ∨ o = .shr) (hx : ev L x = some (.int k m)) (hy : ev L y = some (.int k2 n)) (h : (Op.shift o k m k2 n).run P w = .ok r w) : Val P L (.binOp o t x y t') ty w r w := fun ρ hρ _ _ _ _ => by
  simp only [execOp, hρ _ _ hx, hρ _ _ hy]
  have h1 : (eqGuard o t x y (.int k m) (.int k2 n)).run P w = .ok () w := by rcases ho with rfl | rfl <;> rfl
  have h2 : (binOp o t (.int k m) (.int k2 n)).run P w = .ok r w := by
    rcases ho with rfl | rfl <;> simpa [binOp] using h
  simp [h1, h2]
theorem aag (i : Nat) (hx : ev L x = some (.int k m)) (hy : ev L y = some (.int k2 (i : Int))) (hi : i ≤ k.bits) : Val P L (.binOp .shl t x y t') ty w (.int k (k.wrap (m * 2 ^ i))) w :=
  XM .shl (.inl rfl) hx hy (by unfold Op.shift; rw [if_neg (by omega), show min (i : Int).toNat k.bits = i from by omega]; rfl)
theorem Ez (i : Nat) (c : Int) (hc : (2 : Int) ^ i = c) (hi : i ≤ k.bits) (hx : ev L x = some (.int k m)) (hy : ev L y = some (.int k2 (i : Int))) (hb : k.wrap (m * c) = m * c) : Val P L (.binOp .shl t x y t') ty w (.int k (m * c)) w := by
  have := aag (P := P) (w := w) (ty := ty) (t := t) (t' := t') i hx hy hi
  rwa [hc, hb] at this
theorem aah (i : Nat) (hx : ev L x = some (.int k m)) (hy : ev L y = some (.int k2 (i : Int))) (hi : i ≤ k.bits) : Val P L (.binOp .shr t x y t') ty w (.int k (m / 2 ^ i)) w :=
  XM .shr (.inr rfl) hx hy (by unfold Op.shift; rw [if_neg (by omega), show min (i : Int).toNat k.bits = i from by omega]; show _ = _; rw [← Int.fdiv_eq_ediv_of_nonneg _ (by exact Int.le_of_lt (Int.pow_pos (by decide)))]; rfl)
theorem vW (i : Nat) (c : Int) (hc : (2 : Int) ^ i = c) (hi : i ≤ k.bits) (hx : ev L x = some (.int k m)) (hy : ev L y = some (.int k2 (i : Int))) : Val P L (.binOp .shr t x y t') ty w (.int k (m / c)) w := by
  have := aah (P := P) (w := w) (ty := ty) (t := t) (t' := t') i hx hy hi
  rwa [hc] at this
theorem Ea (o : BinOp) (hx : ev L x = some (.int k m)) (hy : ev L y = some (.int k n)) (ho : o = .and ∨ o = .or ∨ o = .xor ∨ o = .andNot) : Val P L (.binOp o t x y t') ty w (.int k (bits o k m n)) w :=
  adS o hx hy ho (by rcases ho with rfl | rfl | rfl | rfl <;> rfl)
theorem iR (i : Nat) (c q : Int) (hc : (2 : Int) ^ i = q) (hq : q - 1 = c) (hi : i ≤ 8) (hx : ev L x = some (.int .u8 m)) (hy : ev L y = some (.int .u8 c)) (hm : 0 ≤ m ∧ m < 256) : Val P L (.binOp .and t x y t') ty w (.int .u8 (m % q)) w := by
  have := Ea (P := P) (w := w) (ty := ty) (t := t) (t' := t') .and hx hy (.inl rfl)
  rwa [← hq, ← hc, bits_mask .u8 8 (by decide) wraps_u8 i hi m hm.1 hm.2, hc] at this
theorem Bf (i : Nat) (c q : Int) (hc : (2 : Int) ^ i = q) (hq : q - 1 = c) (hi : i ≤ 31) (hx : ev L x = some (.int .i32 m)) (hy : ev L y = some (.int .i32 c)) (hm : 0 ≤ m ∧ m < 2147483648) : Val P L (.binOp .and t x y t') ty w (.int .i32 (m % q)) w := by
  have := Ea (P := P) (w := w) (ty := ty) (t := t) (t' := t') .and hx hy (.inl rfl)
  rwa [← hq, ← hc, bits_mask .i32 31 (by decide) wraps_i32 i hi m hm.1 hm.2, hc] at this
theorem kS (i : Nat) (q : Int) (hc : (2 : Int) ^ i = q) (hx : ev L x = some (.int .u8 m)) (hy : ev L y = some (.int .u8 n)) (h : 0 ≤ m ∧ m % q = 0 ∧ m < 256 ∧ 0 ≤ n ∧ n < q ∧ n < 256) : Val P L (.binOp .or t x y t') ty w (.int .u8 (m + n)) w := by
  have := Ea (P := P) (w := w) (ty := ty) (t := t) (t' := t') .or hx hy (.inr (.inl rfl))
  obtain ⟨h1, h2, h3, h4, h5, h6⟩ := h
  rwa [bits_join .u8 8 (by decide) wraps_u8 i m n h1 (by rw [hc]; exact h2) h3 h4 (by rw [hc]; exact h5) h6] at this
theorem tH (i : Nat) (q : Int) (hc : (2 : Int) ^ i = q) (hx : ev L x = some (.int .i32 m)) (hy : ev L y = some (.int .i32 n)) (h : 0 ≤ m ∧ m % q = 0 ∧ m < 2147483648 ∧ 0 ≤ n ∧ n < q ∧ n < 2147483648) : Val P L (.binOp .or t x y t') ty w (.int .i32 (m + n)) w := by
  have := Ea (P := P) (w := w) (ty := ty) (t := t) (t' := t') .or hx hy (.inr (.inl rfl))
  obtain ⟨h1, h2, h3, h4, h5, h6⟩ := h
  rwa [bits_join .i32 31 (by decide) wraps_i32 i m n h1 (by rw [hc]; exact h2) h3 h4 (by rw [hc]; exact h5) h6] at this
theorem jC {n : Int} (h : -2147483648 ≤ n ∧ n < 2147483648) : IntKind.i32.wrap n = n := by rw [IntKind.wrap_i32]; omega
theorem acy {n : Int} (h : -9223372036854775808 ≤ n ∧ n < 9223372036854775808) : IntKind.i64.wrap n = n := by rw [IntKind.wrap_i64]; omega
theorem NI {src dst : TypeId} (hx : ev L x = some (.int k m)) (hs : (P.underlying src).isSome = true) (hd : P.underlying dst = some (.int .u32)) : Val P L (.convert src dst x) ty w (.int .u32 (m % 4294967296)) w := fun ρ hρ _ _ _ _ => by
  obtain ⟨ds, hs'⟩ := Option.isSome_iff_exists.1 hs
  simp only [execOp, hρ _ _ hx]
  simp [convert, run_underlying hs', run_underlying hd, Conv.intToInt, IntKind.wrap_u32]
theorem iq {src dst : TypeId} (hx : ev L x = some (.int k m)) (hs : (P.underlying src).isSome = true) (hd : P.underlying dst = some (.int .u8)) : Val P L (.convert src dst x) ty w (.int .u8 (m % 256)) w := fun ρ hρ _ _ _ _ => by
  obtain ⟨ds, hs'⟩ := Option.isSome_iff_exists.1 hs
  simp only [execOp, hρ _ _ hx]
  simp [convert, run_underlying hs', run_underlying hd, Conv.intToInt, IntKind.wrap_u8]
theorem jP.TK (j : Nat) {b o n c : Nat} {l : List Int} (h : jP w k (.slice (some ⟨b, o, none⟩) n c) l) (hj : j < l.length) : w.cell? ⟨b, o + j * 1, none⟩ = some (.int k (l.getD j 0)) := by
  have := h.sO (i := j) hj
  rwa [Int.toNat_natCast] at this
end
end Go.Proofs.YtgofgnlkpeghcaaGreatDoor
end
section
namespace Go.Proofs.YtgofgnlkpeghcaaGreatDoor
open Go.RowKit
open _root_.Go.Proofs.Tryz
def firstM (x : Nat) : Int := ((Go.Pinned.utf8FirstZ.getD x 0 : Nat) : Int)
def YN : List (Int × Int) := [(128, 191), (160, 191), (128, 159), (144, 191), (128, 143)]
theorem YO : ((List.range 256).all fun x => let f := firstM x; let n := kR (x : Int)
    decide ((f = 240 ∧ x < 128) ∨ (f = 241 ∧ n = 0 ∧ 128 ≤ x) ∨ (0 ≤ f ∧ f < 240 ∧ f % 8 = (n : Int) ∧ 2 ≤ n ∧ 128 ≤ x ∧ f / 16 < 5 ∧ YN.getD (f / 16).toNat (0, 0) = (D8 x, xW x)))) = true := by decide +kernel
theorem aai {x : Int} (h : 0 ≤ x ∧ x < 256) : (firstM x.toNat = 240 ∧ x < 128) ∨ (firstM x.toNat = 241 ∧ kR x = 0 ∧ 128 ≤ x) ∨
    (0 ≤ firstM x.toNat ∧ firstM x.toNat < 240 ∧ firstM x.toNat % 8 = (kR x : Int) ∧ 2 ≤ kR x ∧ 128 ≤ x ∧ firstM x.toNat / 16 < 5 ∧ YN.getD (firstM x.toNat / 16).toNat (0, 0) = (D8 x, xW x)) := by
  have := List.all_eq_true.1 YO x.toNat (List.mem_range.2 (by omega))
  simp only [decide_eq_true_eq, Int.toNat_of_nonneg h.1] at this
  rcases this with h1 | h1 | h1
  · exact .inl ⟨h1.1, by omega⟩
  · exact .inr (.inl ⟨h1.1, h1.2.1, by omega⟩)
  · exact .inr (.inr ⟨h1.1, h1.2.1, h1.2.2.1, h1.2.2.2.1, by omega, h1.2.2.2.2.2.1, h1.2.2.2.2.2.2⟩)
structure Cj (w : World) : Prop where
  first : ∀ x : Nat, x < 256 → w.cell? ⟨0, x, none⟩ = some (.int .u8 (firstM x))
  acc : ∀ i : Nat, i < 5 → w.cell? ⟨1, i * 2, none⟩ = some (.int .u8 (YN.getD i (0, 0)).1) ∧ w.cell? ⟨1, i * 2 + 1, none⟩ = some (.int .u8 (YN.getD i (0, 0)).2)
theorem aaj : ((List.range 256).all fun x => decide (bits .or .i32 (bits .andNot .i32 (x : Int) (IntKind.i32.wrap (240 * 2 ^ 31) / 2 ^ 31)) (bits .and .i32 65533 (IntKind.i32.wrap (240 * 2 ^ 31) / 2 ^ 31)) = (x : Int) ∧
    bits .or .i32 (bits .andNot .i32 (x : Int) (IntKind.i32.wrap (241 * 2 ^ 31) / 2 ^ 31)) (bits .and .i32 65533 (IntKind.i32.wrap (241 * 2 ^ 31) / 2 ^ 31)) = 65533)) = true := by decide +kernel
theorem aak {x : Int} (h : 0 ≤ x ∧ x < 256) : bits .or .i32 (bits .andNot .i32 x (IntKind.i32.wrap (240 * 2 ^ 31) / 2 ^ 31)) (bits .and .i32 65533 (IntKind.i32.wrap (240 * 2 ^ 31) / 2 ^ 31)) = x ∧
    bits .or .i32 (bits .andNot .i32 x (IntKind.i32.wrap (241 * 2 ^ 31) / 2 ^ 31)) (bits .and .i32 65533 (IntKind.i32.wrap (241 * 2 ^ 31) / 2 ^ 31)) = 65533 := by
  have := List.all_eq_true.1 aaj x.toNat (List.mem_range.2 (by omega))
  simpa only [decide_eq_true_eq, Int.toNat_of_nonneg h.1] using this
section
variable {b : List Int}
theorem C9 (h : GY b) (j : Nat) : 0 ≤ b.getD j 0 ∧ b.getD j 0 < 256 := by
  rw [List.getD_eq_getElem?_getD]
  by_cases hj : j < b.length
  · rw [List.getElem?_eq_getElem hj]; exact h _ (List.getElem_mem hj)
  · rw [List.getElem?_eq_none (by omega)]; decide
theorem Bg {j : Nat} (hj : j < kR (b.getD 0 0)) (h : Cc b j = false) (hl : j < b.length) : lN b = (0, kR (b.getD 0 0)) := by
  have hb : b ≠ [] := by rintro rfl; simp at hl
  unfold lN
  rw [if_neg hb, if_neg (show ¬ kR (b.getD 0 0) = 0 by omega), if_neg]
  intro hg
  have := Wi hg (m := j + 1) (by omega)
  simp only [yV, h, Bool.and_false] at this
  cases this
theorem NJ (hb : b ≠ []) (hn : 0 < kR (b.getD 0 0)) (h : yV b (min (kR (b.getD 0 0)) b.length) = true) : lN b = (min (kR (b.getD 0 0)) b.length, kR (b.getD 0 0)) := by
  unfold lN
  rw [if_neg hb, if_neg (show ¬ kR (b.getD 0 0) = 0 by omega), if_pos h]
theorem NK (h : kR (b.getD 0 0) = 0) : lN b = (0, 0) := by
  unfold lN
  by_cases hb : b = []
  · rw [if_pos hb]
  · rw [if_neg hb, if_pos h]
theorem YP (h : kR (b.getD 0 0) = 0) : rX b = (65533, 1) := by
  unfold rX vN; rw [NK h]; rfl
theorem BI {j : Nat} (hb : b ≠ []) (hj : j < kR (b.getD 0 0)) (h : Cc b j = false) : rX b = (65533, 1) := by
  by_cases hl : j < b.length
  · unfold rX vN; rw [Bg hj h hl]; rw [if_neg]; simp only [decide_eq_true_eq]; omega
  · unfold rX vN
    have h1 := IB (b := b)
    rw [Qr hb] at h1 ⊢
    rw [if_neg]
    simp only [decide_eq_true_eq]; omega
theorem aal {j : Nat} (h : b.length ≤ j) (hj : 0 < j) : Cc b j = false := by
  unfold Cc
  rw [List.getD_eq_getElem?_getD, List.getElem?_eq_none h]
  simp
  omega
theorem FT {n : Nat} (hb : b ≠ []) (hn : kR (b.getD 0 0) = n) (h1 : 1 ≤ n) (hl : n ≤ b.length) (h : yV b n = true) : rX b = (Lu b n, n) := by
  have := NJ hb (by omega) (by rw [hn, Nat.min_eq_left hl]; exact h)
  rw [hn, Nat.min_eq_left hl] at this
  unfold rX vN; rw [this]; rw [if_pos]; simp [show 0 < n from h1]
theorem NM (hb : b ≠ []) (h : b.getD 0 0 < 128) : rX b = (b.getD 0 0, 1) := by
  have hl := List.length_pos_iff.2 hb
  rw [FT (n := 1) hb (by unfold kR; rw [if_pos h]) (Nat.le_refl _) hl (by simp [yV, Cc])]
  rfl
theorem ok1 (h1 : D8 (b.getD 0 0) ≤ b.getD 1 0) (h2 : b.getD 1 0 ≤ xW (b.getD 0 0)) : Cc b 1 = true := by
  have : 128 ≤ b.getD 1 0 ∧ b.getD 1 0 ≤ 191 := by
    unfold D8 at h1; unfold xW at h2
    constructor
    · split at h1 <;> (try split at h1) <;> omega
    · split at h2 <;> (try split at h2) <;> omega
  unfold Cc
  simp only [Bool.or_eq_true, Bool.and_eq_true, decide_eq_true_eq]
  exact .inr ⟨this, .inr ⟨h1, h2⟩⟩
theorem Wn (h : b.getD 1 0 < D8 (b.getD 0 0) ∨ xW (b.getD 0 0) < b.getD 1 0) : Cc b 1 = false := by
  unfold Cc
  rw [← Bool.not_eq_true]
  simp only [Bool.or_eq_true, Bool.and_eq_true, decide_eq_true_eq]
  rintro (h1 | ⟨h1, h2 | h2⟩)
  · simp at h1
  · simp at h2
  · omega
theorem okj {j : Nat} (hj : 2 ≤ j) (h : 128 ≤ b.getD j 0 ∧ b.getD j 0 ≤ 191) : Cc b j = true := by
  unfold Cc
  simp only [Bool.or_eq_true, Bool.and_eq_true, decide_eq_true_eq]
  exact .inr ⟨h, .inl (by simp; omega)⟩
theorem Rt {j : Nat} (hj : 1 ≤ j) (h : b.getD j 0 < 128 ∨ 191 < b.getD j 0) : Cc b j = false := by
  unfold Cc
  rw [← Bool.not_eq_true]
  simp only [Bool.or_eq_true, Bool.and_eq_true, decide_eq_true_eq]
  rintro (h1 | ⟨h1, h2⟩)
  · simp at h1; omega
  · omega
theorem ok0 : Cc b 0 = true := rfl
end
section
variable {w0 w : World} {F : HP} {v : Value} {b : List Int}
theorem aam (H : V w0 w F) (hT : Cj w0) (hv : jm w0 F .u8 v b) (hb : GY b) (hne : b ≠ []) : iM prog 129 #[v] w fun v' w' => v' = .tuple #[.int .i32 (rX b).1, .int .i64 ((rX b).2 : Nat)] ∧ V w0 w' F := by
  have hl := List.length_pos_iff.2 hne
  have y0 := C9 hb 0
  have y1 := C9 hb 1
  have y2 := C9 hb 2
  have y3 := C9 hb 3
  have hf := aai y0
  have hfb : 0 ≤ firstM (b.getD 0 0).toNat ∧ firstM (b.getD 0 0).toNat < 256 := by
    rcases hf with h1 | h1 | h1
    · omega
    · omega
    · exact ⟨h1.1, Int.lt_trans h1.2.1 (by decide)⟩
  have hn4 := NH (b.getD 0 0)
  refine iQ func129 ntmps129 ?_
  refine jw (iC O (iP O (bY O (aW (jJ (hv _ (H)) bf O) (sS O (bY O (aW (fG O O) (jd (ZM O (fun h1 => ?_))))))))))
  (try simp only [aF] at h1)
  refine iy (bY O ?_)
  obtain ⟨bv, ov, cv, ev⟩ := jP.nR (hv _ (H)) (by omega)
  cases ev
  refine aW (dD bf eP O O (by omega)) (aW (eG (dn bD O) O (jP.TK 0 (hv _ (H)) (by omega))) (iP O (bY O (aW (ER underlying228 eP O O (by omega)) ?_))))
  refine aW (eG (dn bD O) O (by rw [show 0 + (b.getD 0 0).toNat * 1 = (b.getD 0 0).toNat from by omega]; exact H.cell (hT.first _ (by omega)))) ?_
  refine sS O (bY O (aW (nM O O) (jv O (fun h2 => ?_) (fun h2 => ?_))))
  · (try simp only [aF] at h2)
    refine bY O ?_
    refine aW (iZ O (by rw [underlying5]; rfl) dM (jC (by omega))) ?_
    refine aW (aag 31 O O (by decide)) (aW (aah 31 O O (by decide)) (iP O (bY O (aW (dD bf eP O O (by omega)) (aW (eG (dn bD O) O (jP.TK 0 (hv _ (H)) (by omega))) ?_)))))
    refine aW (iZ O (by rw [underlying5]; rfl) dM (jC (by omega))) ?_
    refine bT O ?_
    refine aW (Ea .andNot O O (by simp)) ?_
    refine bT O ?_
    refine aW (Ea .and O O (by simp)) ?_
    refine aW (Ea .or O O (by simp)) ?_
    refine iC O (ig O (aC (Dw oP O O ?_)))
    rcases hf with ⟨h1, h2⟩ | ⟨h1, h2⟩ | h1
    · rw [h1, NM hne h2]
      exact ⟨by rw [(aak y0).1]; rfl, H⟩
    · rw [h1, YP h2.1]
      exact ⟨by rw [(aak y0).2]; rfl, H⟩
    · exfalso; omega
  · (try simp only [aF] at h2)
    refine iy (aO ?_)
    have hf2 : 0 ≤ firstM (b.getD 0 0).toNat ∧ firstM (b.getD 0 0).toNat < 240 ∧ firstM (b.getD 0 0).toNat % 8 = (kR (b.getD 0 0) : Int) ∧ 2 ≤ kR (b.getD 0 0) ∧ 128 ≤ b.getD 0 0 ∧ firstM (b.getD 0 0).toNat / 16 < 5 ∧ YN.getD (firstM (b.getD 0 0).toNat / 16).toNat (0, 0) = (D8 (b.getD 0 0), xW (b.getD 0 0)) := by
      rcases hf with h1 | h1 | h1
      · exfalso; have := h1.1; omega
      · exfalso; have := h1.1; omega
      · exact h1
    obtain ⟨q1, q2, q3, q4, q5, q6, q7⟩ := hf2
    have hacc := hT.acc (firstM (b.getD 0 0).toNat / 16).toNat (by omega)
    rw [q7] at hacc
    refine aA (bT O (aW (iR 3 7 8 (by decide) (by decide) (by decide) O O (by omega)) ?_))
    refine aW (iZ O (by rw [underlying5]; rfl) aB (acy (by omega))) ?_
    refine iP O (bY O (aW (vW 4 16 (by decide) (by decide) O O) (aW (ER underlying231 sizeOf230 O O (by omega)) ?_)))
    refine aW (DZ (cs := [.int .u8 (D8 (b.getD 0 0)), .int .u8 (xW (b.getD 0 0))]) (by rw [underlying230]; rfl) (TT underlying230 O) sizeOf230 O O (YL (by rw [Nat.zero_add]; exact H.cell hacc.1) (by rw [Nat.zero_add]; exact H.cell hacc.2))) ?_
    refine iY (fK (l := [_, _]) H zeroValue230 O) ?_
    rintro _ w1 ⟨b1, rfl, H1⟩
    refine aI (dG 0 (l' := [_, _]) (us := [_, _]) H1 sizeOf230 O O O (aG (aG bK)) O O) ?_
    rintro _ w2 H2
    refine rV (bY O (bT O (aW (fG O O) (jv O (fun h3 => ?_) (fun h3 => ?_)))))
    · (try simp only [aF] at h3)
      refine jw (iC O (ig O (aC (Dw oP O O ?_))))
      exact ⟨by rw [BI (j := b.length) hne (by omega) (aal (Nat.le_refl _) hl)]; rfl, H2.right⟩
    · (try simp only [aF] at h3)
      refine iy (bY O (aW (dD bf eP O O (by omega)) (aW (eG (dn bD O) O (jP.TK 1 (hv _ (H2.right)) (by omega))) (sS O (bY O (bn 0 underlying230 O eP O (fB bD O (H2).get.2 O (aW (fG O O) (mX O (fun h4 => ?_) (fun h4 => ?_))))))))))
      · (try simp only [aF] at h4)
        refine dF (dF (dF (dF (nZ O O (jd (GV (jw (iC O (ig O (aC (Dw oP O O ?_)))))))))))
        exact ⟨by rw [BI (j := 1) hne (by omega) (Wn (by omega))]; rfl, H2.right⟩
      · (try simp only [aF] at h4)
        refine bW (bn 1 underlying230 O eP O (bW (fB bD O (H2).get.2 O (bW (bT O (bW (aW (fG O O) (kX O O (jv O (fun h5 => ?_) (fun h5 => ?_))))))))))
        · (try simp only [aF] at h5)
          refine jw (iC O (ig O (aC (Dw oP O O ?_))))
          exact ⟨by rw [BI (j := 1) hne (by omega) (Wn (by omega))]; rfl, H2.right⟩
        · (try simp only [aF] at h5)
          refine iy (aO (bY O (aW (qc O O) (jv O (fun h6 => ?_) (fun h6 => ?_)))))
          · (try simp only [aF] at h6)
            refine bY O (aW (iR 5 31 32 (by decide) (by decide) (by decide) O O (by omega)) ?_)
            refine aW (iZ O (by rw [underlying5]; rfl) dM (jC (by omega))) ?_
            refine aW (Ez 6 64 (by decide) (by decide) O O (jC (by omega))) (bT O (aW (iR 6 63 64 (by decide) (by decide) (by decide) O O (by omega)) ?_))
            refine aW (iZ O (by rw [underlying5]; rfl) dM (jC (by omega))) ?_
            refine aW (tH 6 64 (by decide) O O (by omega)) (iC O (ig O (aC (Dw oP O O ?_))))
            exact ⟨by rw [FT (n := 2) hne (by omega) (by decide) (by omega) (by simp only [yV, ok0, ok1 (b := b) (by omega) (by omega), Bool.and_true])]; rfl, H2.right⟩
          · (try simp only [aF] at h6)
            refine iy (bY O (aW (dD bf eP O O (by omega)) (aW (eG (dn bD O) O (jP.TK 2 (hv _ (H2.right)) (by omega))) (sS O (bY O (aW (fG O O) (mX O (fun h7 => ?_) (fun h7 => ?_))))))))
            · (try simp only [aF] at h7)
              refine dF (dF (nZ O O (jd (GV (jw (iC O (ig O (aC (Dw oP O O ?_)))))))))
              exact ⟨by rw [BI (j := 2) hne (by omega) (Rt (by decide) (by omega))]; rfl, H2.right⟩
            · (try simp only [aF] at h7)
              refine bW (bT O (bW (aW (fG O O) (kX O O (jv O (fun h8 => ?_) (fun h8 => ?_))))))
              · (try simp only [aF] at h8)
                refine jw (iC O (ig O (aC (Dw oP O O ?_))))
                exact ⟨by rw [BI (j := 2) hne (by omega) (Rt (by decide) (by omega))]; rfl, H2.right⟩
              · (try simp only [aF] at h8)
                refine iy (aO (bY O (aW (qc O O) (jv O (fun h9 => ?_) (fun h9 => ?_)))))
                · (try simp only [aF] at h9)
                  refine bY O (aW (iR 4 15 16 (by decide) (by decide) (by decide) O O (by omega)) ?_)
                  refine aW (iZ O (by rw [underlying5]; rfl) dM (jC (by omega))) ?_
                  refine aW (Ez 12 4096 (by decide) (by decide) O O (jC (by omega))) (bT O (aW (iR 6 63 64 (by decide) (by decide) (by decide) O O (by omega)) ?_))
                  refine aW (iZ O (by rw [underlying5]; rfl) dM (jC (by omega))) ?_
                  refine aW (Ez 6 64 (by decide) (by decide) O O (jC (by omega))) (aW (tH 12 4096 (by decide) O O (by omega)) (bT O (aW (iR 6 63 64 (by decide) (by decide) (by decide) O O (by omega)) ?_)))
                  refine aW (iZ O (by rw [underlying5]; rfl) dM (jC (by omega))) ?_
                  refine aW (tH 6 64 (by decide) O O (by omega)) (iC O (ig O (aC (Dw oP O O ?_))))
                  exact ⟨by rw [FT (n := 3) hne (by omega) (by decide) (by omega) (by simp only [yV, ok0, ok1 (b := b) (by omega) (by omega), okj (b := b) (j := 2) (by decide) (by omega), Bool.and_true])]; rfl, H2.right⟩
                · (try simp only [aF] at h9)
                  refine iy (bY O (aW (dD bf eP O O (by omega)) (aW (eG (dn bD O) O (jP.TK 3 (hv _ (H2.right)) (by omega))) (sS O (bY O (aW (fG O O) (mX O (fun h10 => ?_) (fun h10 => ?_))))))))
                  · (try simp only [aF] at h10)
                    refine dF (dF (nZ O O (jd (GV (jw (iC O (ig O (aC (Dw oP O O ?_)))))))))
                    exact ⟨by rw [BI (j := 3) hne (by omega) (Rt (by decide) (by omega))]; rfl, H2.right⟩
                  · (try simp only [aF] at h10)
                    refine bW (bT O (bW (aW (fG O O) (kX O O (jv O (fun h11 => ?_) (fun h11 => ?_))))))
                    · (try simp only [aF] at h11)
                      refine jw (iC O (ig O (aC (Dw oP O O ?_))))
                      exact ⟨by rw [BI (j := 3) hne (by omega) (Rt (by decide) (by omega))]; rfl, H2.right⟩
                    · (try simp only [aF] at h11)
                      refine iy (bY O (aW (iR 3 7 8 (by decide) (by decide) (by decide) O O (by omega)) ?_))
                      refine aW (iZ O (by rw [underlying5]; rfl) dM (jC (by omega))) ?_
                      refine aW (Ez 18 262144 (by decide) (by decide) O O (jC (by omega))) (bT O (aW (iR 6 63 64 (by decide) (by decide) (by decide) O O (by omega)) ?_))
                      refine aW (iZ O (by rw [underlying5]; rfl) dM (jC (by omega))) ?_
                      refine aW (Ez 12 4096 (by decide) (by decide) O O (jC (by omega))) (aW (tH 18 262144 (by decide) O O (by omega)) (bT O (aW (iR 6 63 64 (by decide) (by decide) (by decide) O O (by omega)) ?_)))
                      refine aW (iZ O (by rw [underlying5]; rfl) dM (jC (by omega))) ?_
                      refine aW (Ez 6 64 (by decide) (by decide) O O (jC (by omega))) (aW (tH 12 4096 (by decide) O O (by omega)) (bT O (aW (iR 6 63 64 (by decide) (by decide) (by decide) O O (by omega)) ?_)))
                      refine aW (iZ O (by rw [underlying5]; rfl) dM (jC (by omega))) ?_
                      refine aW (tH 6 64 (by decide) O O (by omega)) (iC O (ig O (Dw oP O O ?_)))
                      exact ⟨by rw [FT (n := 4) hne (by omega) (by decide) (by omega) (by simp only [yV, ok0, ok1 (b := b) (by omega) (by omega), okj (b := b) (j := 2) (by decide) (by omega), okj (b := b) (j := 3) (by decide) (by omega), Bool.and_true])]; rfl, H2.right⟩
end
end Go.Proofs.YtgofgnlkpeghcaaGreatDoor
end
section
set_option maxRecDepth 100000
namespace Go.Proofs.YtgofgnlkpeghcaaGreatDoor
open Go.ChangeShapes Go.WideShapes Go.ChangeAt Go.RowKit
theorem adZ : Tryz.prog.globalNamed "unicode/utf8.first" = some 0 := by kernel_rfl
theorem agJ : Tryz.prog.globalNamed "unicode/utf8.acceptRanges" = some 1 := by kernel_rfl
theorem ad0 : (Tryz.prog.globals[0]?).map (·.type) = some 228 := by kernel_rfl
theorem agK : (Tryz.prog.globals[1]?).map (·.type) = some 231 := by kernel_rfl
def Qs : List (Int × Int) := [(128, 191), (160, 191), (128, 159), (144, 191), (128, 143), (0, 0), (0, 0), (0, 0), (0, 0), (0, 0), (0, 0), (0, 0), (0, 0), (0, 0), (0, 0), (0, 0)]
def XO (x : Int × Int) : DataW Unit := .agg [.lit (.int .u8 x.1), .lit (.int .u8 x.2)]
def zQ (T : List (Int × Int)) : List Value := T.flatMap fun x => [.int .u8 x.1, .int .u8 x.2]
theorem Qu (T : List (Int × Int)) (k : Nat) (h : k < T.length) : (zQ T).getD (k * 2) undef = .int .u8 (T.getD k (0, 0)).1 ∧ (zQ T).getD (k * 2 + 1) undef = .int .u8 (T.getD k (0, 0)).2 := by
  induction T generalizing k with
  | nil => simp at h
  | cons x r ih =>
    cases k with
    | zero => exact ⟨rfl, rfl⟩
    | succ k =>
      have := ih k (by simpa using h)
      rw [show (k + 1) * 2 = k * 2 + 2 from by omega, show k * 2 + 2 + 1 = (k * 2 + 1) + 2 from by omega]
      simpa [zQ, List.getD_eq_getElem?_getD] using this
theorem Ud (T : List (Int × Int)) : (zQ T).length = T.length * 2 := by
  induction T with
  | nil => rfl
  | cons x r ih => simp only [zQ, List.flatMap_cons, List.length_append] at *; simp [ih]; omega
section
variable {enc : TypeId × Value → Unit} {w : World} {base : Nat} {spare : Nat → Bool} {held : Bool} {fuel : Nat} {ps : List MemPlace}
theorem acz {cs : List Value} {x : Int × Int} (h : DataW.trod enc Tryz.prog w base spare held fuel 230 cs = some (XO x, ps)) : cs = [.int .u8 x.1, .int .u8 x.2] := by
  obtain ⟨xs, n, -, hx, hl, hl2, hf⟩ := DataW.trod_struct Tryz.underlying230 h
  rw [show Tryz.prog.cellsOf 230 = 2 from by kernel_rfl] at hl
  simp only [Prod.mk.injEq, XO, DataW.agg.injEq] at hx
  match xs, hl2, hx, cs, hl with
  | [y0, y1], _, hx, [c0, c1], _ =>
    have h0 : DataW.trod enc Tryz.prog w base spare held n 5 (([c0, c1].drop 0).take (Tryz.prog.cellsOf 5)) = some y0 := hf 0 _ rfl
    have h1 : DataW.trod enc Tryz.prog w base spare held n 5 (([c0, c1].drop 1).take (Tryz.prog.cellsOf 5)) = some y1 := hf 1 _ rfl
    simp only [List.map_cons, List.map_nil, List.cons.injEq] at hx
    obtain ⟨n0, e0, d0, -⟩ := DataW.trod_int Tryz.underlying5 h0
    obtain ⟨n1, e1, d1, -⟩ := DataW.trod_int Tryz.underlying5 h1
    rw [show Tryz.prog.cellsOf 5 = 1 from by kernel_rfl] at e0 e1
    simp at e0 e1
    rw [d0, d1] at hx
    simp at hx
    subst e0; subst e1
    rw [hx.1.1, hx.1.2]
theorem acA {t n : Nat} {cs : List Value} {T : List (Int × Int)} (ht : Tryz.prog.underlying t = some (.array n 230)) (hc : Tryz.prog.cellsOf t = n * 2) (h : DataW.trod enc Tryz.prog w base spare held fuel t cs = some (.agg (T.map XO), ps)) : cs = zQ T := by
  obtain ⟨xs, m, -, hx, hl, hl2, hel⟩ := DataW.trod_array ht h
  simp only [Prod.mk.injEq, DataW.agg.injEq] at hx
  rw [hc] at hl
  have hTn : T.length = n := by have := congrArg List.length hx.1; simpa [hl2] using this
  have hv := Ud T
  apply List.ext_getElem?
  intro j
  by_cases hj : j < n * 2
  · have hk : j / 2 < n := by omega
    have h1 := hel (j / 2) hk
    rw [show Tryz.prog.cellsOf 230 = 2 from by kernel_rfl, List.getElem?_eq_getElem (by omega)] at h1
    have h2 : xs[j / 2].1 = XO (T.getD (j / 2) (0, 0)) := by
      have := congrArg (fun l => l[j / 2]?) hx.1
      simp [List.getElem?_eq_getElem (show j / 2 < T.length by omega), List.getElem?_eq_getElem (show j / 2 < xs.length by omega)] at this
      rw [List.getD_eq_getElem?_getD, List.getElem?_eq_getElem (show j / 2 < T.length by omega), Option.getD_some, this]
    have h3 := acz (x := T.getD (j / 2) (0, 0)) (ps := xs[j / 2].2) (by rw [h1, ← h2])
    obtain ⟨e0, e1⟩ := Qu T (j / 2) (by omega)
    have hq : (zQ T)[j]? = some ((zQ T).getD j undef) := by rw [List.getD_eq_getElem?_getD, List.getElem?_eq_getElem (by omega)]; rfl
    rw [hq]
    rcases (show j = j / 2 * 2 ∨ j = j / 2 * 2 + 1 by omega) with hj2 | hj2
    · have := congrArg (fun l => l[0]?) h3
      simp [List.getElem?_drop] at this
      rw [show j / 2 * 2 = j from by omega] at this e0
      rw [this, e0]; simp [List.getD_eq_getElem?_getD]
    · have := congrArg (fun l => l[1]?) h3
      simp [List.getElem?_take, List.getElem?_drop] at this
      rw [show j / 2 * 2 + 1 = j from by omega] at this e1
      rw [this, e1]; simp [List.getD_eq_getElem?_getD]
  · rw [List.getElem?_eq_none (by omega), List.getElem?_eq_none (by omega)]
theorem aan {t n : Nat} {cs : List Value} {Z : List Nat} (ht : Tryz.prog.underlying t = some (.array n 5)) (h : DataW.trod enc Tryz.prog w base spare held fuel t cs = some (.agg (Z.map fun (q : Nat) => .lit (.int .u8 q)), ps)) {r : Nat} (hr : r < n) : cs[r]? = some (.int .u8 (Z.getD r 0 : Nat)) := by
  obtain ⟨xs, m, _, ex, _, hl, hel⟩ := DataW.trod_array ht h
  have c5 : Tryz.prog.cellsOf 5 = 1 := by kernel_rfl
  have hE := hel r hr
  rw [c5, Nat.mul_one, List.getElem?_eq_getElem (by omega)] at hE
  obtain ⟨z, e1, e2, _⟩ := DataW.trod_int Tryz.underlying5 hE
  have e3 : (xs.map (·.1)) = Z.map fun (q : Nat) => .lit (.int .u8 q) := (DataW.agg.inj (Prod.mk.inj ex).1).symm
  have hzl : Z.length = n := by have := congrArg List.length e3; simpa [hl] using this.symm
  have e4 : (xs.map (·.1))[r]? = (Z.map fun (q : Nat) => (DataW.lit (.int .u8 q) : DataW Unit))[r]? := by rw [e3]
  rw [List.getElem?_map, List.getElem?_map, List.getElem?_eq_getElem (by omega : r < xs.length), List.getElem?_eq_getElem (by omega : r < Z.length), e2] at e4
  have hz : z = (Z.getD r 0 : Nat) := by
    simp only [Option.map_some, Option.some.injEq, DataW.lit.injEq, Lit.int.injEq, true_and] at e4
    rw [e4, List.getD_eq_getElem?_getD, List.getElem?_eq_getElem (by omega : r < Z.length)]; rfl
  have : cs[r]? = some (.int .u8 z) := by
    have h0 : ((cs.drop r).take 1)[0]? = some (.int .u8 z) := by rw [e1]; rfl
    simpa using h0
  rw [this, hz]
end
theorem aao {W : World} (h : laidMetH Tryz.prog NG W) : Cj W := by
  rw [MakeChecks.laidMetH_plain _ _ _ (by kernel_rfl)] at h
  obtain ⟨ps, ⟨g3, t3, cs3, f3, p3, q3, hg3, ht3, hv3, hd3, ⟨g2, t2, cs2, f2, p2, q2, hg2, ht2, hv2, hd2, _, _⟩, _⟩, _, _⟩ := h
  obtain rfl := Option.some.inj (adZ.symm.trans hg2)
  obtain rfl := Option.some.inj (agJ.symm.trans hg3)
  obtain rfl := Option.some.inj (ad0.symm.trans ht2)
  obtain rfl := Option.some.inj (agK.symm.trans ht3)
  have e3 := acA (T := Qs) Tryz.underlying231 (by kernel_rfl) hd3
  refine ⟨fun x hx => ?_, fun i hi => ?_⟩
  · rw [World.var?_cell hg2 hv2 x, ← Array.getElem?_toList, aan (Z := Go.Pinned.utf8FirstZ) Tryz.underlying228 hd2 hx]; rfl
  · have hp := Qu Qs i (by simp [Qs]; omega)
    have ha : Qs.getD i (0, 0) = YN.getD i (0, 0) := by
      match i, hi with
      | 0, _ => rfl
      | 1, _ => rfl
      | 2, _ => rfl
      | 3, _ => rfl
      | 4, _ => rfl
    rw [ha] at hp
    have hl := Ud Qs
    have hl2 : Qs.length = 16 := rfl
    constructor
    · rw [World.var?_cell hg3 hv3 _, ← Array.getElem?_toList, e3, ← hp.1, List.getD_eq_getElem?_getD, List.getElem?_eq_getElem (by omega)]; rfl
    · rw [World.var?_cell hg3 hv3 _, ← Array.getElem?_toList, e3, ← hp.2, List.getD_eq_getElem?_getD, List.getElem?_eq_getElem (by omega)]; rfl
end Go.Proofs.YtgofgnlkpeghcaaGreatDoor
end
section
namespace Go.Proofs.YtgofgnlkpeghcaaGreatDoor
open Go.ChangeShapes Go.WideShapes Go.ChangeAt Go.RowKit
theorem EG.six {H : Type} {B : Nat} {enc : TypeId × Value → H} {P : Program} {W : World} {args : Array Value} {t1 t2 t3 t4 t5 t6 : TypeId} (h : EG B enc P W [t1, t2, t3, t4, t5, t6] args.toList) : ∃ v1 v2 v3 v4 v5 v6, args = #[v1, v2, v3, v4, v5, v6] ∧ ((∃ base, Value.okWide P W .any base t1 v1) ∧ Dx B enc P W t1 v1.cells.toList) ∧ ((∃ base, Value.okWide P W .any base t2 v2) ∧ Dx B enc P W t2 v2.cells.toList) ∧ ((∃ base, Value.okWide P W .any base t3 v3) ∧ Dx B enc P W t3 v3.cells.toList) ∧ ((∃ base, Value.okWide P W .any base t4 v4) ∧ Dx B enc P W t4 v4.cells.toList) ∧ ((∃ base, Value.okWide P W .any base t5 v5) ∧ Dx B enc P W t5 v5.cells.toList) ∧ ((∃ base, Value.okWide P W .any base t6 v6) ∧ Dx B enc P W t6 v6.cells.toList) := by
  obtain ⟨v1, w1, e, h1, i1, r1⟩ := h.cons; obtain ⟨v2, w2, rfl, h2, i2, r2⟩ := r1.cons; obtain ⟨v3, w3, rfl, h3, i3, r3⟩ := r2.cons; obtain ⟨v4, w4, rfl, h4, i4, r4⟩ := r3.cons; obtain ⟨v5, w5, rfl, h5, i5, r5⟩ := r4.cons; obtain ⟨v6, w6, rfl, h6, i6, r6⟩ := r5.cons; obtain rfl := r6.nil'
  exact ⟨v1, v2, v3, v4, v5, v6, by cases args; simp_all, ⟨h1, i1⟩, ⟨h2, i2⟩, ⟨h3, i3⟩, ⟨h4, i4⟩, ⟨h5, i5⟩, ⟨h6, i6⟩⟩
theorem acB {α : Type _} {l : List α} (h : l.length = 6) : ∃ a b c d e f, l = [a, b, c, d, e, f] := by match l, h with | [a, b, c, d, e, f], _ => exact ⟨a, b, c, d, e, f, rfl⟩
section
variable {H : Type} {P : Program} {enc : TypeId × Value → H} {W : World}
end
end Go.Proofs.YtgofgnlkpeghcaaGreatDoor
end
section
namespace Go.Proofs.YtgofgnlkpeghcaaGreatDoor
open Go.RowKit
open _root_.Go.Proofs.Tryz
theorem Eb {l m : List Int} {i : Nat} (h1 : i < l.length) (h2 : i < m.length) (h : l.take i = m.take i) (e : l.getD i 0 = m.getD i 0) : l.take (i + 1) = m.take (i + 1) := by
  rw [List.take_succ_eq_append_getElem h1, List.take_succ_eq_append_getElem h2, h]
  simp [List.getD_eq_getElem?_getD, h1, h2] at e
  rw [e]
theorem JH (w : World) (v1 v2 : Value) (l1 l2 : List Int) (h1 : jP w .i32 v1 l1) (h2 : jP w .i32 v2 l2) :
  iM prog 42 #[v1, v2] w fun v w' => v = .bool (l1 == l2) ∧ wH w w' := by
 obtain ⟨a1, c1, rfl, hc1, hm1, hr1⟩ := h1.open
 obtain ⟨a2, c2, rfl, hc2, hm2, hr2⟩ := h2.open
 clear h1 h2
 refine qI func42 ntmps42 ?_
 refine kQ O (aO (bY O (aW (jS ay O) (bT O (aW (jS ay O) (aW (gy O O) (jv O (fun h1 => ?_) (fun h1 => ?_))))))))
 ·(try simp only [aF] at h1)
  refine mP O (aC (fD results42 O ?_))
  exact ⟨by rw [show (l1 == l2) = false from beq_eq_false_iff_ne.2 (by rintro rfl; exact h1 rfl)], wH.refl _⟩
 ·(try simp only [aF] at h1)
  refine iy (aO (bY O (aW (jS ay O) (bT O (jd (bg ?_))))))
  refine gq [(0, _), (1, _), (12, _)] (fun (k : Nat) => [(13, .int .i64 (k : Int))]) (fun (k : Nat) W => k ≤ l1.length ∧ l1.length = l2.length ∧ l1.take k = l2.take k ∧ wH w W) (fun (k : Nat) => l1.length - k) (0) Du oO ⟨by omega, by omega, by simp, wH.refl _⟩ ?_
  rintro k w1 ⟨hk, hl, ht, hD⟩
  dsimp only [List.cons_append, List.nil_append]
  refine jw (aW (fG O O) (rV (dA O (fun h2 => ?_) (fun h2 => ?_))))
  ·(try simp only [aF] at h2)
   refine iy (aO (bg (bY O (sS O ?_))))
   obtain ⟨b1, o1, rfl, hq1⟩ := hr1 (by omega)
   obtain ⟨b2, o2, rfl, hq2⟩ := hr2 (by omega)
   have hc1 := hq1 k (by omega)
   have hc2 := hq2 k (by omega)
   refine tC (n := 9) [0, 1, 2, 3, 4, 5, 6, 7, 8] (fun W => W.heap = w1.heap) (by kernel_rfl) (by kernel_rfl) O ?_
   have hS0 : (fun W => W.heap = w1.heap) (w1.drew) := rfl
   refine gQ 0 O hS0 O (gQ 1 O hS0 O (iL 2 O hS0 (fun _ => dD ay iE O O (by omega)) ?_))
   refine iO 3 O hS0 (fun W hW => eG (dn dM O) O (by rw [yZ (hW.trans hD.heap)]; simpa using hc1)) ?_
   refine gQ 4 O hS0 O (gQ 5 O hS0 O (iL 6 O hS0 (fun _ => dD ay iE O O (by omega)) ?_))
   refine iO 7 O hS0 (fun W hW => eG (dn dM O) O (by rw [yZ (hW.trans hD.heap)]; simpa using hc2)) ?_
   refine iL 8 O hS0 (fun _ => gy O O) (qj (aZ (dA O (fun h3 => ?_) (fun h3 => ?_))))
   ·(try simp only [aF] at h3)
    refine mP O (aX (aC (aC (aX (aC (fD results42 O ?_))))))
    exact ⟨by rw [show (l1 == l2) = false from beq_eq_false_iff_ne.2 (by rintro rfl; exact h3 rfl)], hD.drew⟩
   ·(try simp only [aF] at h3)
    refine dS (aP (aZ (aA (aW (fP O O (by omega)) (bT O (bZ ?_))))))
    refine dN (k + 1) ?_ ?_ ?_ ?_
    ·exact oO
    ·exact Du
    ·(try dsimp only)
     first | done | exact ⟨by omega, by omega, Eb (by omega) (by omega) ht (by simpa using h3), hD.drew⟩
    ·(try dsimp only); omega
  ·(try simp only [aF] at h2)
   refine eH (aT (aT (bU (aZ (mP O (fD results42 O ?_))))))
   exact ⟨by rw [show (l1 == l2) = true from beq_iff_eq.2 (by rw [List.take_of_length_le (by omega), List.take_of_length_le (by omega)] at ht; exact ht)], hD⟩
theorem uI : (prog.info? 21).map (fun i => (i.zero, i.size, i.bytes)) = some (some (.int .i32 0), 1, 4) := by kernel_rfl
theorem uY {w0 w : World} {F : HP} {v : Value} {l : List Int} (H : V w0 w F) (hr : jm w0 F .i32 v l) (hb : l.length * 4 ≤ 140737488355328) :
    iM prog 43 #[v] w fun v' w' => V w0 w' (jR 21 .i32 v' l • F) := by
  obtain ⟨a, c, rfl, h1, h2, h3⟩ := (hr w H).open
  refine iQ func43 ntmps43 ?_
  refine kQ O (aO (bY O (aW (zM ay O O) ?_)))
  refine jv O (fun h1 => ?_) (fun h1 => ?_)
  · (try simp only [aF] at h1)
    refine mP O (aC (fD results43 O ?_))
    obtain rfl : a = none := by simpa using h1
    obtain rfl : l = [] := by
      cases l with
      | nil => rfl
      | cons x l => obtain ⟨b, o, e, _⟩ := h3 (by simp); cases e
    exact H.gG none
  · (try simp only [aF] at h1)
    refine iy (jw (iY (kU (vs := []) H ay iE zeroValue21 O O O (by decide) (by simp)) ?_))
    rintro _ w1 H1
    refine bT O (iY (dL (l := []) H1 (hr.under _ H1) ay uI O O (by simp; omega) (by simpa using hb)) ?_)
    rintro _ w2 H2
    refine ig O (fD results43 O ?_)
    exact H2
theorem aap {w0 w : World} {F : HP} {n : Int} (H : V w0 w F) (h0 : 0 ≤ n) (hb : n ≤ 70368744177664) :
  iM prog 94 #[.slice none 0 0, .int .i64 n] w fun v' w' => V w0 w' (jR 21 .i32 v' [] • F) := by
 refine qI func94 ntmps94 ?_
 refine kQ O (aO (bY O (aW (fG O O) (jd (ZM O (fun h1 => ?_))))))
 (try simp only [aF] at h1)
 refine iy (aO (bY O (bT O (aW (adg ay O) (bT O (aW (jS ay O) (aW (lW O O (by omega)) (aW (lW O O (by omega)) (iP O (bY O (aW (iT O O) (jv O (fun h2 => ?_) (fun h2 => ?_)))))))))))))
 ·(try simp only [aF] at h2)
  refine aA (jy O O (aW (adg ay O) (aW (uV ay iE O O O (by omega)) ?_)))
  refine bT O (iY (Ny H ay aB uI O O (by omega) (by omega) (by omega)) ?_)
  rintro _ w1 ⟨g, c, cur, rfl, hc1, hc2, hc3, H1⟩
  refine bT O (aW (jS ay O) (aW (uV ay iE O O O (by omega)) ?_))
  refine iP O (bY O (ig O (fD results94 O ?_)))
  exact H1.BG (o := 0) (by simp) (Qo 1 0 g 0 _ c) (by simp) hc2 (by simpa using hc3) (by simp)
 ·(try simp only [aF] at h2)
  refine iy (bY O (ig O (fD results94 O ?_)))
  exact H.gG none
theorem NQ {w0 w : World} {F : HP} {v : Value} {vs : List Value} {ls : List (List Int)} (H : V w0 w F) (hv : EL w0 F 1 v ls.length vs) (hls : ∀ k, k < ls.length → jm w0 F .i32 (vs.getD k undef) (ls.getD k [])) (hb : ls.flatten.length * 4 ≤ 140737488355328) :
  iM prog 46 #[v] w fun v' w' => V w0 w' (jR 21 .i32 v' ls.flatten • F) := by
 obtain ⟨_, a, c, rfl, hc1, hc2, _⟩ := hv w H
 refine iQ func46 ntmps46 ?_
 refine kQ O (kQ O (aO (bY O (aW (jS bH O) (bT O (jd (bg ?_)))))))
 refine gq [(0, _), (9, _), (10, _)] (fun (k : Nat) => [(3, .int .i64 ((ls.take k).flatten.length : Int)), (11, .int .i64 (k : Int))]) (fun (k : Nat) W => k ≤ ls.length ∧ V w0 W F) (fun (k : Nat) => ls.length - k) (0) Du (Sub.qP O (by simp) (Sub.qP O (O) (Sub.nil _))) ⟨by omega, H⟩ ?_
 rintro k w1 ⟨hk, HL⟩
 dsimp only [List.cons_append, List.nil_append]
 refine jw (aW (fG O O) (rV (dA O (fun h1 => ?_) (fun h1 => ?_))))
 ·(try simp only [aF] at h1)
  refine iy (aO (bg (aO ?_)))
  have hk1 : k < ls.length := by omega
  obtain ⟨b, o, rfl, hc⟩ := hv.cell HL (j := k) (by omega)
  obtain ⟨ak, ck, ek, hk2, hk3, _⟩ := (hls k hk1 _ HL).open
  rw [ek] at hc
  have hfl := Rk ls (k + 1)
  rw [FP ls hk1, List.length_append] at hfl
  refine aA (aW (dD bH bF O O (by omega)) ?_)
  refine aW (eG (dn ay O) O (by rw [show ((k : Int).toNat * 1) = k from by omega]; exact hc)) ?_
  refine iP O (bY O (bT O (aW (jS ay O) (aW (fP O O (by omega)) (iP O (bY O (aW (fG O O) (jd (ZM O (fun h2 => ?_))))))))))
  (try simp only [aF] at h2)
  refine dS (aP (aZ (aA (aW (fP O O (by omega)) (bT O (bZ ?_))))))
  refine dN (k + 1) ?_ ?_ ?_ ?_
  ·exact (Sub.qP O (by rw [FP ls hk1, List.length_append, Int.natCast_add]) oO)
  ·exact Du
  ·(try dsimp only)
   first | done | exact ⟨by omega, HL⟩
  ·(try dsimp only); omega
 ·(try simp only [aF] at h1)
  refine eH (aT (aT (bU (aZ (bY O (fE O func94 (aap HL (by omega) (by have := Rk ls k; omega)) ?_))))))
  rintro vg w2 H2
  refine sS O (bY O (aW (jS bH O) (bT O (jd (bg ?_)))))
  refine gq [(25, _), (26, _)] (fun (⟨k, u⟩ : Nat × Value) => [(6, u), (27, .int .i64 (k : Int))]) (fun (⟨k, u⟩ : Nat × Value) W => k ≤ ls.length ∧ V w0 W (jR 21 .i32 u (ls.take k).flatten • F)) (fun (⟨k, u⟩ : Nat × Value) => ls.length - k) ((0, vg)) rP rP ⟨by omega, H2⟩ ?_
  rintro ⟨k, u⟩ w3 ⟨hk, HM⟩
  dsimp only [List.cons_append, List.nil_append]
  refine jw (aW (fG O O) (rV (dA O (fun h3 => ?_) (fun h3 => ?_))))
  ·(try simp only [aF] at h3)
   refine iy (aO (bg (aO ?_)))
   have hk1 : k < ls.length := by omega
   obtain ⟨b, o, rfl, hc⟩ := hv.cell HM.right (j := k) (by omega)
   have hrk := hls k hk1
   have hfl := Rk ls (k + 1)
   rw [FP ls hk1, List.length_append] at hfl
   refine aA (aW (dD bH bF O O (by omega)) ?_)
   refine aW (eG (dn ay O) O (by rw [show ((k : Int).toNat * 1) = k from by omega]; exact hc)) ?_
   refine iP O (aA (jy O O (iY (dL HM (hrk _ HM.right) ay uI O O (by omega) (by omega)) ?_)))
   rintro va w4 H4
   refine iC O (bZ (aP (aZ (aA (aW (fP O O (by omega)) (bT O (bZ ?_)))))))
   refine dN ((k + 1, va)) ?_ ?_ ?_ ?_
   ·exact rP
   ·exact rP
   ·(try dsimp only)
    first | done | exact ⟨by omega, by rw [FP ls hk1]; exact H4⟩
   ·(try dsimp only); omega
  ·(try simp only [aF] at h3)
   refine eH (aT (aT (bU (aZ (bY O (ig O (fD results46 O ?_)))))))
   rw [List.take_of_length_le (by omega)] at HM; exact HM
theorem Ue {w0 w : World} {F : HP} {b : Nat} {T : TypeId} {u1 u2 : Value} {l1 l2 : List Int} (H : V w0 w (eF b (.cells #[u1, u2] T (0, 0)) • F)) (h1 : jm w0 (eF b (.cells #[u1, u2] T (0, 0)) • F) .i32 u1 l1) (h2 : jm w0 (eF b (.cells #[u1, u2] T (0, 0)) • F) .i32 u2 l2)
    (hb : (l1.length + l2.length) * 4 ≤ 140737488355328) :
    iM prog 46 #[.slice (some ⟨b, 0, none⟩) 2 2] w fun v' w' => V w0 w' (jR 21 .i32 v' (l1 ++ l2) • eF b (.cells #[u1, u2] T (0, 0)) • F) := by
  have := NQ (ls := [l1, l2]) (vs := [u1, u2]) (v := .slice (some ⟨b, 0, none⟩) 2 2) H (fun W HW => ⟨rfl, _, 2, rfl, by simp, by decide, fun _ => ⟨b, 0, rfl, fun j hj => ?_⟩⟩) (fun k hk => ?_) (by simpa using hb)
  · simpa using this
  · refine nN HW.get.2 ?_
    simp at hj
    match j, hj with
    | 0, _ => rfl
    | 1, _ => rfl
  · simp at hk
    match k, hk with
    | 0, _ => exact h1
    | 1, _ => exact h2
end Go.Proofs.YtgofgnlkpeghcaaGreatDoor
end
section
namespace Go.Proofs.YtgofgnlkpeghcaaGreatDoor
open Go.RowKit
def BJ (I : Hp) (k : IntKind) (vs : List Value) (ls : List (List Int)) : Prop := vs.length = ls.length ∧ ∀ j, j < ls.length → Gf I k (vs.getD j undef) (ls.getD j [])
def o7 (k : IntKind) (vs : List Value) (ls : List (List Int)) : HP := know (fun I => BJ I k vs ls) fun _ _ hl h => ⟨h.1, fun j hj => (h.2 j hj).mono hl⟩
def LL (e : TypeId) (k : IntKind) (v : Value) (ls : List (List Int)) : HP := yC fun vs => Row e 1 v ls.length vs • o7 k vs ls
theorem tK {α : Type _} {l m : List α} {j : Nat} {d : α} (h : j < l.length) : (l ++ m).getD j d = l.getD j d := by simp [List.getD_eq_getElem?_getD, List.getElem?_append_left h]
theorem rZ {α : Type _} {l m : List α} {j : Nat} {d : α} (h : l.length ≤ j) : (l ++ m).getD j d = m.getD (j - l.length) d := by simp [List.getD_eq_getElem?_getD, List.getElem?_append_right h]
theorem Qv {α : Type _} {l : List α} {i j : Nat} {d : α} : (l.drop i).getD j d = l.getD (i + j) d := by simp [List.getD_eq_getElem?_getD]
theorem JI {α : Type _} {l : List α} {i j : Nat} {d : α} (h : j < i) : (l.take i).getD j d = l.getD j d := by simp [List.getD_eq_getElem?_getD, List.getElem?_take, h]
theorem Bh {α : Type _} {l : List α} {j : Nat} {d : α} (h : j < l.length) : l.getD j d ∈ l := by rw [List.getD_eq_getElem?_getD, List.getElem?_eq_getElem h]; exact List.getElem_mem h
theorem BJ.app {I : Hp} {k : IntKind} {vs us : List Value} {ls ms : List (List Int)} (h : BJ I k vs ls) (g : BJ I k us ms) : BJ I k (vs ++ us) (ls ++ ms) := by
  refine ⟨by simp [h.1, g.1], fun j hj => ?_⟩
  by_cases hl : j < ls.length
  · rw [tK (by rw [h.1]; exact hl), tK hl]; exact h.2 j hl
  · have hj' : j - ls.length < ms.length := by simp at hj; omega
    rw [rZ (by rw [h.1]; omega), rZ (by omega), h.1]; exact g.2 _ hj'
theorem BJ.drop {I : Hp} {k : IntKind} {vs : List Value} {ls : List (List Int)} (h : BJ I k vs ls) (i : Nat) : BJ I k (vs.drop i) (ls.drop i) := by
  refine ⟨by simp [h.1], fun j hj => ?_⟩
  rw [Qv, Qv]
  exact h.2 _ (by simp at hj; omega)
theorem BJ.take {I : Hp} {k : IntKind} {vs : List Value} {ls : List (List Int)} (h : BJ I k vs ls) (i : Nat) : BJ I k (vs.take i) (ls.take i) := by
  refine ⟨by simp [h.1], fun j hj => ?_⟩
  simp at hj
  rw [JI (by omega), JI (by omega)]
  exact h.2 _ (by omega)
theorem Gf.one {I : Hp} {k : IntKind} {v : Value} {l : List Int} (h : Gf I k v l) : BJ I k [v] [l] := ⟨rfl, fun j hj => by
  obtain rfl : j = 0 := by simp at hj; omega
  exact h⟩
theorem Gf.aaq {I : Hp} {k : IntKind} {v : Value} {l : List Int} (h : Gf I k v l) : v.oneCell' = true := by obtain ⟨a, c, rfl, _⟩ := h; rfl
section
variable {w0 w : World} {F : HP} {e : TypeId} {k : IntKind} {v : Value} {vs us : List Value} {ls ms : List (List Int)} {l : List Int}
theorem V.FU (H : V w0 w (o7 k vs ls • F)) {j : Nat} (hj : j < ls.length) : jP w k (vs.getD j undef) (ls.getD j []) := let ⟨I, h, hI⟩ := H.wC; (h.2 j hj).rd hI
theorem V.Uf (H : V w0 w (o7 k vs ls • F)) : vs.length = ls.length := let ⟨I, h, hI⟩ := H.wC; h.1
theorem V.EX (H : V w0 w F) : V w0 w (o7 k [] [] • F) := H.xU fun I => ⟨rfl, fun j hj => by simp at hj⟩
theorem V.FV (H : V w0 w (o7 k vs ls • nS k v l • F)) : V w0 w (o7 k (vs ++ [v]) (ls ++ [l]) • F) := H.F9 (vV (fun I h g => h.app g.one) F)
theorem V.YQ (H : V w0 w (nS k v l • o7 k vs ls • F)) : V w0 w (o7 k (v :: vs) (l :: ls) • F) := H.F9 (vV (fun I h g => h.one.app g) F)
theorem V.ll (H : V w0 w (LL e k v ls • F)) : ∃ vs, V w0 w (Row e 1 v ls.length vs • o7 k vs ls • F) := let ⟨vs, h⟩ := H.pO; ⟨vs, h.flat⟩
theorem V.adl (H : V w0 w (Row e 1 v ls.length vs • o7 k vs ls • F)) : V w0 w (LL e k v ls • F) := V.jG vs H.deep
theorem V.aar {n : Nat} (H : V w0 w (Row e 1 v n vs • o7 k vs ls • F)) : V w0 w (LL e k v ls • F) := by
  have h1 := H.Ai
  have h2 := H.swap.Uf
  obtain rfl : n = ls.length := by omega
  exact H.adl
theorem Rd.afk {n : Nat} {xs : List Value} (hr : Rd w 1 v n xs) {i : Nat} (h : i ≤ n) : Rd w 1 (uo 1 0 i v) i (xs.take i) := by
  have h1 := hr.cut (Nat.zero_le i) h
  simpa using h1
end
theorem aas {α : Type _} {enc : α → List Value} {sz : Nat} (he : ∀ a, (enc a).length = sz) (l : List α) : (l.flatMap enc).length = l.length * sz := by
  induction l with
  | nil => simp
  | cons a l ih => simp [he, ih, Nat.add_mul, Nat.add_comm]
theorem o8 {α : Type _} {enc : α → List Value} {sz : Nat} (he : ∀ a, (enc a).length = sz) {l : List α} {k : Nat} (hk : k < l.length) (d : α) : ((l.flatMap enc).drop (k * sz)).take sz = enc (l.getD k d) := by
  have h1 : l = l.take k ++ l.getD k d :: l.drop (k + 1) := by
    rw [List.getD_eq_getElem?_getD, List.getElem?_eq_getElem hk]
    simp
  have h2 : ((l.take k).flatMap enc).length = k * sz := by rw [aas he, List.length_take, Nat.min_eq_left (by omega)]
  conv => lhs; rw [h1]
  rw [List.flatMap_append, List.drop_append, h2]
  simp [h2, List.take_append, he]
theorem acC {α : Type _} [Inhabited α] {sz n : Nat} {enc : α → List Value} {xs : List Value} {p : α → Prop} (hx : xs.length = n * sz) (h : ∀ k, k < n → ∃ a, (xs.drop (k * sz)).take sz = enc a ∧ p a) : ∃ l : List α, l.length = n ∧ xs = l.flatMap enc ∧ ∀ k, k < n → p (l.getD k default) := by
  induction n generalizing xs with
  | zero => exact ⟨[], rfl, by simpa using List.eq_nil_of_length_eq_zero (by simpa using hx), fun k hk => by omega⟩
  | succ n ih =>
    obtain ⟨a, h1, h2⟩ := h 0 (by omega)
    rw [Nat.zero_mul, List.drop_zero] at h1
    obtain ⟨l, g1, g2, g3⟩ := ih (xs := xs.drop sz) (by rw [List.length_drop, hx, Nat.succ_mul]; omega) (fun k hk => by
      obtain ⟨b, h3, h4⟩ := h (k + 1) (by omega)
      exact ⟨b, by rw [← h3, List.drop_drop, Nat.succ_mul, Nat.add_comm], h4⟩)
    refine ⟨a :: l, by simp [g1], ?_, fun k hk => ?_⟩
    · rw [List.flatMap_cons, ← g2, ← h1, List.take_append_drop]
    · cases k with
      | zero => exact h2
      | succ k => exact g3 k (by omega)
theorem qo {P : Program} {L : List (Nat × Value)} {w : World} {ty : TypeId} {x : Operand} {t : TypeId} {d : TypeDesc} {b o n c sz n' k : Nat} {xs ys : List Value} (hr : Rd w sz (.slice (some ⟨b, o, none⟩) n c) n' xs) (hk : k < n') (hu : P.underlying t = some d) (hd : Rn d = true) (hs : ∀ w, (sizeOf t).run P w = .ok sz w)
    (hx : ev L x = some (.pointer (some ⟨b, o + (k : Int).toNat * sz, none⟩))) (hy : (xs.drop (k * sz)).take sz = ys) (hl : ys.length = sz) : Val P L (.load t x) ty w (.agg ys.toArray) w :=
  DZ (by rw [hu]; rfl) (Qp hu hd) hs hl hx (fun j u hj => by
    have hjl : j < sz := by rw [← hl]; exact (List.getElem?_eq_some_iff.1 hj).1
    rw [hr.atS hk hjl, List.getD_eq_getElem?_getD]
    rw [← hy, List.getElem?_take, if_pos hjl, List.getElem?_drop] at hj
    rw [hj]; rfl)
end Go.Proofs.YtgofgnlkpeghcaaGreatDoor
end
