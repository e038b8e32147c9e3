import Derived.Test.YtpdeedplgmbopaaGreatDoorZ4
import Derived.Test.YtpdeedplgmbopaaGreatDoorZ5
import Derived.Test.YtpdeedplgmbopaaGreatDoorZ13
set_option linter.unusedSimpArgs false
set_option linter.unusedVariables false
/- Texts of mine, joined, their names in short: Owns EdS EdS2. -/
section
namespace Go.Proofs.YtpdeedplgmbopaaGreatDoor
open Go.RowKit
def Ic (e : TypeId) (k : IntKind) : List Value → List (List Int) → HP
  | [], [] => emp
  | v :: vs, l :: ls => je e k v l • Ic e k vs ls
  | _, _ => fact False
section
variable {w0 w : World} {F : HP} {e : TypeId} {k : IntKind} {v : Value} {l : List Int}
theorem V.adb (H : V w0 w F) : V w0 w (Ic e k [] [] • F) := H.TW
theorem V.zL : ∀ {vs : List Value} {ls : List (List Int)} {F : HP}, V w0 w (Ic e k vs ls • F) → vs.length = ls.length
  | [], [], _, _ => rfl
  | v :: vs, l :: ls, _, H => by simpa using V.zL (V.right (V.flat H))
  | [], _ :: _, _, H => absurd H.fact.1 id
  | _ :: _, [], _, H => absurd H.fact.1 id
theorem IX : ∀ (vs : List Value) (ls : List (List Int)), (Ic e k vs ls • je e k v l) = Ic e k (vs ++ [v]) (ls ++ [l])
  | [], [] => by show (emp • je e k v l) = (je e k v l • emp); rw [Du]
  | u :: vs, m :: ls => by
    show ((je e k u m • Ic e k vs ls) • je e k v l) = (je e k u m • Ic e k (vs ++ [v]) (ls ++ [l]))
    rw [dY, IX vs ls]
  | [], m :: ls => by
    apply HP.ext; funext I h; apply propext
    constructor
    · intro hp; exact absurd ((GI _ _ _ _).1 hp).1 id
    · intro hp
      cases ls with
      | nil => exact absurd (show False by obtain ⟨_, _, _, _, _, hb⟩ := hp; exact hb.1) id
      | cons x y => exact absurd (show False by obtain ⟨_, _, _, _, _, hb⟩ := hp; exact hb.1) id
  | u :: vs, [] => by
    apply HP.ext; funext I h; apply propext
    constructor
    · intro hp; exact absurd ((GI _ _ _ _).1 hp).1 id
    · intro hp
      cases vs with
      | nil => exact absurd (show False by obtain ⟨_, _, _, _, _, hb⟩ := hp; exact hb.1) id
      | cons x y => exact absurd (show False by obtain ⟨_, _, _, _, _, hb⟩ := hp; exact hb.1) id
theorem V.IX {vs : List Value} {ls : List (List Int)} (H : V w0 w (Ic e k vs ls • je e k v l • F)) : V w0 w (Ic e k (vs ++ [v]) (ls ++ [l]) • F) := H.deep.of_eq (by rw [Go.Proofs.YtpdeedplgmbopaaGreatDoor.IX])
theorem V.Tq : ∀ {vs : List Value} {ls : List (List Int)} {F : HP} {j : Nat}, V w0 w (Ic e k vs ls • F) → j < ls.length →
    ∃ R : HP, V w0 w (je e k (vs.getD j undef) (ls.getD j []) • R • F) ∧ ∀ l' w' F', V w0 w' (je e k (vs.getD j undef) l' • R • F') → V w0 w' (Ic e k vs (ls.set j l') • F')
  | [], [], _, j, _, hj => by simp at hj
  | v :: vs, l :: ls, F, 0, H, _ => ⟨Ic e k vs ls, H.flat, fun l' w' F' H' => H'.deep⟩
  | v :: vs, l :: ls, F, j + 1, H, hj => by
    obtain ⟨R, h1, h2⟩ := V.Tq (j := j) H.flat.swap (by simpa using hj)
    refine ⟨R • je e k v l, by simpa [dY] using h1, fun l' w' F' H' => ?_⟩
    have := h2 l' w' (je e k v l • F') (H'.of_eq (by simp only [List.getD_cons_succ]; ac_rfl))
    exact this.swap.deep
  | [], _ :: _, _, _, H, _ => absurd H.fact.1 id
  | _ :: _, [], _, _, H, _ => absurd H.fact.1 id
theorem V.tY {vs : List Value} {ls : List (List Int)} {j : Nat} (H : V w0 w (Ic e k vs ls • F)) (hj : j < ls.length) : gB w k (vs.getD j undef) (ls.getD j []) := by
  obtain ⟨R, h, _⟩ := H.Tq hj
  exact h.aO
end
end Go.Proofs.YtpdeedplgmbopaaGreatDoor
end
section
namespace Go.Proofs.YtpdeedplgmbopaaGreatDoor
open Go.RowKit
open _root_.Go.Proofs.Tryz
section
variable {w0 w : World} {F : HP} {e p ph pw pt pr pm : Nat} {s : bQ} {k x place : Int} {hl : List wY} {base most : Int} {tx : Int → Option ByteArray} {v : Value}
theorem WW (H : V w0 w (jZ p hl base most • F)) : jf prog 157 #[.pointer (some ⟨p, 0, none⟩), .int .i64 k] w fun v w' =>
  v = .tuple #[.agg #[.string (V6 hl k).1, .int .i64 (V6 hl k).2], .bool (decide (0 ≤ k ∧ k < hl.length))] ∧ V w0 w' (jZ p hl base most • F) := by
 have hb : hl.length ≤ 4096 := by obtain ⟨v, h, _⟩ := H.hist; exact h.1
 refine qo func157 ntmps157 ?_
 refine jg (kV (iO (l := [_, _]) H zeroValue218 O) ?_)
 rintro _ w1 ⟨b1, rfl, H1⟩
 refine tX O (bI O (aV (gG O O) (jY O (fun h1 => ?_) (fun h1 => ?_))))
 ·(try simp only [Z] at h1)
  refine bK (bK (bK (bK (jQ O O (iR (ET (jg (aV (iJ (zl := [.string .empty, .int .i64 0]) (pl := [(0, 1), (1, 1)]) [_, _] pW zeroValue218 O (fun w => by kernel_rfl) O (.zero (zs := [.string .empty]) O (.zero (zs := [.int .i64 0]) O .nil)) O) (aQ (dM 0 (l' := [_, _]) (us := [_, _]) H1 sizeOf218 O O O (aJ (aJ dn)) O O) ?_)))))))))
  rintro _ w2 H2
  refine fP O (aC ?_)
  refine wS (.inl O) (ZL results157 O O pW O (by rw [Y0]; rfl) (H2).get.2) ?_
  exact ⟨by unfold V6; rw [if_neg (by omega), decide_eq_false (by omega)], H2.right⟩
 ·(try simp only [Z] at h1)
  refine bF (bW O (bF (bW O (bF (dX O func117 (uZ H1.f2) ?_)))))
  rintro _ w3 ⟨rfl, H3⟩
  refine bF (aV (mJ O O) (iH O O (iW O (fun h2 => ?_) (fun h2 => ?_))))
  ·(try simp only [Z] at h2)
   refine jg (aV (iJ (zl := [.string .empty, .int .i64 0]) (pl := [(0, 1), (1, 1)]) [_, _] pW zeroValue218 O (fun w => by kernel_rfl) O (.zero (zs := [.string .empty]) O (.zero (zs := [.int .i64 0]) O .nil)) O) (aQ (dM 0 (l' := [_, _]) (us := [_, _]) H3.f2 sizeOf218 O O O (aJ (aJ dn)) O O) ?_))
   rintro _ w4 H4
   refine fP O (aC ?_)
   refine wS (.inl O) (ZL results157 O O pW O (by rw [Y0]; rfl) (H4).get.2) ?_
   exact ⟨by unfold V6; rw [if_neg (by omega), decide_eq_false (by omega)], H4.right⟩
  ·(try simp only [Z] at h2)
   refine gy (aI ?_)
   obtain ⟨m, rfl⟩ := Int.eq_ofNat_of_zero_le (show 0 ≤ k by omega)
   obtain ⟨YJ, Jc, Gz⟩ := (H3).hist
   refine aF (mX O O (bM 0 pK O sizeOf151 O (bM 0 pO O sizeOf149 O (eH jB O (Gz).get.2 O (bW O ?_)))))
   obtain ⟨ajs, ajt, aju, ade⟩ := Rd.qN ((Gz.f2).aO) (by omega)
   cases ade
   refine aV (dI jB sizeOf218 O O (by omega)) (aV (pI (ys := [_, _]) ((Gz.f2).aO) (by omega) pW O sizeOf218 O (rY SS (by omega) default) O) (aQ (dM 0 (l' := [_, _]) (us := [_, _]) Gz.f3 sizeOf218 O O O (aJ (aJ dn)) O O) ?_))
   rintro _ w6 H6
   refine fP O ?_
   refine wS (.inl O) (ZL results157 O O pW O (by rw [Y0]; rfl) (H6).get.2) ?_
   have Ho8 := H6.f3.f3
   have Tf := V.KE Jc Ho8
   exact ⟨by unfold V6; rw [if_pos (by omega), decide_eq_true (by omega)]; rfl, Tf.f2.right⟩
theorem KR {x0 x1 x2 x3 x4 x5 x6 x7 x8 x9 x10 x12 BK x14 x15 x16 x17 x18 x19 x20 x21 Dn x23 x24 x25 Dp x27 x28 x29 x30 x31 x32 Eb : Value} (H : V w0 w (gJ e (.cells (x0 :: x1 :: x2 :: x3 :: x4 :: x5 :: x6 :: x7 :: x8 :: x9 :: x10 :: .pointer (some ⟨ph, 0, none⟩) :: x12 :: BK :: x14 :: x15 :: x16 :: x17 :: x18 :: x19 :: x20 :: x21 :: Dn :: x23 :: x24 :: x25 :: Dp :: x27 :: x28 :: x29 :: x30 :: x31 :: x32 :: Eb :: []).toArray 82 (0, 0)) • jZ ph hl base most • F)) : jf prog 119 #[.pointer (some ⟨e, 0, none⟩), .int .i64 k] w fun v w' =>
    v = .string (FU hl k) ∧ V w0 w' (gJ e (.cells (x0 :: x1 :: x2 :: x3 :: x4 :: x5 :: x6 :: x7 :: x8 :: x9 :: x10 :: .pointer (some ⟨ph, 0, none⟩) :: x12 :: BK :: x14 :: x15 :: x16 :: x17 :: x18 :: x19 :: x20 :: x21 :: Dn :: x23 :: x24 :: x25 :: Dp :: x27 :: x28 :: x29 :: x30 :: x31 :: x32 :: Eb :: []).toArray 82 (0, 0)) • jZ ph hl base most • F) := by
  refine qo func119 ntmps119 ?_
  refine kH O (bI O (dV O (bM 11 ay O sizeOf78 O (eH nK O (H).get.2 O (bW O (dX O func157 (WW H.f2) ?_))))))
  rintro _ w1 ⟨rfl, H1⟩
  refine bW O (oZ O O (oZ O O (kV (iO (l := [_, _]) H1 zeroValue218 O) ?_)))
  rintro _ w2 ⟨b2, rfl, H2⟩
  refine aQ (dM 0 (l' := [_, _]) (us := [_, _]) H2 sizeOf218 O O O (aJ (aJ dn)) O O) ?_
  rintro _ w3 H3
  refine fO O (jg (bM 0 pW O kM O (eH iD O (H3).get.2 O (fP O (dL results119 O ?_)))))
  exact ⟨O, H3.right.f2⟩
theorem abr {t : ByteArray} (h : tx k = some t) : (zJ tx k).getD (.string .empty) = .string t ∧ (zJ tx k).isSome = true := by unfold zJ; rw [h]; exact ⟨rfl, rfl⟩
theorem Nk : (zJ tx k).isSome = (tx k).isSome := by unfold zJ; cases tx k <;> rfl
theorem EM {x0 x1 x3 x4 x5 x6 x7 x8 x9 x10 x12 BK x14 x15 x16 x17 x18 x19 x20 x21 Dn x23 x24 x25 Dp x27 x28 x29 x30 x31 x32 Eb : Value} (H : V w0 w (gJ e (.cells (x0 :: x1 :: .pointer (some ⟨pw, 0, none⟩) :: x3 :: x4 :: x5 :: x6 :: x7 :: x8 :: x9 :: x10 :: .pointer (some ⟨ph, 0, none⟩) :: x12 :: BK :: x14 :: x15 :: x16 :: x17 :: x18 :: x19 :: x20 :: x21 :: Dn :: x23 :: x24 :: x25 :: Dp :: x27 :: x28 :: x29 :: x30 :: x31 :: x32 :: Eb :: []).toArray 82 (0, 0)) • gJ pw (.cells #[v, .map (some pt)] 122 (0, 0)) • jv yx pt (zJ tx) • jZ ph hl base most • F)) :
    jf prog 118 #[.pointer (some ⟨e, 0, none⟩), .int .i64 k] w fun v' w' =>
    v' = .string (lS hl tx k) ∧ V w0 w' (gJ e (.cells (x0 :: x1 :: .pointer (some ⟨pw, 0, none⟩) :: x3 :: x4 :: x5 :: x6 :: x7 :: x8 :: x9 :: x10 :: .pointer (some ⟨ph, 0, none⟩) :: x12 :: BK :: x14 :: x15 :: x16 :: x17 :: x18 :: x19 :: x20 :: x21 :: Dn :: x23 :: x24 :: x25 :: Dp :: x27 :: x28 :: x29 :: x30 :: x31 :: x32 :: Eb :: []).toArray 82 (0, 0)) • gJ pw (.cells #[v, .map (some pt)] 122 (0, 0)) • jv yx pt (zJ tx) • jZ ph hl base most • F) := by
  refine qo func118 ntmps118 ?_
  refine kH O (aI (bI O (dV O (bM 0 ay O aY O (bM 2 aS O sizeOf74 O (eH oV O (H).get.2 O (dV O (bM 1 jk O sizeOf120 O (eH underlying120 O (H.f2).get.2 O (bW O (aV (Hu (H.f3) underlying120 aA zeroValue9 O O) (bW O (oZ O O (oZ O O (gW O (fO O (bI O (iW O (fun h1 => ?_) (fun h1 => ?_)))))))))))))))))))
  · (try simp only [Z] at h1)
    obtain ⟨tt, htt⟩ := Option.isSome_iff_exists.1 (Nk (tx := tx) ▸ h1)
    refine bI O (fP O (aC (dL results118 O ?_)))
    exact ⟨by unfold lS; rw [htt]; show (zJ tx k).getD (.string .empty) = _; rw [(abr htt).1]; rfl, H.f4.f4.f4.f4⟩
  · (try simp only [Z] at h1)
    have htt : tx k = none := by have := Nk (tx := tx) (k := k) ▸ h1; simpa using this
    refine gy (bI O (bW O (dX O func119 (KR H.f4.f2) ?_)))
    rintro _ w1 ⟨rfl, H1⟩
    refine fP O (dL results118 O ?_)
    exact ⟨by unfold lS; rw [htt]; rfl, H1.f2.f4.f4.f4⟩
end
theorem WX {D : List Int} {P : Int → Nat} {k : Int} (h : (Pv D P k).isSome = true) : k ∈ D := by
  unfold Pv at h
  split at h
  · assumption
  · cases h
theorem U0 {D : List Int} {P : Int → Nat} {k : Int} (h : (Pv D P k).isSome = false) : k ∉ D := by
  unfold Pv at h
  split at h
  · cases h
  · assumption
def yH (x : Int × ByteArray) : List Value := [.int .i64 x.1, .string x.2]
theorem WY {hl : List wY} {tx : Int → Option ByteArray} {place : Int} {i : Nat} (h : IK hl tx place i = true) : xC hl tx place (i + 1) = xC hl tx place i ++ [((i : Int), lS hl tx i)] := by
  unfold xC; rw [List.range_succ, List.filter_append, List.map_append]; simp [List.filter, h]
theorem PO {hl : List wY} {tx : Int → Option ByteArray} {place : Int} {i : Nat} (h : IK hl tx place i = false) : xC hl tx place (i + 1) = xC hl tx place i := by
  unfold xC; rw [List.range_succ, List.filter_append, List.map_append]; simp [List.filter, h]
theorem Ba (hl : List wY) (tx : Int → Option ByteArray) (place : Int) (i : Nat) : (xC hl tx place i).length ≤ i := by
  unfold xC; rw [List.length_map]
  exact Nat.le_trans (List.length_filter_le _ _) (by simp)
def nC (E : List (List Int)) (a : Nat) : List (List Int) := E.drop a ++ E.take a
def adf (n a i : Nat) : Nat := if i = 0 then a else (a + (i - 1)) % n
theorem abt {n a i : Nat} : I9 n (adf n a i) (min (i : Int) 1) = adf n a (i + 1) := by
  cases i with
  | zero =>
    show (((a : Int) + min ((0 : Nat) : Int) 1) % (n : Int)).toNat = (a + (0 + 1 - 1)) % n
    rw [show min ((0 : Nat) : Int) 1 = 0 by omega, Int.add_zero, show ((a : Int) % (n : Int)) = ((a % n : Nat) : Int) from rfl, Int.toNat_natCast]
    rfl
  | succ j =>
    show (((((a + (j + 1 - 1)) % n : Nat) : Int) + min ((j + 1 : Nat) : Int) 1) % (n : Int)).toNat = (a + (j + 1 + 1 - 1)) % n
    rw [show min ((j + 1 : Nat) : Int) 1 = ((1 : Nat) : Int) by omega, show ((((a + (j + 1 - 1)) % n : Nat) : Int) + ((1 : Nat) : Int)) % (n : Int) = ((((a + (j + 1 - 1)) % n + 1) % n : Nat) : Int) from rfl, Int.toNat_natCast, Nat.mod_add_mod]
    congr 1
theorem abu {E : List (List Int)} {a i : Nat} (h : i < E.length) (ha : a < E.length) : (nC E a).getD i [] = E.getD (adf E.length a (i + 1)) [] := by
  unfold nC adf
  rw [if_neg (by omega), Nat.add_sub_cancel, List.getD_eq_getElem?_getD, List.getD_eq_getElem?_getD]
  by_cases hi : i < E.length - a
  · rw [List.getElem?_append_left (by simpa using hi), List.getElem?_drop, Nat.mod_eq_of_lt (by omega)]
  · rw [List.getElem?_append_right (by simpa using hi), List.length_drop, List.getElem?_take, if_pos (by omega)]
    have : (a + i) % E.length = i - (E.length - a) := by
      rw [show a + i = (i - (E.length - a)) + E.length by omega, Nat.add_mod_right, Nat.mod_eq_of_lt (by omega)]
    rw [this]
theorem PS {α : Type _} {l : List α} {k : Nat} {d : α} (h : k < l.length) : l.take (k + 1) = l.take k ++ [l.getD k d] := by rw [List.take_succ_eq_append_getElem h, List.getD_eq_getElem?_getD, List.getElem?_eq_getElem h]; rfl
theorem Tt (E : List (List Int)) (a : Nat) : (nC E a).length = E.length := by unfold nC; simp; omega
section
variable {w0 w : World} {F : HP} {e p ph pw pt pr pm pb : Nat} {s : bQ} {k x place : Int} {hl : List wY} {base most cls : Int} {tx : Int → Option ByteArray} {v pv : Value} {U : Int → List (List jL)} {put : List jL} {xs : List Value} {inn run whole : Bool} {E : List (List Int)} {a : Nat} {L : List Int} {pnt mk : Int}
theorem Ie {x0 x1 x2 x3 x4 x5 x6 x7 x8 x9 x10 x12 BK x14 x15 x16 x17 x18 x19 x20 x21 Dn x23 x24 x25 Dp x27 x28 x29 x30 x31 x32 Eb : Value} (H : V w0 w (gJ e (.cells (x0 :: x1 :: x2 :: x3 :: x4 :: x5 :: x6 :: x7 :: x8 :: x9 :: x10 :: .pointer (some ⟨ph, 0, none⟩) :: x12 :: BK :: x14 :: x15 :: x16 :: x17 :: x18 :: x19 :: x20 :: x21 :: Dn :: x23 :: x24 :: x25 :: Dp :: x27 :: x28 :: x29 :: x30 :: x31 :: x32 :: Eb :: []).toArray 82 (0, 0)) • F)) : jf prog 65 #[.pointer (some ⟨e, 0, none⟩)] w fun v w' => v = .bool false ∧ w = w' := by
  refine jE func65 ntmps65 ?_
  refine kH O (bI O (aV (kU bY O O) (jY O (fun h1 => ?_) (fun h1 => ?_))))
  · (try simp only [Z] at h1)
    exfalso; first | contradiction | omega
  · (try simp only [Z] at h1)
    refine bF (bW O (bF (dV O (bF (bM 11 ay O sizeOf78 O (bF (eH nK O (H).get.2 O (bF (aV (kU nK O O) (iH O O (fP O (dL results65 O ?_))))))))))))
    exact ⟨O, O⟩
theorem yI {x0 x1 x4 x5 x6 x7 x8 x9 x11 x12 BK x14 x15 x17 x18 x19 x20 x21 Dn x23 x24 x25 Dp x27 x29 x30 x31 : Value} (H : V w0 w (gJ e (.cells (x0 :: x1 :: .pointer (some ⟨pw, 0, none⟩) :: .map (some pm) :: x4 :: x5 :: x6 :: x7 :: x8 :: x9 :: .bool run :: x11 :: x12 :: BK :: x14 :: x15 :: .bool inn :: x17 :: x18 :: x19 :: x20 :: x21 :: Dn :: x23 :: x24 :: x25 :: Dp :: x27 :: .int .i64 cls :: x29 :: x30 :: x31 :: .bool whole :: pv :: []).toArray 82 (0, 0)) • gJ pw (.cells #[.int .i64 k, .map (some pt)] 122 (0, 0)) • Ci pm U • Row 189 3 pv put.length xs • F)) (hU : (U k).length ≤ 16384) :
    jf prog 67 #[.pointer (some ⟨e, 0, none⟩)] w fun v' w' => v' = .int .i64 (wZ (U k) inn put (cls == 3 && whole) run) ∧
      V w0 w' (gJ e (.cells (x0 :: x1 :: .pointer (some ⟨pw, 0, none⟩) :: .map (some pm) :: x4 :: x5 :: x6 :: x7 :: x8 :: x9 :: .bool run :: x11 :: x12 :: BK :: x14 :: x15 :: .bool inn :: x17 :: x18 :: x19 :: x20 :: x21 :: Dn :: x23 :: x24 :: x25 :: Dp :: x27 :: .int .i64 cls :: x29 :: x30 :: x31 :: .bool whole :: pv :: []).toArray 82 (0, 0)) • gJ pw (.cells #[.int .i64 k, .map (some pt)] 122 (0, 0)) • Ci pm U • Row 189 3 pv put.length xs • F) := by
  refine jE func67 ntmps67 ?_
  refine kH O (kH O ?_)
  refine kE [(0, _)] (fun (_ : Unit) => [(3, .int .i64 ((U k).length : Int))]) (fun (_ : Unit) W => V w0 W (gJ e (.cells (x0 :: x1 :: .pointer (some ⟨pw, 0, none⟩) :: .map (some pm) :: x4 :: x5 :: x6 :: x7 :: x8 :: x9 :: .bool run :: x11 :: x12 :: BK :: x14 :: x15 :: .bool inn :: x17 :: x18 :: x19 :: x20 :: x21 :: Dn :: x23 :: x24 :: x25 :: Dp :: x27 :: .int .i64 cls :: x29 :: x30 :: x31 :: .bool whole :: pv :: []).toArray 82 (0, 0)) • gJ pw (.cells #[.int .i64 k, .map (some pt)] 122 (0, 0)) • Ci pm U • Row 189 3 pv put.length xs • F)) lH ?_ ?_
  · rintro _ w1 HJ
    dsimp only [List.cons_append, List.nil_append]
    refine aI (bI O (dV O (bM 16 ay O aT O (eH bJ O (HJ).get.2 O (jY O (fun h1 => ?_) (fun h1 => ?_))))))
    · (try simp only [Z] at h1)
      have hin := h1
      refine bF (bW O (bF (dV O (bF (bM 33 ay O dA O (bF (eH aZ O (HJ).get.2 O (bF (aV (ku ((HJ.f4).aO) aZ O) (bF (aV (gK O O) (jQ O O (jY O (fun h2 => ?_) (fun h2 => ?_))))))))))))))
      · (try simp only [Z] at h2)
        have hno : put.isEmpty = false := by rw [wE]; exact decide_eq_false (by omega)
        refine bF (bW O (bF (dV O (bF (bM 28 ay O aj O (bF (eH aA O (HJ).get.2 O (bF (aV (fB O O) (bF (jY O (fun h3 => ?_) (fun h3 => ?_))))))))))))
        · (try simp only [Z] at h3)
          have hcl := h3
          refine bF (bW O (bF (dV O (bF (bM 32 ay O aT O (bF (eH bJ O (HJ).get.2 O (bF (jQ O O (bF (jY O (fun h4 => ?_) (fun h4 => ?_))))))))))))
          · (try simp only [Z] at h4)
            have hwh := h4
            refine bF (bW O (bF (dV O (bF (bM 0 ay O aY O (bF (bM 10 aS O aT O (bF (eH bJ O (HJ).get.2 O (bF (jQ O O (bF (aV (jR O) (jQ O O (iW O (fun h5 => ?_) (fun h5 => ?_))))))))))))))))
            · (try simp only [Z] at h5)
              have hrn := h5
              refine aF (bW O (aV (fH O O (by omega)) (fO O (bI O (fP O (dL results67 O ?_))))))
              refine ⟨?_, HJ.f4.f4.f4.f4⟩
              congr 1
              unfold wZ
              first
                | exact absurd hrn (by decide)
                | (simp [hin]; done)
                | (simp [hin, hno]; done)
                | (simp [hin, hno, hcl]; done)
                | (simp [hin, hno, hcl, hwh]; done)
                | (simp [hin, hno, hcl, hwh, hrn]; done)
            · (try simp only [Z] at h5)
              have hrn := h5
              refine gy (bI O (fP O (dL results67 O ?_)))
              refine ⟨?_, HJ.f4.f4.f4.f4⟩
              congr 1
              unfold wZ
              first
                | exact absurd hrn (by decide)
                | (simp [hin]; done)
                | (simp [hin, hno]; done)
                | (simp [hin, hno, hcl]; done)
                | (simp [hin, hno, hcl, hwh]; done)
                | (simp [hin, hno, hcl, hwh, hrn]; done)
          · (try simp only [Z] at h4)
            have hwh := h4
            refine bK (bK (bK (bK (bK (bF (iH O O (bF (aV (jR O) (jQ O O (iW O (fun h6 => ?_) (fun h6 => ?_)))))))))))
            · (try simp only [Z] at h6)
              have hrn := h6
              refine aF (bW O (aV (fH O O (by omega)) (fO O (bI O (fP O (dL results67 O ?_))))))
              refine ⟨?_, HJ.f4.f4.f4.f4⟩
              congr 1
              unfold wZ
              first
                | exact absurd hrn (by decide)
                | (simp [hin]; done)
                | (simp [hin, hno]; done)
                | (simp [hin, hno, hcl]; done)
                | (simp [hin, hno, hcl, hwh]; done)
                | (simp [hin, hno, hcl, hwh, hrn]; done)
            · (try simp only [Z] at h6)
              have hrn := h6
              refine gy (bI O (fP O (dL results67 O ?_)))
              refine ⟨?_, HJ.f4.f4.f4.f4⟩
              congr 1
              unfold wZ
              first
                | exact absurd hrn (by decide)
                | (simp [hin]; done)
                | (simp [hin, hno]; done)
                | (simp [hin, hno, hcl]; done)
                | (simp [hin, hno, hcl, hwh]; done)
                | (simp [hin, hno, hcl, hwh, hrn]; done)
        · (try simp only [Z] at h3)
          have hcl := h3
          refine bK (bK (bK (bK (bF (iH O O (bF (bW O (bK (bK (bK (bK (bK (bF (iH O O (bF (aV (jR O) (jQ O O (iW O (fun h7 => ?_) (fun h7 => ?_)))))))))))))))))))
          · (try simp only [Z] at h7)
            have hrn := h7
            refine aF (bW O (aV (fH O O (by omega)) (fO O (bI O (fP O (dL results67 O ?_))))))
            refine ⟨?_, HJ.f4.f4.f4.f4⟩
            congr 1
            unfold wZ
            first
              | exact absurd hrn (by decide)
              | (simp [hin]; done)
              | (simp [hin, hno]; done)
              | (simp [hin, hno, hcl]; done)
              | (simp [hin, hno, hcl, hwh]; done)
              | (simp [hin, hno, hcl, hwh, hrn]; done)
          · (try simp only [Z] at h7)
            have hrn := h7
            refine gy (bI O (fP O (dL results67 O ?_)))
            refine ⟨?_, HJ.f4.f4.f4.f4⟩
            congr 1
            unfold wZ
            first
              | exact absurd hrn (by decide)
              | (simp [hin]; done)
              | (simp [hin, hno]; done)
              | (simp [hin, hno, hcl]; done)
              | (simp [hin, hno, hcl, hwh]; done)
              | (simp [hin, hno, hcl, hwh, hrn]; done)
      · (try simp only [Z] at h2)
        have hno : put.isEmpty = true := by rw [wE]; exact decide_eq_true (by omega)
        refine bK (bK (bK (bK (bK (bK (ni (ni (ni (ni (bK (bK (ni (ni (ni (ni (ni (bK (bK (iH O O (iR (oL (gy (bI O (fP O (dL results67 O ?_)))))))))))))))))))))))))
        refine ⟨?_, HJ.f4.f4.f4.f4⟩
        congr 1
        unfold wZ
        first
          | exact absurd hrn (by decide)
          | (simp [hin]; done)
          | (simp [hin, hno]; done)
          | (simp [hin, hno, hcl]; done)
          | (simp [hin, hno, hcl, hwh]; done)
          | (simp [hin, hno, hcl, hwh, hrn]; done)
    · (try simp only [Z] at h1)
      have hin := h1
      refine bK (bK (bK (bK (bK (bK (iH O O (bW O (bK (bK (bK (bK (bK (bK (ni (ni (ni (ni (bK (bK (ni (ni (ni (ni (ni (bK (bK (iH O O (iR (oL (gy (bI O (fP O ?_))))))))))))))))))))))))))))))))
      refine dL results67 O ?_
      refine ⟨?_, HJ.f4.f4.f4.f4⟩
      congr 1
      unfold wZ
      first
        | exact absurd hrn (by decide)
        | (simp [hin]; done)
        | (simp [hin, hno]; done)
        | (simp [hin, hno, hcl]; done)
        | (simp [hin, hno, hcl, hwh]; done)
        | (simp [hin, hno, hcl, hwh, hrn]; done)
  · skip
    refine aI ?_
    obtain ⟨D, P, hD1, hD2, HU⟩ := (H.f3).afD
    have Y1 := HU.drew
    have rF := V.kp (Y1.f5.f5.f5.f5.f5)
    refine nG [4, 9, 12, 13] rF O (fD 0 O rF O (iG 1 O rF O (dJ 2 O rF 0 ay O aY O (dJ 3 O rF 3 aS O sizeOf75 O (fM 4 O rF (fun W hW => fQ oW O ((Kp.h hW).f3).get.2 O) (fD 5 O rF O (iG 6 O rF O (dJ 7 O rF 0 ay O aY O (dJ 8 O rF 2 aS O sizeOf74 O (fM 9 O rF (fun W hW => fQ oV O ((Kp.h hW).f3).get.2 O) (iG 10 O rF O (dJ 11 O rF 0 jk O aj O (fM 12 O rF (fun W hW => fQ aA O ((Kp.h hW).f4).get.2 O) (fM 13 O rF (fun W hW => NG (Wh ((Kp.h hW)) oW aA zeroValue184 O O) (aae D P k)) (dS 14 O rF (fun _ => aW O) (lJ (aU (bI O (aV (Yb underlying184 O O) (iW O (fun h8 => ?_) (fun h8 => ?_)))))))))))))))))))))
    · (try simp only [Z] at h8)
      have hmem := WX h8
      rw [Wy hmem]
      have HF := Y1.f2
      rw [y5 hmem] at HF
      have HF2 := HF.flat
      refine aF (bW O (dX O func120 (KA HF2) ?_))
      rintro _ w2 ⟨rfl, H2⟩
      have YD := H2.f2.f2
      have ZW := V.of_eq YD (by rw [← dY, ← y5 hmem])
      have Ho5 := ZW.f2
      have Hc6 := V.IQ hD1 hD2 Ho5
      refine gW O (bT ?_)
      refine dG (()) ?_ ?_ ?_
      · exact (Sub.kJ O (by first | (rw [hD2 _ hnm]; rfl) | (simp; done)) (Sub.nil _))
      · exact lH
      · (try dsimp only)
        first | done | exact Hc6.f4.f2.f4.f4
    · (try simp only [Z] at h8)
      have hnm := U0 h8
      have Ho7 := Y1.f2.f2
      have Hc8 := V.IQ hD1 hD2 Ho7
      refine bU ?_
      refine dG (()) ?_ ?_ ?_
      · exact (Sub.kJ O (by first | (rw [hD2 _ hnm]; rfl) | (simp; done)) (Sub.nil _))
      · exact lH
      · (try dsimp only)
        first | done | exact Hc8.f4.f2.f4.f4
theorem F7 {x0 x2 x3 x4 x5 x6 x7 x8 x9 x10 x12 BK x14 x15 x16 x17 x18 x19 x20 x21 Dn x23 x24 x25 Dp x27 x28 x29 x30 x31 x32 Eb : Value} (H : V w0 w (gJ e (.cells (x0 :: .pointer (some ⟨pr, 0, none⟩) :: x2 :: x3 :: x4 :: x5 :: x6 :: x7 :: x8 :: x9 :: x10 :: .pointer (some ⟨ph, 0, none⟩) :: x12 :: BK :: x14 :: x15 :: x16 :: x17 :: x18 :: x19 :: x20 :: x21 :: Dn :: x23 :: x24 :: x25 :: Dp :: x27 :: x28 :: x29 :: x30 :: x31 :: x32 :: Eb :: []).toArray 82 (0, 0)) • gY pr E a • F)) : jf prog 33 #[.pointer (some ⟨e, 0, none⟩)] w fun v' w' =>
  ∃ us, V w0 w' (Row 22 1 v' E.length us • Ic 21 .i32 us (nC E a) • gJ e (.cells (x0 :: .pointer (some ⟨pr, 0, none⟩) :: x2 :: x3 :: x4 :: x5 :: x6 :: x7 :: x8 :: x9 :: x10 :: .pointer (some ⟨ph, 0, none⟩) :: x12 :: BK :: x14 :: x15 :: x16 :: x17 :: x18 :: x19 :: x20 :: x21 :: Dn :: x23 :: x24 :: x25 :: Dp :: x27 :: x28 :: x29 :: x30 :: x31 :: x32 :: Eb :: []).toArray 82 (0, 0)) • gY pr E a • F) := by
 obtain ⟨hE1, hE2, hE3⟩ := OW H.swap
 refine jE func33 ntmps33 ?_
 refine kH O (aI (bI O (dX O func65 (Ie H) ?_)))
 rintro _ _ ⟨rfl, rfl⟩
 refine iR (oL (gy (kH O (bI O (dV O (bM 0 ay O aY O (bM 1 aS O sizeOf73 O (eH wC O (H).get.2 O (dX O func85 (Hg H.f2) ?_)))))))))
 rintro _ w2 ⟨pc2, rfl, H2⟩
 refine tX O (bI O (dX O func86 (Uo H2) ?_))
 rintro _ _ ⟨rfl, rfl⟩
 refine bW O (iR (bf ?_))
 obtain ⟨R4, hR4, HR4⟩ := V.aiP (H2)
 refine iy [(4, _), (17, _)] (fun (⟨i, u⟩ : Nat × Value) => [(3, u), (18, .int .i64 (i : Int))]) (fun (⟨i, u⟩ : Nat × Value) W => i ≤ E.length ∧ ∃ us, V w0 W (Row 22 1 u i us • Ic 21 .i32 us ((nC E a).take i) • gY pc2 E (adf E.length a i) • R4)) (fun (⟨i, u⟩ : Nat × Value) => E.length - i) ((0, .slice none 0 0)) sG sG ⟨by omega, [], HR4.adb.kF none⟩ ?_
 rintro ⟨i, u⟩ w5 ⟨hi, us, HL⟩
 dsimp only [List.cons_append, List.nil_append]
 refine jg (aV (gG O O) (rW (bg O (fun h1 => ?_) (fun h1 => ?_))))
 ·(try simp only [Z] at h1)
  refine gy (aI (bf (bI O (fO O (bI O (bW O (aV (mW O O) (dX O func87 (NK HL.f3) ?_))))))))
  rintro _ w6 ⟨u6, rfl, H6⟩
  have hne : ¬ E.length = 0 := by omega
  have HX := H6
  simp only [if_neg hne] at HX
  refine bW O (oZ O O (oZ O O (gW O (fO O (aF (jU O O (kV (nV (vs := [_]) HX gQ bD zeroValue22 O O O (by decide) (bG (by first | rfl | exact Rd.one ((HX).aO)) dn)) ?_)))))))
  rintro l7 w7 H7
  refine kV (jy H7.f4 gQ agM O O O ((H7).aO) (bG (by first | rfl | exact Rd.one ((H7.f2).aO)) dn) (by omega) (by omega)) ?_
  rintro l8 w8 H8
  have Hd9 := H8.f2.right
  refine gW O (bT (aH (aU (aF (aV (fH O O (by omega)) (bW O (bT ?_)))))))
  have HS := (Hd9.f3.f2.f3.f4).IX.f2
  refine dN ((i + 1, l8)) ?_ ?_ ?_ ?_
  ·exact sG
  ·exact sG
  ·(try dsimp only)
   first | done | exact ⟨by omega, _, by rw [PS (d := []) (by rw [Tt]; omega), abu (by omega) (by omega), ← abt]; exact HS⟩
  ·(try dsimp only); omega
 ·(try simp only [Z] at h1)
  refine dR (aP ?_)
  obtain rfl : i = E.length := by omega
  have HK := HL
  rw [List.take_of_length_le (by rw [Tt]; exact Nat.le_refl _)] at HK
  subst hR4
  refine aP (bH (aU (bI O (fP O (dL results33 O ?_)))))
  exact ⟨_, HK.f3.right.f3.f4.f4.f4⟩
end
end Go.Proofs.YtpdeedplgmbopaaGreatDoor
end
