import Derived.Test.YtpdeedplgmbopaaGreatDoorZ4
import Derived.Test.YtpdeedplgmbopaaGreatDoorZ17
import Derived.Test.YtpdeedplgmbopaaGreatDoorZ10
import Derived.Test.YtpdeedplgmbopaaGreatDoorZ16
import Derived.Test.YtpdeedplgmbopaaGreatDoorZ6
import Derived.Test.YtpdeedplgmbopaaGreatDoorZ2
import Derived.Test.YtpdeedplgmbopaaGreatDoorZ15
import Derived.Test.YtpdeedplgmbopaaGreatDoorZ11
import Derived.Test.YtpdeedplgmbopaaGreatDoorZ13
set_option linter.unusedSimpArgs false
set_option linter.unusedVariables false
/- Texts of mine, joined, their names in short: RWalk VNm VWa VM FieldVal VD Atom2. -/
section
namespace Go.Proofs.YtpdeedplgmbopaaGreatDoor
open Go.RowKit
open _root_.Go.Proofs.Tryz
def strs (l : List ByteArray) : List Value := l.map Value.string
theorem TJ {l : List ByteArray} : ∀ x ∈ strs l, x.oneCell' = true := by
  intro x hx
  obtain ⟨e, _, rfl⟩ := List.mem_map.1 hx
  rfl
def uK (hl : List wY) : List ByteArray := hl.map (·.1) ++ [.empty]
section
variable {P : Program} {L : List (Nat × Value)} {w0 w : World} {F : HP} {p : Nat} {hl l : List wY} {base most : Int} {v : Value}
theorem abI {hl : List wY} {k : Nat} (hk : k < hl.length) : strs ((hl.take (k + 1)).map (·.1)) = strs ((hl.take k).map (·.1)) ++ [.string (hl.getD k default).1] := by
  unfold strs
  rw [List.take_succ_eq_append_getElem hk, List.map_append, List.map_append, List.getD_eq_getElem?_getD, List.getElem?_eq_getElem hk]; rfl
theorem Rt (H : V w0 w (lY p hl base most • F)) : jf prog 114 #[.pointer (some ⟨p, 0, none⟩)] w fun v w' => ∃ q ov nv, v = .pointer (some ⟨q, 0, none⟩) ∧
  V w0 w' (gJ q (.cells #[ov, nv, .int .i64 hl.length] 166 (0, 0)) • Row 9 1 ov (uK hl).length (strs (uK hl)) • Row 9 1 nv (uK hl).length (strs (uK hl)) • lY p hl base most • F) := by
 refine jE func114 ntmps114 ?_
 refine kH O (aI ?_)
 obtain ⟨YJ, Jc, Gz⟩ := (H).aax
 have hkl := Jc.1
 refine aF (mX O O (bM 0 pX O sizeOf149 O (eH jB O (Gz).get.2 O (aV (ku ((Gz.f2).Qe) jB O) ?_))))
 refine aV (iJ (zl := [.slice none 0 0, .slice none 0 0, .int .i64 0]) (pl := [(0, 1), (1, 1), (2, 1)]) [_, _, _] jM zeroValue166 O (fun w => by kernel_rfl) O (.zero (zs := [.slice none 0 0]) O (.zero (zs := [.slice none 0 0]) O (.on .nil))) O) ?_
 refine kV (kK (l := [_, _, _]) Gz O O) ?_
 rintro _ w2 ⟨b2, rfl, H2⟩
 refine tX O (kH O (bf ?_))
 refine iy [(0, _), (3, _)] (fun (⟨k, u⟩ : Nat × Value) => [(4, .int .i64 (k : Int))]) (fun (⟨k, u⟩ : Nat × Value) W => k ≤ hl.length ∧ V w0 W (gJ b2 (.cells #[u, .slice none 0 0, .int .i64 hl.length] 166 (0, 0)) • Row 9 1 u k (strs ((hl.take k).map (·.1))) • gJ p (.cells #[YJ, .int .i64 base, .int .i64 most] 155 (0, 0)) • hlK YJ hl • F)) (fun (⟨k, u⟩ : Nat × Value) => hl.length - k) ((0, .slice none 0 0)) sG lH ⟨by omega, (H2.f3.f3.f3).kF none |>.swap⟩ ?_
 rintro ⟨k, u⟩ w3 ⟨hk, HL⟩
 dsimp only [List.cons_append, List.nil_append]
 refine aI (bI O (mX O O (bM 0 pX O sizeOf149 O (eH jB O (HL.f3).get.2 O (aV (ku ((HL.f4).Qe) jB O) (aV (gG O O) (iW O (fun h1 => ?_) (fun h1 => ?_))))))))
 ·(try simp only [Z] at h1)
  have hkl2 : k < hl.length := by have h9 := h1; omega
  refine gy (aI (bf ?_))
  have VN := HL.drew
  have xM := V.kp (VN.f4.f4.f4.f4)
  refine nG [4, 8, 12] xM O (fD 0 O xM O (fD 1 O xM O (iG 2 O xM O (dJ 3 O xM 0 jM O sizeOf33 O (fM 4 O xM (fun W hW => fQ kQ O ((Kp.h hW)).get.2 O) (fD 5 O xM O (iG 6 O xM O (dJ 7 O xM 0 pX O sizeOf149 O (fM 8 O xM (fun W hW => fQ jB O ((Kp.h hW).f3).get.2 O) (fD 9 O xM O ?_))))))))))
  obtain ⟨ajs, ajt, aju, ade⟩ := Rd.qN ((VN.f4).Qe) (by omega)
  cases ade
  refine dS 10 O xM (fun _ => dI jB sizeOf218 O O (by omega)) (dJ 11 O xM 0 pW O kM O (fM 12 O xM (fun W hW => NG (dW (bV iD O) O (Rd.atS (((Kp.h hW).f4).Qe) (by omega) (by decide))) (ah9 hkl2)) (ny 13 O (nV (vs := [_]) VN kQ kM zeroValue9 O O O (by decide) (aJ dn)) ?_)))
  rintro l4 w4 H4
  have oH := V.kp (H4.f5.f5.f5.f5.f5)
  refine dK oH (fun W hW => (Kp.h hW).right.f4.f4.f4.f4) ?_
  refine ny 14 O (jy H4.f3 kQ afT O O O ((H4).aO) (aJ dn) (by omega) (by omega)) ?_
  rintro l5 w5 H5
  have Hd6 := H5.f2.right
  have jV := V.kp (Hd6.f4.f4.f4.f4)
  refine gU jV (by kernel_rfl) ?_
  refine iG 15 O jV O (dJ 16 O jV 0 jM O sizeOf33 O ?_)
  refine dF 17 O (by kernel_rfl) (ig 0 (l' := [_, _, _]) Hd6.f2 sizeOf33 O O (by first | rfl | exact Rd.one ((Hd6).aO)) O O) ?_
  rintro _ w7 H7
  have Ae := V.kp (H7.f4.f4.f4.f4)
  refine gU Ae (by kernel_rfl) ?_
  refine lJ (aH (aU (aF (bW O (aV (fH O O (by omega)) (gW O (bT ?_)))))))
  refine dN ((k + 1, l5)) ?_ ?_ ?_ ?_
  ·exact lH
  ·exact sG
  ·(try dsimp only)
   first | done | exact ⟨by omega, by rw [abI hkl2]; exact H7⟩
  ·(try dsimp only); omega
 ·(try simp only [Z] at h1)
  refine dR (aP (aP (bH (aU (aI ?_)))))
  obtain rfl : k = hl.length := by omega
  refine aF (jU O O (dV O (bM 0 jM O sizeOf33 O (eH kQ O (HL).get.2 O (kV (nV (vs := [_]) HL kQ kM zeroValue9 O O O (by decide) (aJ dn)) ?_)))))
  rintro l8 w8 H8
  refine kV (jy H8.f3 kQ afT O O O ((H8).aO) (aJ dn) (by omega) (by omega)) ?_
  rintro l9 w9 H9
  have afU := H9.f2.right
  refine dV O (bM 0 jM O sizeOf33 O (aQ (ig 0 (l' := [_, _, _]) afU.f2 sizeOf33 O O (by first | rfl | exact Rd.one ((afU).aO)) O O) ?_))
  rintro _ FK ru
  have HX := ru
  rw [List.take_length, show strs (hl.map (·.1)) ++ [Value.string { data := #[] }] = strs (uK hl) from by unfold uK strs; rw [List.map_append]; rfl, show hl.length + 1 = (uK hl).length from by simp [uK]] at HX
  have hon := @TJ (uK hl)
  have hol : (uK hl).length = hl.length + 1 := by simp [uK]
  refine uS O (mX O O (bM 0 jM O sizeOf33 O (eH kQ O (HX).get.2 O (kV (jy (HX.kF none) kQ afT O O O ((HX.f2).aO) (by assumption) (by omega) (by omega)) ?_))))
  rintro l12 w12 wQ
  refine dV O (bM 1 jM O sizeOf33 O (aQ (ig 1 (l' := [_, _, _]) wQ.f2 sizeOf33 O O (by first | rfl | exact Rd.one ((wQ).aO)) O O) ?_))
  rintro _ OL wB
  refine uS O (fP O (dL results114 O ?_))
  have aib := wB.f5.f5
  have aic := V.La Jc aib
  have HQ := aic.f3.f4.f4
  rw [List.nil_append, Nat.zero_add] at HQ
  exact ⟨_, _, _, O, HQ⟩
end
section
def agU : ByteArray := ⟨#[118, 105, 45, 97, 114, 103, 45, 100, 105, 103, 105, 116]⟩
def U3 : ByteArray := ⟨#[118, 105, 45, 99, 104, 97, 110, 103, 101, 45, 99, 97, 115, 101]⟩
def vw : ByteArray := ⟨#[118, 105, 45, 99, 104, 97, 110, 103, 101, 45, 99, 104, 97, 114]⟩
def F8 : ByteArray := ⟨#[118, 105, 45, 99, 104, 97, 110, 103, 101, 45, 116, 111]⟩
def aay : ByteArray := ⟨#[118, 105, 45, 100, 101, 108, 101, 116, 101]⟩
def CP : ByteArray := ⟨#[118, 105, 45, 100, 101, 108, 101, 116, 101, 45, 116, 111]⟩
def Xk : ByteArray := ⟨#[118, 105, 45, 105, 110, 115, 101, 114, 116]⟩
def yK : ByteArray := ⟨#[118, 105, 45, 109, 111, 118, 101]⟩
def adF : ByteArray := ⟨#[118, 105, 45, 109, 111, 118, 101, 109, 101, 110, 116, 45, 109, 111, 100, 101]⟩
def U4 : ByteArray := ⟨#[118, 105, 45, 111, 118, 101, 114, 115, 116, 114, 105, 107, 101]⟩
def aaz : ByteArray := ⟨#[118, 105, 45, 112, 117, 116]⟩
def Qg : ByteArray := ⟨#[118, 105, 45, 114, 101, 100, 111]⟩
def Ik : ByteArray := ⟨#[118, 105, 45, 115, 101, 116, 45, 109, 97, 114, 107]⟩
def aaA : ByteArray := ⟨#[118, 105, 45, 115, 117, 98, 115, 116]⟩
def Zb : ByteArray := ⟨#[118, 105, 45, 117, 110, 100, 111]⟩
def Il : ByteArray := ⟨#[118, 105, 45, 121, 97, 110, 107, 45, 116, 111]⟩
def U5 : List ByteArray := [agU, U3, vw, F8, aay, CP, Xk, yK, adF, U4, aaz, Qg, Ik, aaA, Zb, Il]
def Ak (n : ByteArray) : Prop := ∃ k, k < 16 ∧ (U5.getD k .empty).toList = n.toList
theorem adG {l : List ByteArray} {k : Nat} (hk : k < l.length) : (strs l).getD k undef = .string (l.getD k .empty) := by
  unfold strs; simp [List.getD_eq_getElem?_getD, hk]
def MC : ByteArray := ⟨#[102, 70, 116, 84, 96]⟩
def aid : ByteArray := ⟨#[100, 99, 121]⟩
def Fp (n : ByteArray) (keys : List Int) : Prop :=
  if n.toList = yK.toList then keys.length = 1 ∧ keys.getD 0 0 ∈ EN MC
  else if n.toList = vw.toList ∨ n.toList = Ik.toList then keys.length = 1
  else if n.toList = CP.toList ∨ n.toList = F8.toList ∨ n.toList = Il.toList then
    keys.getD 0 0 ∈ EN aid ∧ ((mP (keys.drop 1)).length = 0 ∨ ((mP (keys.drop 1)).length = 1 ∧ (mP (keys.drop 1)).getD 0 0 ∈ EN MC))
  else False
open Classical in
noncomputable def nT (n : ByteArray) (keys : List Int) : Int := if ¬ Ak n then -1 else if keys.length = 0 then 1 else if Fp n keys then 1 else 0
section
variable {n : ByteArray} {keys : List Int}
theorem I5 (h : ¬ Ak n) : nT n keys = -1 := if_pos h
theorem Xl (h : Ak n) (h0 : keys.length = 0) : nT n keys = 1 := by unfold nT; rw [if_neg (not_not_intro h), if_pos h0]
theorem Qh (h : Ak n) (h1 : Fp n keys) : nT n keys = 1 := by
  unfold nT; rw [if_neg (not_not_intro h), if_pos h1]; split <;> rfl
theorem Qi (h : Ak n) (h0 : ¬ keys.length = 0) (h1 : ¬ Fp n keys) : nT n keys = 0 := by unfold nT; rw [if_neg (not_not_intro h), if_neg h0, if_neg h1]
theorem jH (h : n.toList = yK.toList) : Fp n keys ↔ (keys.length = 1 ∧ keys.getD 0 0 ∈ EN MC) := by unfold Fp; rw [if_pos h]
theorem ng (h1 : ¬ n.toList = yK.toList) (h : n.toList = vw.toList ∨ n.toList = Ik.toList) : Fp n keys ↔ keys.length = 1 := by unfold Fp; rw [if_neg h1, if_pos h]
theorem iM (h1 : ¬ n.toList = yK.toList) (h2 : ¬ (n.toList = vw.toList ∨ n.toList = Ik.toList)) (h : n.toList = CP.toList ∨ n.toList = F8.toList ∨ n.toList = Il.toList) :
    Fp n keys ↔ (keys.getD 0 0 ∈ EN aid ∧ ((mP (keys.drop 1)).length = 0 ∨ ((mP (keys.drop 1)).length = 1 ∧ (mP (keys.drop 1)).getD 0 0 ∈ EN MC))) := by unfold Fp; rw [if_neg h1, if_neg h2, if_pos h]
theorem Bf (h1 : ¬ n.toList = yK.toList) (h2 : ¬ (n.toList = vw.toList ∨ n.toList = Ik.toList)) (h : ¬ (n.toList = CP.toList ∨ n.toList = F8.toList ∨ n.toList = Il.toList)) : ¬ Fp n keys := by unfold Fp; rw [if_neg h1, if_neg h2, if_neg h]; exact id
end
section
variable {w0 w : World} {F : HP} {v u : Value} {l : List ByteArray} {n : ByteArray} {keys : List Int}
theorem Zc (H : V w0 w F) : jf prog 19 #[] w fun u w' => V w0 w' (Row 9 1 u 16 (strs U5) • F) := by
  refine aaY func19 ntmps19 ?_
  refine kH O (jg (kV (nV (vs := [_, _, _, _, _, _, _, _, _, _, _, _, _, _, _, _]) H kQ kM zeroValue9 O O O (by decide) (aJ (aJ (aJ (aJ (aJ (aJ (aJ (aJ (aJ (aJ (aJ (aJ (aJ (aJ (aJ (aJ dn))))))))))))))))) ?_))
  rintro l1 w1 H1
  refine fP O (dL results19 O ?_)
  exact H1
theorem abJ (H : V w0 w F) (hr : Ua w0 F 1 v l.length (strs l)) : jf prog 108 #[v, .string n] w fun u w' => ∃ i, u = .int .i64 i ∧ (0 ≤ i ↔ ∃ k, k < l.length ∧ (l.getD k .empty).toList = n.toList) ∧ V w0 w' F := by
 have hl9 : l.length ≤ 9223372036854775807 := by obtain ⟨_, a, c, _, h1, h2, _⟩ := hr w H; omega
 refine qo func108 ntmps108 ?_
 refine kH O (aI (bI O (aV (ku (hr _ (H)) kQ O) (bW O (iR (bf ?_))))))
 refine iy [(0, _), (1, _), (7, _)] (fun (k : Nat) => [(8, .int .i64 (k : Int))]) (fun (k : Nat) W => (k ≤ l.length ∧ ∀ j, j < k → ¬ (l.getD j .empty).toList = n.toList) ∧ V w0 W F) (fun (k : Nat) => l.length - k) (0) wW lH ⟨⟨by omega, fun j h => by omega⟩, H⟩ ?_
 rintro k w1 ⟨⟨hk, hno⟩, HL⟩
 dsimp only [List.cons_append, List.nil_append]
 refine jg (aV (gG O O) (rW (bg O (fun h1 => ?_) (fun h1 => ?_))))
 ·(try simp only [Z] at h1)
  refine gy (aI (bf (bI O (tX O ?_))))
  have hkl : k < l.length := by omega
  refine aF (jU O O (bW O ?_))
  obtain ⟨bv, ov, cv, ev⟩ := Rd.qN (hr _ (HL)) (by omega)
  cases ev
  refine aV (dI kQ kM O O (by omega)) ?_
  refine aV (NG (dW (bV iD O) O (by first | exact Rd.lN (hr _ (HL)) (by omega) | exact Rd.uP (hr _ (HL)) (by omega) | exact Rd.wO (hr _ (HL)) (by omega))) (adG (l := l) hkl)) ?_
  refine aV (eP O O) (iW O (fun h2 => ?_) (fun h2 => ?_))
  ·(try simp only [Z] at h2)
   have heq : n.toList = (l.getD k .empty).toList := h2
   refine bI O (fP O (aN (aC (aC (aN (aC (dL results108 O ?_)))))))
   exact ⟨_, O, ⟨fun _ => ⟨k, hkl, heq.symm⟩, fun _ => by omega⟩, HL⟩
  ·(try simp only [Z] at h2)
   have hne : ¬ n.toList = (l.getD k .empty).toList := h2
   refine bU (aH (aU (aF (aV (fH O O (by omega)) (bW O (bT ?_))))))
   refine dN (k + 1) ?_ ?_ ?_ ?_
   ·exact lH
   ·exact wW
   ·(try dsimp only)
    first | done | exact ⟨⟨by omega, fun j h => if e : j = k then (by rw [e]; exact fun c => hne c.symm) else hno j (by omega)⟩, HL⟩
   ·(try dsimp only); omega
 ·(try simp only [Z] at h1)
  refine dR (aP (aP (bH (aU (jS O (dL results108 O ?_))))))
  exact ⟨_, rfl, ⟨fun h => (by omega), fun ⟨j, h1, h2⟩ => absurd h2 (hno j (by omega))⟩, HL⟩
theorem Zd (H : V w0 w F) (hr : Ua w0 F 1 v l.length (strs l)) : jf prog 49 #[v, .string n] w fun u w' => ∃ b, u = .bool b ∧ (b = true ↔ ∃ k, k < l.length ∧ (l.getD k .empty).toList = n.toList) ∧ V w0 w' F := by
  refine qo func49 ntmps49 ?_
  refine kH O (bI O (bW O (dX O func108 (abJ H (fun W HW => hr _ (HW))) ?_)))
  rintro _ w1 ⟨i1, rfl, hi1, H1⟩
  refine aV (mJ O O) (fP O (dL results49 O ?_))
  exact ⟨_, O, by rw [decide_eq_true_iff]; assumption, H1⟩
end
end
theorem qU {b : Bool} {P : Prop} [Decidable P] (hb : b = true) (h : P) : Value.bool b = Value.bool (decide P) := by rw [hb, decide_eq_true h]
theorem agV {b : Bool} {A B : Prop} [Decidable (A ∨ B)] (h1 : ¬ A) (hb : b = true ↔ B) : Value.bool b = Value.bool (decide (A ∨ B)) := congrArg Value.bool (by rw [Bool.eq_iff_iff, decide_eq_true_iff]; exact hb.trans ⟨.inr, fun h => h.resolve_left h1⟩)
theorem adH {b : Bool} {A B C : Prop} [Decidable (A ∨ B ∨ C)] (h1 : ¬ A) (h2 : ¬ B) (hb : b = true ↔ C) : Value.bool b = Value.bool (decide (A ∨ B ∨ C)) := congrArg Value.bool (by rw [Bool.eq_iff_iff, decide_eq_true_iff]; exact hb.trans ⟨fun h => .inr (.inr h), fun h => (h.resolve_left h1).resolve_left h2⟩)
section
variable {w0 w : World} {F : HP} {v u : Value} {n : ByteArray} {keys : List Int}
theorem DW (H : V w0 w F) (hr : jO w0 F .i32 v keys) : jf prog 16 #[.string n, v] w fun u w' => u = .int .i64 (nT n keys) ∧ V w0 w' F := by
 have hl9 : keys.length ≤ 9223372036854775807 := by have := (hr _ H).open; obtain ⟨a, c, e, h3, h4, _⟩ := this; omega
 refine qo func16 ntmps16 ?_
 refine kH O (aI (jg (dX O func19 (Zc H) ?_)))
 rintro u1 w1 H1
 refine bW O (dX O func49 (Zd (l := U5) H1 (fun W HW => (HW).aO)) ?_)
 rintro _ w2 ⟨b2, rfl, hb2, H2⟩
 have X6 := H2.right
 refine aV (jR O) (iW O (fun h1 => ?_) (fun h1 => ?_))
 ·(try simp only [Z] at h1)
  have hkn : ¬ Ak n := fun hc => by have h9 := hb2.2 hc; rw [h1] at h9; exact absurd h9 (by decide)
  refine jS O (aC (dL results16 O ?_))
  exact ⟨by rw [I5 hkn], X6⟩
 ·(try simp only [Z] at h1)
  have hkn : Ak n := hb2.1 h1
  refine gy (aI (bI O (aV (gZ (hr _ (X6)) ah O) (aV (fB O O) (iW O (fun h2 => ?_) (fun h2 => ?_))))))
  ·(try simp only [Z] at h2)
   refine jS O (aC (dL results16 O ?_))
   exact ⟨by rw [Xl hkn (by omega)], X6⟩
  ·(try simp only [Z] at h2)
   refine gy (aI ?_)
   have hk0 : ¬ keys.length = 0 := by omega
   refine aF (fO O ?_)
   refine kE [] (fun (m : Bool) => [(5, .bool m)]) (fun (m : Bool) W => (m = true ↔ Fp n keys) ∧ V w0 W F) (Sub.nil _) ?_ ?_
   ·rintro m w4 ⟨hm, HM⟩
    dsimp only [List.cons_append, List.nil_append]
    refine aI (bI O (iW O (fun h3 => ?_) (fun h3 => ?_)))
    ·(try simp only [Z] at h3)
     have hmt := hm.1 h3
     refine jS O (aC (dL results16 O ?_))
     exact ⟨by rw [Qh hkn hmt], HM⟩
    ·(try simp only [Z] at h3)
     have hmt : ¬ Fp n keys := fun hc => by have h9 := h3; rw [hm.2 hc] at h9; exact absurd h9 (by decide)
     refine gy (jS O (dL results16 O ?_))
     exact ⟨by rw [Qi hkn hk0 hmt], HM⟩
   ·skip
    refine bI O (iR (bf (jg (aV (eP O O) (fO O (bg O (fun h4 => ?_) (fun h4 => ?_)))))))
    ·(try simp only [Z] at h4)
     have hmv : n.toList = yK.toList := h4
     refine aF (bW O (aV (gZ (hr _ (X6)) ah O) (aV (fB O O) (jY O (fun h5 => ?_) (fun h5 => ?_)))))
     ·(try simp only [Z] at h5)
      refine bF (bW O (bF ?_))
      obtain ⟨bv, ov, cv, ev⟩ := gB.qN (hr _ (X6)) (by omega)
      cases ev
      refine aV (dI ah bP O O (by omega)) (bF ?_)
      refine aV (dW (bV bC O) O (by first | exact gB.lN (hr _ (X6)) (by omega) | exact gB.uP (hr _ (X6)) (by omega) | exact gB.wO (hr _ (X6)) (by omega))) ?_
      refine bF (dX O func50 (AO (s := MC) (by decide)) ?_)
      rintro _ _ ⟨rfl, rfl⟩
      refine jQ O O (gW O (bT (aH ?_)))
      refine dG (_) lH (Sub.nil _) (by (try dsimp only); exact ⟨by first | exact decide_eq_true_iff.trans ⟨fun h => (jH hmv).2 ⟨by omega, h⟩, fun h => ((jH hmv).1 h).2⟩ | exact iff_of_false (by decide) fun h => absurd ((jH hmv).1 h).1 (by omega) | exact beq_iff_eq.trans ⟨fun h => (ng hmv hch).2 (by omega), fun h => by have := (ng hmv hch).1 h; omega⟩ | exact iff_of_true O ((iM hmv hch hop).2 ⟨by assumption, .inl (by show (mP (List.drop (Int.toNat 1) keys)).length = 0; omega)⟩) | exact decide_eq_true_iff.trans ⟨fun h => (iM hmv hch hop).2 ⟨by assumption, .inr ⟨by show (mP (List.drop (Int.toNat 1) keys)).length = 1; omega, h⟩⟩, fun h => ((iM hmv hch hop).1 h).2.elim (fun c => absurd c (by show ¬ (mP (List.drop (Int.toNat 1) keys)).length = 0; omega)) (fun c => c.2)⟩ | exact iff_of_false (by decide) fun h => ((iM hmv hch hop).1 h).2.elim (fun c => absurd c (by show ¬ (mP (List.drop (Int.toNat 1) keys)).length = 0; omega)) (fun c => absurd c.1 (by show ¬ (mP (List.drop (Int.toNat 1) keys)).length = 1; omega)) | exact iff_of_false (by decide) fun h => absurd ((iM hmv hch hop).1 h).1 (by assumption) | exact iff_of_false (by decide) (Bf hmv hch hop), X6⟩)
     ·(try simp only [Z] at h5)
      refine bK (bK (bK (bK (iH O O (gW O (bT (aH ?_)))))))
      refine dG (_) lH (Sub.nil _) (by (try dsimp only); exact ⟨by first | exact decide_eq_true_iff.trans ⟨fun h => (jH hmv).2 ⟨by omega, h⟩, fun h => ((jH hmv).1 h).2⟩ | exact iff_of_false (by decide) fun h => absurd ((jH hmv).1 h).1 (by omega) | exact beq_iff_eq.trans ⟨fun h => (ng hmv hch).2 (by omega), fun h => by have := (ng hmv hch).1 h; omega⟩ | exact iff_of_true O ((iM hmv hch hop).2 ⟨by assumption, .inl (by show (mP (List.drop (Int.toNat 1) keys)).length = 0; omega)⟩) | exact decide_eq_true_iff.trans ⟨fun h => (iM hmv hch hop).2 ⟨by assumption, .inr ⟨by show (mP (List.drop (Int.toNat 1) keys)).length = 1; omega, h⟩⟩, fun h => ((iM hmv hch hop).1 h).2.elim (fun c => absurd c (by show ¬ (mP (List.drop (Int.toNat 1) keys)).length = 0; omega)) (fun c => c.2)⟩ | exact iff_of_false (by decide) fun h => ((iM hmv hch hop).1 h).2.elim (fun c => absurd c (by show ¬ (mP (List.drop (Int.toNat 1) keys)).length = 0; omega)) (fun c => absurd c.1 (by show ¬ (mP (List.drop (Int.toNat 1) keys)).length = 1; omega)) | exact iff_of_false (by decide) fun h => absurd ((iM hmv hch hop).1 h).1 (by assumption) | exact iff_of_false (by decide) (Bf hmv hch hop), X6⟩)
    ·(try simp only [Z] at h4)
     have hmv : ¬ n.toList = yK.toList := h4
     refine kE [(1, _), (5, _), (15, _)] (fun (_ : Unit) => [(27, .bool (decide (n.toList = vw.toList ∨ n.toList = Ik.toList)))]) (fun (_ : Unit) W => V w0 W F) wW ?_ ?_
     ·rintro _ w6 HJ
      dsimp only [List.cons_append, List.nil_append]
      refine bg O (fun h6 => ?_) (fun h6 => ?_)
      ·(try simp only [Z] at h6)
       have hch := h6
       refine aF (bW O (aV (gZ (hr _ (HJ)) ah O) (aV (fB O O) (gW O (bT (aH ?_))))))
       refine dG (_) lH (Sub.nil _) (by (try dsimp only); exact ⟨by first | exact decide_eq_true_iff.trans ⟨fun h => (jH hmv).2 ⟨by omega, h⟩, fun h => ((jH hmv).1 h).2⟩ | exact iff_of_false (by decide) fun h => absurd ((jH hmv).1 h).1 (by omega) | exact beq_iff_eq.trans ⟨fun h => (ng hmv hch).2 (by omega), fun h => by have := (ng hmv hch).1 h; omega⟩ | exact iff_of_true O ((iM hmv hch hop).2 ⟨by assumption, .inl (by show (mP (List.drop (Int.toNat 1) keys)).length = 0; omega)⟩) | exact decide_eq_true_iff.trans ⟨fun h => (iM hmv hch hop).2 ⟨by assumption, .inr ⟨by show (mP (List.drop (Int.toNat 1) keys)).length = 1; omega, h⟩⟩, fun h => ((iM hmv hch hop).1 h).2.elim (fun c => absurd c (by show ¬ (mP (List.drop (Int.toNat 1) keys)).length = 0; omega)) (fun c => c.2)⟩ | exact iff_of_false (by decide) fun h => ((iM hmv hch hop).1 h).2.elim (fun c => absurd c (by show ¬ (mP (List.drop (Int.toNat 1) keys)).length = 0; omega)) (fun c => absurd c.1 (by show ¬ (mP (List.drop (Int.toNat 1) keys)).length = 1; omega)) | exact iff_of_false (by decide) fun h => absurd ((iM hmv hch hop).1 h).1 (by assumption) | exact iff_of_false (by decide) (Bf hmv hch hop), HJ⟩)
      ·(try simp only [Z] at h6)
       have hch := h6
       refine kE [(1, _), (5, _)] (fun (_ : Unit) => [(33, .bool (decide (n.toList = CP.toList ∨ n.toList = F8.toList ∨ n.toList = Il.toList)))]) (fun (_ : Unit) W => V w0 W F) sG ?_ ?_
       ·rintro _ w7 HK
        dsimp only [List.cons_append, List.nil_append]
        refine bg O (fun h7 => ?_) (fun h7 => ?_)
        ·(try simp only [Z] at h7)
         have hop := h7
         refine bI O ?_
         obtain ⟨bv, ov, cv, ev⟩ := gB.qN (hr _ (HK)) (by omega)
         cases ev
         refine aV (dI ah bP O O (by omega)) ?_
         refine aV (dW (bV bC O) O (by first | exact gB.lN (hr _ (HK)) (by omega) | exact gB.uP (hr _ (HK)) (by omega) | exact gB.wO (hr _ (HK)) (by omega))) ?_
         refine dX O func50 (AO (s := aid) (by decide)) ?_
         rintro _ _ ⟨rfl, rfl⟩
         refine iW O (fun h8 => ?_) (fun h8 => ?_)
         ·(try simp only [Z] at h8)
          refine bI O (aV (pF (hr _ (HK)) ah bP O O O (by omega)) ?_)
          refine dX O func51 (U2 HK (fun W HW => gB.from (hr _ (HW)) (by omega))) ?_
          rintro _ w9 ⟨kv9, rfl, abK, H9⟩
          refine bW O (oZ O O (oZ O O (gW O (fO O (aF (bW O (aV (gZ (abK _ (H9)) ah O) (aV (fB O O) (jY O (fun h9 => ?_) (fun h9 => ?_))))))))))
          ·(try simp only [Z] at h9)
           refine bK (bK (bK (bK (ni (ni (ni (ni (bK (jQ O O (gW O (bT (aH ?_))))))))))))
           refine dG (_) lH (Sub.nil _) (by (try dsimp only); exact ⟨by first | exact decide_eq_true_iff.trans ⟨fun h => (jH hmv).2 ⟨by omega, h⟩, fun h => ((jH hmv).1 h).2⟩ | exact iff_of_false (by decide) fun h => absurd ((jH hmv).1 h).1 (by omega) | exact beq_iff_eq.trans ⟨fun h => (ng hmv hch).2 (by omega), fun h => by have := (ng hmv hch).1 h; omega⟩ | exact iff_of_true O ((iM hmv hch hop).2 ⟨by assumption, .inl (by show (mP (List.drop (Int.toNat 1) keys)).length = 0; omega)⟩) | exact decide_eq_true_iff.trans ⟨fun h => (iM hmv hch hop).2 ⟨by assumption, .inr ⟨by show (mP (List.drop (Int.toNat 1) keys)).length = 1; omega, h⟩⟩, fun h => ((iM hmv hch hop).1 h).2.elim (fun c => absurd c (by show ¬ (mP (List.drop (Int.toNat 1) keys)).length = 0; omega)) (fun c => c.2)⟩ | exact iff_of_false (by decide) fun h => ((iM hmv hch hop).1 h).2.elim (fun c => absurd c (by show ¬ (mP (List.drop (Int.toNat 1) keys)).length = 0; omega)) (fun c => absurd c.1 (by show ¬ (mP (List.drop (Int.toNat 1) keys)).length = 1; omega)) | exact iff_of_false (by decide) fun h => absurd ((iM hmv hch hop).1 h).1 (by assumption) | exact iff_of_false (by decide) (Bf hmv hch hop), H9⟩)
          ·(try simp only [Z] at h9)
           refine bF (bW O (bF (aV (gZ (abK _ (H9)) ah O) (bF (aV (fB O O) (bF (jY O (fun h10 => ?_) (fun h10 => ?_))))))))
           ·(try simp only [Z] at h10)
            refine bF (bW O (bF ?_))
            obtain ⟨amy, amA, amB, aln⟩ := gB.qN (abK _ (H9)) (by omega)
            cases aln
            refine aV (dI ah bP O O (by omega)) (bF ?_)
            refine aV (dW (bV bC O) O (by first | exact gB.lN (abK _ (H9)) (by omega) | exact gB.uP (abK _ (H9)) (by omega) | exact gB.wO (abK _ (H9)) (by omega))) ?_
            refine bF (dX O func50 (AO (s := MC) (by decide)) ?_)
            rintro _ _ ⟨rfl, rfl⟩
            refine bF (jQ O O (iH O O (gW O (bT (aH ?_)))))
            refine dG (_) lH (Sub.nil _) (by (try dsimp only); exact ⟨by first | exact decide_eq_true_iff.trans ⟨fun h => (jH hmv).2 ⟨by omega, h⟩, fun h => ((jH hmv).1 h).2⟩ | exact iff_of_false (by decide) fun h => absurd ((jH hmv).1 h).1 (by omega) | exact beq_iff_eq.trans ⟨fun h => (ng hmv hch).2 (by omega), fun h => by have := (ng hmv hch).1 h; omega⟩ | exact iff_of_true O ((iM hmv hch hop).2 ⟨by assumption, .inl (by show (mP (List.drop (Int.toNat 1) keys)).length = 0; omega)⟩) | exact decide_eq_true_iff.trans ⟨fun h => (iM hmv hch hop).2 ⟨by assumption, .inr ⟨by show (mP (List.drop (Int.toNat 1) keys)).length = 1; omega, h⟩⟩, fun h => ((iM hmv hch hop).1 h).2.elim (fun c => absurd c (by show ¬ (mP (List.drop (Int.toNat 1) keys)).length = 0; omega)) (fun c => c.2)⟩ | exact iff_of_false (by decide) fun h => ((iM hmv hch hop).1 h).2.elim (fun c => absurd c (by show ¬ (mP (List.drop (Int.toNat 1) keys)).length = 0; omega)) (fun c => absurd c.1 (by show ¬ (mP (List.drop (Int.toNat 1) keys)).length = 1; omega)) | exact iff_of_false (by decide) fun h => absurd ((iM hmv hch hop).1 h).1 (by assumption) | exact iff_of_false (by decide) (Bf hmv hch hop), H9⟩)
           ·(try simp only [Z] at h10)
            refine bK (bK (bK (bK (bF (iH O O (iH O O (gW O (bT (aH ?_)))))))))
            refine dG (_) lH (Sub.nil _) (by (try dsimp only); exact ⟨by first | exact decide_eq_true_iff.trans ⟨fun h => (jH hmv).2 ⟨by omega, h⟩, fun h => ((jH hmv).1 h).2⟩ | exact iff_of_false (by decide) fun h => absurd ((jH hmv).1 h).1 (by omega) | exact beq_iff_eq.trans ⟨fun h => (ng hmv hch).2 (by omega), fun h => by have := (ng hmv hch).1 h; omega⟩ | exact iff_of_true O ((iM hmv hch hop).2 ⟨by assumption, .inl (by show (mP (List.drop (Int.toNat 1) keys)).length = 0; omega)⟩) | exact decide_eq_true_iff.trans ⟨fun h => (iM hmv hch hop).2 ⟨by assumption, .inr ⟨by show (mP (List.drop (Int.toNat 1) keys)).length = 1; omega, h⟩⟩, fun h => ((iM hmv hch hop).1 h).2.elim (fun c => absurd c (by show ¬ (mP (List.drop (Int.toNat 1) keys)).length = 0; omega)) (fun c => c.2)⟩ | exact iff_of_false (by decide) fun h => ((iM hmv hch hop).1 h).2.elim (fun c => absurd c (by show ¬ (mP (List.drop (Int.toNat 1) keys)).length = 0; omega)) (fun c => absurd c.1 (by show ¬ (mP (List.drop (Int.toNat 1) keys)).length = 1; omega)) | exact iff_of_false (by decide) fun h => absurd ((iM hmv hch hop).1 h).1 (by assumption) | exact iff_of_false (by decide) (Bf hmv hch hop), H9⟩)
         ·(try simp only [Z] at h8)
          refine bU (aH ?_)
          refine dG (_) lH (Sub.nil _) (by (try dsimp only); exact ⟨by first | exact decide_eq_true_iff.trans ⟨fun h => (jH hmv).2 ⟨by omega, h⟩, fun h => ((jH hmv).1 h).2⟩ | exact iff_of_false (by decide) fun h => absurd ((jH hmv).1 h).1 (by omega) | exact beq_iff_eq.trans ⟨fun h => (ng hmv hch).2 (by omega), fun h => by have := (ng hmv hch).1 h; omega⟩ | exact iff_of_true O ((iM hmv hch hop).2 ⟨by assumption, .inl (by show (mP (List.drop (Int.toNat 1) keys)).length = 0; omega)⟩) | exact decide_eq_true_iff.trans ⟨fun h => (iM hmv hch hop).2 ⟨by assumption, .inr ⟨by show (mP (List.drop (Int.toNat 1) keys)).length = 1; omega, h⟩⟩, fun h => ((iM hmv hch hop).1 h).2.elim (fun c => absurd c (by show ¬ (mP (List.drop (Int.toNat 1) keys)).length = 0; omega)) (fun c => c.2)⟩ | exact iff_of_false (by decide) fun h => ((iM hmv hch hop).1 h).2.elim (fun c => absurd c (by show ¬ (mP (List.drop (Int.toNat 1) keys)).length = 0; omega)) (fun c => absurd c.1 (by show ¬ (mP (List.drop (Int.toNat 1) keys)).length = 1; omega)) | exact iff_of_false (by decide) fun h => absurd ((iM hmv hch hop).1 h).1 (by assumption) | exact iff_of_false (by decide) (Bf hmv hch hop), HK⟩)
        ·(try simp only [Z] at h7)
         have hop := h7
         refine bU (aH ?_)
         refine dG (_) lH (Sub.nil _) (by (try dsimp only); exact ⟨by first | exact decide_eq_true_iff.trans ⟨fun h => (jH hmv).2 ⟨by omega, h⟩, fun h => ((jH hmv).1 h).2⟩ | exact iff_of_false (by decide) fun h => absurd ((jH hmv).1 h).1 (by omega) | exact beq_iff_eq.trans ⟨fun h => (ng hmv hch).2 (by omega), fun h => by have := (ng hmv hch).1 h; omega⟩ | exact iff_of_true O ((iM hmv hch hop).2 ⟨by assumption, .inl (by show (mP (List.drop (Int.toNat 1) keys)).length = 0; omega)⟩) | exact decide_eq_true_iff.trans ⟨fun h => (iM hmv hch hop).2 ⟨by assumption, .inr ⟨by show (mP (List.drop (Int.toNat 1) keys)).length = 1; omega, h⟩⟩, fun h => ((iM hmv hch hop).1 h).2.elim (fun c => absurd c (by show ¬ (mP (List.drop (Int.toNat 1) keys)).length = 0; omega)) (fun c => c.2)⟩ | exact iff_of_false (by decide) fun h => ((iM hmv hch hop).1 h).2.elim (fun c => absurd c (by show ¬ (mP (List.drop (Int.toNat 1) keys)).length = 0; omega)) (fun c => absurd c.1 (by show ¬ (mP (List.drop (Int.toNat 1) keys)).length = 1; omega)) | exact iff_of_false (by decide) fun h => absurd ((iM hmv hch hop).1 h).1 (by assumption) | exact iff_of_false (by decide) (Bf hmv hch hop), HK⟩)
       ·skip
        refine jg (aV (eP O O) (fO O (bg O (fun h11 => ?_) (fun h11 => ?_))))
        ·(try simp only [Z] at h11)
         have hop := h11
         refine bU ?_
         refine dG (()) ?_ ?_ ?_
         ·exact (Sub.kJ O (by first | exact qU (beq_iff_eq.2 (by assumption)) (.inl (by assumption)) | exact qU (beq_iff_eq.2 (by assumption)) (.inr (.inl (by assumption))) | exact adH (by assumption) (by assumption) beq_iff_eq) (Sub.nil _))
         ·exact sG
         ·(try dsimp only)
          first | done | exact HJ
        ·(try simp only [Z] at h11)
         have hop := h11
         refine jg (aV (eP O O) (fO O (bg O (fun h12 => ?_) (fun h12 => ?_))))
         ·(try simp only [Z] at h12)
          have hop := h12
          refine bU ?_
          refine dG (()) ?_ ?_ ?_
          ·exact (Sub.kJ O (by first | exact qU (beq_iff_eq.2 (by assumption)) (.inl (by assumption)) | exact qU (beq_iff_eq.2 (by assumption)) (.inr (.inl (by assumption))) | exact adH (by assumption) (by assumption) beq_iff_eq) (Sub.nil _))
          ·exact sG
          ·(try dsimp only)
           first | done | exact HJ
         ·(try simp only [Z] at h12)
          have hop := h12
          refine aF (aV (eP O O) (gW O (bT ?_)))
          refine dG (()) ?_ ?_ ?_
          ·exact (Sub.kJ O (by first | exact qU (beq_iff_eq.2 (by assumption)) (.inl (by assumption)) | exact qU (beq_iff_eq.2 (by assumption)) (.inr (.inl (by assumption))) | exact adH (by assumption) (by assumption) beq_iff_eq) (Sub.nil _))
          ·exact sG
          ·(try dsimp only)
           first | done | exact HJ
     ·skip
      refine jg (aV (eP O O) (fO O (bg O (fun h13 => ?_) (fun h13 => ?_))))
      ·(try simp only [Z] at h13)
       have hch := h13
       refine bU ?_
       refine dG (()) ?_ ?_ ?_
       ·exact (Sub.kJ O (by first | exact qU (beq_iff_eq.2 (by assumption)) (.inl (by assumption)) | exact agV (by assumption) beq_iff_eq) (Sub.nil _))
       ·exact wW
       ·(try dsimp only)
        first | done | exact X6
      ·(try simp only [Z] at h13)
       have hch := h13
       refine aF (aV (eP O O) (gW O (bT ?_)))
       refine dG (()) ?_ ?_ ?_
       ·exact (Sub.kJ O (by first | exact qU (beq_iff_eq.2 (by assumption)) (.inl (by assumption)) | exact agV (by assumption) beq_iff_eq) (Sub.nil _))
       ·exact wW
       ·(try dsimp only)
        first | done | exact X6
end
structure VM where
  marks : Int → Option Int
  fk : Int
  fc : Int
  name : ByteArray
  keys : List Int
  n : Int
  typed : List Int
  Ze : Int
def zM (n : ByteArray) : Prop := n.toList = F8.toList ∨ n.toList = Xk.toList ∨ n.toList = U4.toList ∨ n.toList = aaA.toList
def vZ (n : ByteArray) : Prop := n.toList = U3.toList ∨ n.toList = vw.toList ∨ n.toList = aay.toList ∨ n.toList = CP.toList ∨ n.toList = aaz.toList
instance (n : ByteArray) : Decidable (zM n) := by unfold zM; infer_instance
instance (n : ByteArray) : Decidable (vZ n) := by unfold vZ; infer_instance
def abL (M : VM) : Prop := M.keys.length * 4 ≤ 140737488355328 ∧ M.typed.length ≤ 1024 ∧ (M.name.toList = [] ∨ ((zM M.name ∨ vZ M.name) ∧ nT M.name M.keys = 0 ∧ 1 ≤ M.n ∧ M.n ≤ 1000000))
def DX (m : Int → Option Int) : Int → Option Value := fun k => (m k).map (.int .i64)
def jW (m : Nat) (M : VM) : HP := zX fun (x : Nat × Value × Value) => fact (abL M) • gJ m (.cells #[.map (some x.1), .int .i32 M.fk, .int .i32 M.fc, .string M.name, x.2.1, .int .i64 M.n, x.2.2, .int .i64 M.Ze] 119 (0, 0)) • jv YK x.1 (DX M.marks) • qZ .i32 x.2.1 M.keys • qZ .i32 x.2.2 M.typed
def VM.new : VM := ⟨fun _ => none, 0, 0, .empty, [], 0, [], -1⟩
theorem VM.UO : abL VM.new := ⟨by decide, by decide, .inl (by rw [ByteArray.toList_eq]; rfl)⟩
section
variable {w0 w : World} {F : HP} {m : Nat} {M : VM}
theorem V.vm (H : V w0 w (jW m M • F)) : ∃ mb kv tv, abL M ∧ V w0 w (gJ m (.cells #[.map (some mb), .int .i32 M.fk, .int .i32 M.fc, .string M.name, kv, .int .i64 M.n, tv, .int .i64 M.Ze] 119 (0, 0)) • jv YK mb (DX M.marks) • qZ .i32 kv M.keys • qZ .i32 tv M.typed • F) := by
  obtain ⟨⟨mb, kv, tv⟩, H⟩ := H.qY
  obtain ⟨h, H⟩ := H.flat.fact
  exact ⟨mb, kv, tv, h, H.of_eq (by simp only [dY])⟩
theorem V.zW {mb : Nat} {kv tv : Value} (h : abL M) (H : V w0 w (gJ m (.cells #[.map (some mb), .int .i32 M.fk, .int .i32 M.fc, .string M.name, kv, .int .i64 M.n, tv, .int .i64 M.Ze] 119 (0, 0)) • jv YK mb (DX M.marks) • qZ .i32 kv M.keys • qZ .i32 tv M.typed • F)) : V w0 w (jW m M • F) :=
  V.kT (mb, kv, tv) (V.deep (V.oQ h (H.of_eq (by simp only [dY]))))
theorem Qj (H : V w0 w F) : V w0 w (qZ .i32 (.slice none 0 0) [] • F) := V.oC (e := 21) (k := .i32) (l := []) (H.kF none)
theorem V.adI {mb : Nat} {kv : Value} (h : abL M) (ht : M.typed = []) (H : V w0 w (gJ m (.cells #[.map (some mb), .int .i32 M.fk, .int .i32 M.fc, .string M.name, kv, .int .i64 M.n, .slice none 0 0, .int .i64 M.Ze] 119 (0, 0)) • jv YK mb (DX M.marks) • qZ .i32 kv M.keys • F)) : V w0 w (jW m M • F) :=
  V.zW h (by rw [ht]; exact (Qj H).of_eq (by ac_rfl))
theorem Ep (H : V w0 w (jW m M • F)) : jf prog 69 #[.pointer (some ⟨m, 0, none⟩)] w fun v w' => v = .bool false ∧ w = w' := by
 refine jE func69 ntmps69 ?_
 refine kH O (aI ?_)
 obtain ⟨Io, GH, F9, oK, rP⟩ := (H).vm
 refine aF (bW O (aV (kU jG O O) (OB O (fun h1 => ?_))))
 (try simp only [Z] at h1)
 refine bF (bW O (bF (dV O (bF (bM 0 fZ O sizeOf113 O (bF (eH mQ O (rP).get.2 O (bF (aV (abC mQ O O) (iH O O (fP O (dL results69 O ?_))))))))))))
 exact ⟨O, O⟩
theorem Qk (H : V w0 w F) : jf prog 22 #[] w fun v w' => ∃ m, v = .pointer (some ⟨m, 0, none⟩) ∧ V w0 w' (jW m VM.new • F) := by
  refine aaY func22 ntmps22 ?_
  refine kH O (jg (kV (mY (DN .i32) H) ?_))
  rintro _ w1 ⟨b1, rfl, H1⟩
  refine aV (iJ (zl := [.map none, .int .i32 0, .int .i32 0, .string .empty, .slice none 0 0, .int .i64 0, .slice none 0 0, .int .i64 0]) (pl := [(0, 1), (1, 2), (3, 4), (7, 1)]) [_, _, _, _, _, _, _, _] fZ zeroValue119 O (fun w => by kernel_rfl) O (.on (.zero (zs := [.int .i32 0, .int .i32 0]) O (.zero (zs := [.string .empty, .slice none 0 0, .int .i64 0, .slice none 0 0]) O (.on .nil)))) O) ?_
  refine kV (kK (l := [_, _, _, _, _, _, _, _]) H1 O O) ?_
  rintro _ w2 ⟨b2, rfl, H2⟩
  refine fP O (dL results22 O ?_)
  exact ⟨_, O, V.zW VM.UO ((Qj (Qj H2)).of_eq (by ac_rfl))⟩
def VM.at (M : VM) (r : Int) : Int := (M.marks r).getD (-1)
theorem Xm {r : Int} (H : V w0 w (jW m M • F)) : jf prog 183 #[.pointer (some ⟨m, 0, none⟩), .int .i32 r] w fun v w' => v = .int .i64 (M.at r) ∧ V w0 w' (jW m M • F) := by
  refine qo func183 ntmps183 ?_
  refine kH O (aI (bI O (dX O func69 (Ep H) ?_)))
  rintro _ _ ⟨rfl, rfl⟩
  refine iR (oL (gy (aI (aI ?_))))
  obtain ⟨Io, GH, F9, oK, rP⟩ := (H).vm
  refine aF (mX O O (bM 0 fZ O sizeOf113 O (eH mQ O (rP).get.2 O (bW O (aV (Hu (rP.f2) mQ bC zeroValue3 O O) (bW O (oZ O O (oZ O O (gW O (fO O (bI O (iW O (fun h1 => ?_) (fun h1 => ?_)))))))))))))
  · (try simp only [Z] at h1)
    try (exfalso; first | contradiction | omega)
    all_goals
      obtain ⟨z, hz⟩ := Option.isSome_iff_exists.1 h1
      obtain ⟨a, ha⟩ : ∃ a, M.marks r = some a := by cases hq : M.marks r with | none => (unfold DX at hz; rw [hq] at hz; cases hz) | some a => exact ⟨a, rfl⟩
      refine bI O (fP O (aC (dL results183 O ?_)))
      have Uu := rP.f4.f4.f4.f4
      have Rj := V.zW (M := M) oK Uu
      exact ⟨by unfold VM.at; rw [ha]; first | rfl | (unfold DX; rw [ha]; rfl), Rj⟩
  · (try simp only [Z] at h1)
    try (exfalso; first | contradiction | omega)
    all_goals
      have ha : M.marks r = none := by cases hq : M.marks r with | none => rfl | some a => (have h9 := h1; unfold DX at h9; rw [hq] at h9; cases h9)
      refine gy (jS O (dL results183 O ?_))
      have Ho7 := rP.f4.f4.f4.f4
      have Hc8 := V.zW (M := M) oK Ho7
      exact ⟨by unfold VM.at; rw [ha]; first | rfl | (unfold DX; rw [ha]; rfl), Hc8⟩
theorem U6 (H : V w0 w (jW m M • F)) : jf prog 38 #[.pointer (some ⟨m, 0, none⟩)] w fun v w' => ∃ c, v = .pointer (some ⟨c, 0, none⟩) ∧ V w0 w' (jW c M • jW m M • F) := by
 refine jE func38 ntmps38 ?_
 refine kH O (aI (bI O (dX O func69 (Ep H) ?_)))
 rintro _ _ ⟨rfl, rfl⟩
 refine iR (oL (gy (aI ?_)))
 obtain ⟨Io, GH, F9, oK, rP⟩ := (H).vm
 have hvk := oK.1
 have hvt := oK.2.1
 refine aF (mX O O (aV (dH fZ O sizeOf119 O O (rP).get.2) (kV (iO (l := [_, _, _, _, _, _, _, _]) rP zeroValue119 O) ?_)))
 rintro _ w3 ⟨b3, rfl, H3⟩
 refine aQ (dM 0 (l' := [_, _, _, _, _, _, _, _]) (us := [_, _, _, _, _, _, _, _]) H3 sizeOf119 O O O (aJ (aJ (aJ (aJ (bG (by first | rfl | exact Rd.one ((H3.f4).lK)) (aJ (bG (by first | rfl | exact Rd.one ((H3.f5).lK)) (aJ dn)))))))) O O) ?_
 rintro _ w4 H4
 refine zk7 (kV (mY (DN .i32) H4) ?_)
 rintro _ w5 ⟨b5, rfl, H5⟩
 refine bM 0 fZ O sizeOf113 O (aQ (ig 0 (l' := [_, _, _, _, _, _, _, _]) H5.f2 sizeOf113 O O (by first | rfl | assumption) O O) ?_)
 rintro _ w6 H6
 refine rW (bI O (dV O (bM 0 fZ O sizeOf113 O (eH mQ O (H6.f3).get.2 O (kV (Hw H6.f4 mQ O) ?_)))))
 rintro _ w7 ⟨it7, mi, rfl, H7⟩
 refine iR (bf ?_)
 obtain ⟨R8, hR8, HR8⟩ := V.Oq (H7.f2.f3.f3)
 have HX0 := HR8
 rw [← Ws (DX M.marks)] at HX0
 refine iy [(0, _), (3, _), (17, _)] (fun (⟨S, n⟩ : List Int × Nat) => []) (fun (⟨S, n⟩ : List Int × Nat) W => V w0 W (Jm YK Io it7 (DX M.marks) S n • jv YK b5 (UM (DX M.marks) S) • gJ b3 (.cells #[.map (some b5), .int .i32 M.fk, .int .i32 M.fc, .string M.name, GH, .int .i64 M.n, F9, .int .i64 M.Ze] 119 (0, 0)) • R8)) (fun (⟨S, n⟩ : List Int × Nat) => n) (([], _)) wW (Sub.nil _) HX0 ?_
 rintro ⟨S, n⟩ w9 HL
 dsimp only [List.cons_append, List.nil_append]
 refine jg (kV (JK HL O) ?_)
 rintro _ w10 ⟨ox, Sx, mx, rfl, hNx, pG⟩
 refine aV (acT O) (rW (bg O (fun h1 => ?_) (fun h1 => ?_)))
 ·(try simp only [Z] at h1)
  try (exfalso; first | contradiction | omega)
  all_goals
   obtain ⟨⟨a, u⟩, rfl⟩ := Option.isSome_iff_exists.1 h1
   obtain ⟨ha, hns, hlt, rfl⟩ := hNx
   refine gy (bf (jg ?_))
   refine aV (UJ (pG) (by assumption) O) ?_
   refine oZ O O (oZ O O (gW O (fO O (aF (bM 0 fZ O sizeOf113 O (eH mQ O (pG.f3).get.2 O (jU O O (aQ (yZ pG.f2 mQ bC O O O) ?_))))))))
   rintro _ FK ru
   refine bT (aH ?_)
   have hres := SX (S := S) ha
   refine dN ((S ++ [a], mx)) ?_ ?_ ?_ ?_
   ·exact (Sub.nil _)
   ·exact wW
   ·(try dsimp only)
    first | done | exact (by rw [hres]; exact ru.f3.f2.f3)
   ·(try dsimp only); omega
 ·(try simp only [Z] at h1)
  try (exfalso; first | contradiction | omega)
  all_goals
   obtain rfl := L6 (o := ox) (by simp [h1])
   obtain ⟨rfl, rfl, hall⟩ := hNx
   refine dR (aP ?_)
   have HX := pG.f3.f2.f3
   rw [Wu hall] at HX
   have Px := HX.f2
   have NV := Px.LZ
   subst hR8
   refine aP (bH (aU (aI ?_)))
   have agW := NV.drew
   have DY := V.kp (agW.f6.f6.f6.f6.f6.f6)
   refine nG [4, 10] DY O (fD 0 O DY O (iG 1 O DY O (dJ 2 O DY 3 fZ O rG O (dJ 3 O DY 1 jl O bD O (fM 4 O DY (fun W hW => fQ ah O ((Kp.h hW).f4).get.2 O) (fD 6 O DY O (iG 7 O DY O (dJ 8 O DY 3 fZ O rG O (dJ 9 O DY 3 jl O bD O (fM 10 O DY (fun W hW => fQ ah O ((Kp.h hW).f4).get.2 O) (ny 5 O (wM O func71 (qy agW (fun W HW => (HW.f5).lK) (by omega))) ?_)))))))))))
   rintro u14 OG rU
   have Ho := V.kp (rU.f7.f7.f7.f7.f7.f7.f7)
   refine dK Ho (fun W hW => (Kp.h hW).right.f6.f6.f6.f6.f6.f6) ?_
   refine ny 11 O (wM O func71 (qy rU (fun W HW => (HW.f7).lK) (by omega))) ?_
   rintro u15 OM zV
   have zA := V.kp (zV.f8.f8.f8.f8.f8.f8.f8.f8)
   refine gU zA (by kernel_rfl) ?_
   refine dJ 12 O zA 3 fZ O rG O (dJ 13 O zA 1 jl O bD O ?_)
   refine dF 14 O (by kernel_rfl) (ig 4 (l' := [_, _, _, _, _, _, _, _]) zV.f5 bD O O (by first | rfl | exact Rd.one ((zV.f2).aO)) O O) ?_
   rintro _ w16 uT
   have yY := V.kp (uT.f8.f8.f8.f8.f8.f8.f8.f8)
   refine gU yY (by kernel_rfl) ?_
   refine dJ 15 O yY 3 fZ O rG O (dJ 16 O yY 3 jl O bD O ?_)
   refine dF 17 O (by kernel_rfl) (ig 6 (l' := [_, _, _, _, _, _, _, _]) uT bD O O (by first | rfl | exact Rd.one ((uT.f2).aO)) O O) ?_
   rintro _ Yp BX
   have Ed := V.kp (BX.f8.f8.f8.f8.f8.f8.f8.f8)
   refine gU Ed (by kernel_rfl) ?_
   refine lJ (aU (jS O (dL results38 O ?_)))
   have aie := BX.f3
   have aif := aie.oC
   have acY := aif.f3
   have YP := acY.oC
   have adJ := YP.f8.f8.f6.f8
   have adK := V.zW (M := M) oK adJ
   exact ⟨_, O, V.zW oK adK.f2.f3.f5.f5⟩
end
end Go.Proofs.YtpdeedplgmbopaaGreatDoor
end
section
namespace Go.Proofs.YtpdeedplgmbopaaGreatDoor
open Go.RowKit
theorem pY {P : Program} {L : List (Nat × Value)} {w : World} {ty t : TypeId} {fs : Array Field} {f : Field} {i : Nat} {x : Operand} {cs : Array Value} {u : Value} (off : Nat) (ht : P.underlying t = some (.struct fs)) (hf : fs[i]? = some f) (ho : f.offset = off) (hp : sD P f.type = true) (hx : ev L x = some (.agg cs)) (hc : cs[off]? = some u) :
    Val P L (.field t x i) ty w u w := fun ρ hρ _ _ _ _ => by
  simp [execOp, hρ _ _ hx, Instr.field, run_underlying ht, hf, part, asAgg, FD hp, ho, hc]
end Go.Proofs.YtpdeedplgmbopaaGreatDoor
end
section
namespace Go.Proofs.YtpdeedplgmbopaaGreatDoor
open Go.RowKit
open _root_.Go.Proofs.Tryz
abbrev VC (c m e : Nat) (name : ByteArray) (kv : Value) (n : Int) (g : Bool) (lv : Value) (p : Int) : HP := gJ c (.cells #[.pointer (some ⟨m, 0, none⟩), .pointer (some ⟨e, 0, none⟩), .string name, kv, .int .i64 n, .bool g, lv, .int .i64 p] 130 (0, 0))
namespace bQ
variable (s : bQ)
def DZ : Prop := s.c.mode = 2 ∧ 0 < s.c.L.length ∧ s.c.pt = s.c.L.length
instance : Decidable s.DZ := by unfold DZ; infer_instance
def Jw : Int := if s.DZ then s.DL ((s.c.L.length : Int) - 1) else 0
def BO : bQ := if s.DZ then s.wK ((s.c.L.length : Int) - 1) else s
end bQ
section
variable {w0 w : World} {F : HP} {c m e : Nat} {s : bQ} {name : ByteArray} {kv lv : Value} {n p : Int} {g : Bool}
theorem U7 (H : V w0 w (VC c m e name kv n g lv p • dZ e s • F)) : jf prog 75 #[.pointer (some ⟨c, 0, none⟩)] w fun v w' => v = .int .i64 s.Jw ∧ V w0 w' (VC c m e name kv n g lv p • dZ e s.BO • F) := by
 have hl9 : s.c.L.length ≤ 1024 := by
  obtain ⟨pb, pr, pw, pt, pm, ph, bl, pv, es, u0, u1, u2, u3, u4, u5, u6, u7, u8, u9, ua, h, _, _, H2⟩ := H.f2.Jp
  obtain ⟨a, c, xs, f, t, h1, h2, h3, h4, h5, h6, h7, _⟩ := H2.f2.buf
  exact h4
 refine jE func75 ntmps75 ?_
 refine kH O (bI O (dV O (bM 1 aB O fA O (eH bY O (H).get.2 O (dX O func28 (pU H.f2) ?_)))))
 rintro _ w1 ⟨u1, rfl, H1⟩
 refine kV (iO (l := [_, _, _]) H1 zeroValue46 O) ?_
 rintro _ w2 ⟨b2, rfl, H2⟩
 refine aQ (dM 0 (l' := [_, _, _]) (us := [_, _, _]) H2 sizeOf46 O O O (bG (by first | rfl | exact Rd.one ((H2.f2).aO)) (aJ (aJ dn))) O O) ?_
 rintro _ w3 H3
 refine rW (bI O (dV O (bM 1 aB O fA O (eH bY O (H3.f4).get.2 O (dX O func23 (CG H3.f3) ?_)))))
 rintro _ w4 ⟨u4, ks4, us4, sv4, rfl, H4⟩
 refine aV (pY 3 aG O O (bV aA O) O O) (aV (fB O O) (jY O (fun h1 => ?_) (fun h1 => ?_)))
 ·(try simp only [Z] at h1)
  refine bF (bM 0 fK O bD O (bF (eH ah O (H4.f6).get.2 O (bF (aV (gZ ((H4.f7).aO) ah O) (bF (aV (gK O O) (jQ O O (jY O (fun h2 => ?_) (fun h2 => ?_))))))))))
  ·(try simp only [Z] at h2)
   refine bF (bM 1 fK O aj O (bF (eH aA O (H4.f6).get.2 O (bF (bM 0 fK O bD O (bF (eH ah O (H4.f6).get.2 O (bF (aV (gZ ((H4.f7).aO) ah O) (bF (aV (fB O O) (jQ O O (iW O (fun h3 => ?_) (fun h3 => ?_))))))))))))))
   ·(try simp only [Z] at h3)
    refine aI ?_
    have aih := H4.drew
    have Lc := V.kp (aih.f8.f8.f8.f8.f8.f8.f8.f8)
    refine nG [3, 5] Lc O (fD 0 O Lc O (iG 1 O Lc O (dJ 2 O Lc 1 aB O fA O (fM 3 O Lc (fun W hW => fQ bY O ((Kp.h hW).f8).get.2 O) (dJ 4 O Lc 0 fK O bD O (fM 5 O Lc (fun W hW => fQ ah O ((Kp.h hW).f6).get.2 O) (dS 6 O Lc (fun _ => gZ ((aih.f7).aO) ah O) (dS 7 O Lc (fun _ => jJ O O (by omega)) (ny 8 O (wM O func30 (kD aih.f5)) ?_)))))))))
    rintro _ w5 ⟨rfl, H5⟩
    have D8 := V.kp (H5.f8.f8.f8.f8.f8.f8.f8.f8)
    refine gU D8 (by kernel_rfl) ?_
    refine dS 9 O D8 (fun _ => aW O) (lJ (aU (iL (aC (dL results75 O ?_)))))
    have hp : s.DZ := by unfold bQ.DZ; omega
    exact ⟨by unfold bQ.Jw; rw [if_pos hp], by unfold bQ.BO; rw [if_pos hp]; exact H5.f2.right.f2.right.f2.right.f2.right.f2.right.f2.right.f2⟩
   ·(try simp only [Z] at h3)
    refine gy (jS O (dL results75 O ?_))
    have hp : ¬ s.DZ := by unfold bQ.DZ; omega
    exact ⟨by unfold bQ.Jw; rw [if_neg hp], by unfold bQ.BO; rw [if_neg hp]; exact H4.right.right.right.right.f2.right.f2.right.f2⟩
  ·(try simp only [Z] at h2)
   refine bK (bK (bK (bK (bK (bK (iH O O (iR (oL (gy (jS O (dL results75 O ?_)))))))))))
   have hp : ¬ s.DZ := by unfold bQ.DZ; omega
   exact ⟨by unfold bQ.Jw; rw [if_neg hp], by unfold bQ.BO; rw [if_neg hp]; exact H4.right.right.right.right.f2.right.f2.right.f2⟩
 ·(try simp only [Z] at h1)
  refine bK (bK (bK (bK (iH O O (bW O (bK (bK (bK (bK (bK (bK (iH O O (iR (oL (gy (jS O (dL results75 O ?_)))))))))))))))))
  have hp : ¬ s.DZ := by unfold bQ.DZ; omega
  exact ⟨by unfold bQ.Jw; rw [if_neg hp], by unfold bQ.BO; rw [if_neg hp]; exact H4.right.right.right.right.f2.right.f2.right.f2⟩
theorem Ld (H : V w0 w F) : jf prog 125 #[.string name] w fun v w' => v = .tuple #[.bool (decide (zM name ∨ vZ name)), .bool (decide (zM name))] ∧ V w0 w' F := by
  refine jE func125 ntmps125 ?_
  refine jg (gW O (tX O (bI O (iR (bf ?_)))))
  refine kE [(4, _)] (fun (_ : Unit) => [(5, .bool (decide (zM name)))]) (fun (_ : Unit) W => V w0 W F) lH ?_ ?_
  · rintro _ w1 HJ
    dsimp only [List.cons_append, List.nil_append]
    refine bg O (fun h1 => ?_) (fun h1 => ?_)
    · (try simp only [Z] at h1)
      refine jg (gW O (fP O (aN (aC (MO results125 O O ?_)))))
      have ht : zM name := by assumption
      exact ⟨by rw [decide_eq_true ht, decide_eq_true (Or.inl ht)], HJ⟩
    · (try simp only [Z] at h1)
      refine kE [] (fun (_ : Unit) => [(10, .bool (decide (vZ name)))]) (fun (_ : Unit) W => V w0 W F) (Sub.nil _) ?_ ?_
      · rintro _ w2 HK
        dsimp only [List.cons_append, List.nil_append]
        refine bg O (fun h2 => ?_) (fun h2 => ?_)
        · (try simp only [Z] at h2)
          refine jg (gW O (fP O (aN (aC (MO results125 O O ?_)))))
          have ht : ¬ zM name := by assumption
          have hc : vZ name := by assumption
          exact ⟨by rw [decide_eq_false ht, decide_eq_true (Or.inr hc)], HK⟩
        · (try simp only [Z] at h2)
          refine bU (aH (aU (jg (gW O (fP O (MO results125 O O ?_))))))
          have ht : ¬ zM name := by assumption
          have hc : ¬ vZ name := by assumption
          exact ⟨by rw [decide_eq_false ht, decide_eq_false (fun h => h.elim ht hc)], HK⟩
      · skip
        refine jg (aV (eP O O) (fO O (bg O (fun h3 => ?_) (fun h3 => ?_))))
        · (try simp only [Z] at h3)
          refine bU ?_
          refine dG (()) ?_ ?_ ?_
          · exact (Sub.kJ O (by first | exact qU (beq_iff_eq.2 (by assumption)) (by unfold vZ; first | exact .inl (by assumption) | exact .inr (.inl (by assumption)) | exact .inr (.inr (.inl (by assumption))) | exact .inr (.inr (.inr (.inl (by assumption)))) | exact .inr (.inr (.inr (.inr (by assumption))))) | exact congrArg Value.bool (by rw [Bool.eq_iff_iff, decide_eq_true_iff, beq_iff_eq]; unfold vZ; exact ⟨fun h => .inr (.inr (.inr (.inr h))), fun h => by rcases h with h | h | h | h | h <;> first | exact h | exact absurd h (by assumption)⟩)) (Sub.nil _))
          · exact (Sub.nil _)
          · (try dsimp only)
            first | done | exact HJ
        · (try simp only [Z] at h3)
          refine jg (aV (eP O O) (fO O (bg O (fun h4 => ?_) (fun h4 => ?_))))
          · (try simp only [Z] at h4)
            refine bU ?_
            refine dG (()) ?_ ?_ ?_
            · exact (Sub.kJ O (by first | exact qU (beq_iff_eq.2 (by assumption)) (by unfold vZ; first | exact .inl (by assumption) | exact .inr (.inl (by assumption)) | exact .inr (.inr (.inl (by assumption))) | exact .inr (.inr (.inr (.inl (by assumption)))) | exact .inr (.inr (.inr (.inr (by assumption))))) | exact congrArg Value.bool (by rw [Bool.eq_iff_iff, decide_eq_true_iff, beq_iff_eq]; unfold vZ; exact ⟨fun h => .inr (.inr (.inr (.inr h))), fun h => by rcases h with h | h | h | h | h <;> first | exact h | exact absurd h (by assumption)⟩)) (Sub.nil _))
            · exact (Sub.nil _)
            · (try dsimp only)
              first | done | exact HJ
          · (try simp only [Z] at h4)
            refine jg (aV (eP O O) (fO O (bg O (fun h5 => ?_) (fun h5 => ?_))))
            · (try simp only [Z] at h5)
              refine bU ?_
              refine dG (()) ?_ ?_ ?_
              · exact (Sub.kJ O (by first | exact qU (beq_iff_eq.2 (by assumption)) (by unfold vZ; first | exact .inl (by assumption) | exact .inr (.inl (by assumption)) | exact .inr (.inr (.inl (by assumption))) | exact .inr (.inr (.inr (.inl (by assumption)))) | exact .inr (.inr (.inr (.inr (by assumption))))) | exact congrArg Value.bool (by rw [Bool.eq_iff_iff, decide_eq_true_iff, beq_iff_eq]; unfold vZ; exact ⟨fun h => .inr (.inr (.inr (.inr h))), fun h => by rcases h with h | h | h | h | h <;> first | exact h | exact absurd h (by assumption)⟩)) (Sub.nil _))
              · exact (Sub.nil _)
              · (try dsimp only)
                first | done | exact HJ
            · (try simp only [Z] at h5)
              refine jg (aV (eP O O) (fO O (bg O (fun h6 => ?_) (fun h6 => ?_))))
              · (try simp only [Z] at h6)
                refine bU ?_
                refine dG (()) ?_ ?_ ?_
                · exact (Sub.kJ O (by first | exact qU (beq_iff_eq.2 (by assumption)) (by unfold vZ; first | exact .inl (by assumption) | exact .inr (.inl (by assumption)) | exact .inr (.inr (.inl (by assumption))) | exact .inr (.inr (.inr (.inl (by assumption)))) | exact .inr (.inr (.inr (.inr (by assumption))))) | exact congrArg Value.bool (by rw [Bool.eq_iff_iff, decide_eq_true_iff, beq_iff_eq]; unfold vZ; exact ⟨fun h => .inr (.inr (.inr (.inr h))), fun h => by rcases h with h | h | h | h | h <;> first | exact h | exact absurd h (by assumption)⟩)) (Sub.nil _))
                · exact (Sub.nil _)
                · (try dsimp only)
                  first | done | exact HJ
              · (try simp only [Z] at h6)
                refine aF (aV (eP O O) (gW O (bT ?_)))
                refine dG (()) ?_ ?_ ?_
                · exact (Sub.kJ O (by first | exact qU (beq_iff_eq.2 (by assumption)) (by unfold vZ; first | exact .inl (by assumption) | exact .inr (.inl (by assumption)) | exact .inr (.inr (.inl (by assumption))) | exact .inr (.inr (.inr (.inl (by assumption)))) | exact .inr (.inr (.inr (.inr (by assumption))))) | exact congrArg Value.bool (by rw [Bool.eq_iff_iff, decide_eq_true_iff, beq_iff_eq]; unfold vZ; exact ⟨fun h => .inr (.inr (.inr (.inr h))), fun h => by rcases h with h | h | h | h | h <;> first | exact h | exact absurd h (by assumption)⟩)) (Sub.nil _))
                · exact (Sub.nil _)
                · (try dsimp only)
                  first | done | exact HJ
  · skip
    refine jg (aV (eP O O) (fO O (bg O (fun h7 => ?_) (fun h7 => ?_))))
    · (try simp only [Z] at h7)
      refine bU ?_
      refine dG (()) ?_ ?_ ?_
      · exact (Sub.kJ O (by first | exact qU (beq_iff_eq.2 (by assumption)) (by unfold zM; first | exact .inl (by assumption) | exact .inr (.inl (by assumption)) | exact .inr (.inr (.inl (by assumption))) | exact .inr (.inr (.inr (by assumption)))) | exact congrArg Value.bool (by rw [Bool.eq_iff_iff, decide_eq_true_iff, beq_iff_eq]; unfold zM; exact ⟨fun h => .inr (.inr (.inr h)), fun h => by rcases h with h | h | h | h <;> first | exact h | exact absurd h (by assumption)⟩)) (Sub.nil _))
      · exact lH
      · (try dsimp only)
        first | done | exact H
    · (try simp only [Z] at h7)
      refine jg (aV (eP O O) (fO O (bg O (fun h8 => ?_) (fun h8 => ?_))))
      · (try simp only [Z] at h8)
        refine bU ?_
        refine dG (()) ?_ ?_ ?_
        · exact (Sub.kJ O (by first | exact qU (beq_iff_eq.2 (by assumption)) (by unfold zM; first | exact .inl (by assumption) | exact .inr (.inl (by assumption)) | exact .inr (.inr (.inl (by assumption))) | exact .inr (.inr (.inr (by assumption)))) | exact congrArg Value.bool (by rw [Bool.eq_iff_iff, decide_eq_true_iff, beq_iff_eq]; unfold zM; exact ⟨fun h => .inr (.inr (.inr h)), fun h => by rcases h with h | h | h | h <;> first | exact h | exact absurd h (by assumption)⟩)) (Sub.nil _))
        · exact lH
        · (try dsimp only)
          first | done | exact H
      · (try simp only [Z] at h8)
        refine jg (aV (eP O O) (fO O (bg O (fun h9 => ?_) (fun h9 => ?_))))
        · (try simp only [Z] at h9)
          refine bU ?_
          refine dG (()) ?_ ?_ ?_
          · exact (Sub.kJ O (by first | exact qU (beq_iff_eq.2 (by assumption)) (by unfold zM; first | exact .inl (by assumption) | exact .inr (.inl (by assumption)) | exact .inr (.inr (.inl (by assumption))) | exact .inr (.inr (.inr (by assumption)))) | exact congrArg Value.bool (by rw [Bool.eq_iff_iff, decide_eq_true_iff, beq_iff_eq]; unfold zM; exact ⟨fun h => .inr (.inr (.inr h)), fun h => by rcases h with h | h | h | h <;> first | exact h | exact absurd h (by assumption)⟩)) (Sub.nil _))
          · exact lH
          · (try dsimp only)
            first | done | exact H
        · (try simp only [Z] at h9)
          refine aF (aV (eP O O) (gW O (bT ?_)))
          refine dG (()) ?_ ?_ ?_
          · exact (Sub.kJ O (by first | exact qU (beq_iff_eq.2 (by assumption)) (by unfold zM; first | exact .inl (by assumption) | exact .inr (.inl (by assumption)) | exact .inr (.inr (.inl (by assumption))) | exact .inr (.inr (.inr (by assumption)))) | exact congrArg Value.bool (by rw [Bool.eq_iff_iff, decide_eq_true_iff, beq_iff_eq]; unfold zM; exact ⟨fun h => .inr (.inr (.inr h)), fun h => by rcases h with h | h | h | h <;> first | exact h | exact absurd h (by assumption)⟩)) (Sub.nil _))
          · exact lH
          · (try dsimp only)
            first | done | exact H
end
end Go.Proofs.YtpdeedplgmbopaaGreatDoor
end
section
namespace Go.Proofs.YtpdeedplgmbopaaGreatDoor
open Go.RowKit Go.Lib
section
variable {P : Program} {L : List (Nat × Value)} {w0 w : World} {F : HP} {ty : TypeId} {b : Nat} {v d : Int} {t : TypeId}
theorem Xn {u : Value} (hc : w.cell? ⟨b, 0, none⟩ = some u) (hz : w.frozen? ⟨b, 0, none⟩ = false) : (Extern.Atomic.storeT #[.pointer (some ⟨b, 0, none⟩), .int .i64 d]).run P w = .ok Extern.Atomic.none_ (w.setCell ⟨b, 0, none⟩ (.int .i64 d)) := by
  change Sem.run P (do store (← asAddr (.pointer (some ⟨b, 0, none⟩))) (.int .i64 d) .atomic; pure Extern.Atomic.none_) w = _
  simp [asAddr, run_store _ _ _ _ _ (rfl : (Value.int .i64 d).oneCell' = true), hc, hz, Result.andThen]
theorem abM {f : FuncId} {args : List Operand} {ts : Array TypeId} {fn : Func} (H : V w0 w (gJ b (.cells #[.int .i64 v] t (0, 0)) • F)) (ha : Je L args = some [.pointer (some ⟨b, 0, none⟩), .int .i64 d])
    (hf : P.funcs[f]? = some fn) (hname : (fn.name == "runtime.NumGoroutine") = false) (hb : fn.body.isNone = true) (hn : Extern.findNext fn = none) (he : Extern.find fn = some Extern.Atomic.storeT) :
    zU P L (.call ⟨.value (.func f), args.toArray, ts⟩) ty w fun u w' => V w0 w' (gJ b (.cells #[.int .i64 d] t (0, 0)) • F) :=
  acW ha hf hname hb hn he (Xn (iI H.get.2 rfl) (GL H.get.2)) (H.setCell (i := 0) _)
theorem Ql (H : V w0 w (gJ b (.cells #[.int .i64 v] t (0, 0)) • F)) : jf Tryz.prog 123 #[.pointer (some ⟨b, 0, none⟩), .int .i64 d] w fun u w' => V w0 w' (gJ b (.cells #[.int .i64 d] t (0, 0)) • F) := by
 refine qo Tryz.func123 Tryz.ntmps123 ?_
 refine aF (mX O O (bM 0 Tryz.underlying161 O fV O (bW O (kV (abM H O Tryz.func159 O O (by kernel_rfl) (by kernel_rfl)) ?_))))
 rintro _ w1 H1
 refine bT (oU (.inr O) Tryz.results123 ?_)
 exact H1
end
end Go.Proofs.YtpdeedplgmbopaaGreatDoor
end
