import Derived.Test.YtpdeedplgmbopaaGreatDoorZ4
import Derived.Test.YtpdeedplgmbopaaGreatDoorZ10
import Derived.Test.YtpdeedplgmbopaaGreatDoorZ9
import Derived.Test.YtpdeedplgmbopaaGreatDoorZ5
import Derived.Lib.OthersKept
import Derived.Lib.Bytealg
import Derived.Conc.AtomicLaws2
set_option linter.unusedSimpArgs false
set_option linter.unusedVariables false
/- Texts of mine, joined, their names in short: RWalk VNm VWa VM EdA Atom. -/
section
namespace Go.Proofs.YtpdeedplgmbopaaGreatDoor
open Go.RowKit
open _root_.Go.Proofs.Tryz
def strs (l : List ByteArray) : List Value := l.map Value.string
theorem JC {l : List ByteArray} : ∀ x ∈ strs l, x.oneCell' = true := by
  intro x hx
  obtain ⟨e, _, rfl⟩ := List.mem_map.1 hx
  rfl
def nP (hl : List pR) : List ByteArray := hl.map (·.1) ++ [.empty]
section
variable {P : Program} {L : List (Nat × Value)} {w0 w : World} {F : HP} {p : Nat} {hl l : List pR} {base most : Int} {v : Value}
theorem SV {hl : List pR} {k : Nat} (hk : k < hl.length) : strs ((hl.take (k + 1)).map (·.1)) = strs ((hl.take k).map (·.1)) ++ [.string (hl.getD k default).1] := by
  unfold strs
  rw [List.take_succ_eq_append_getElem hk, List.map_append, List.map_append, List.getD_eq_getElem?_getD, List.getElem?_eq_getElem hk]; rfl
theorem IK (H : V w0 w (iY p hl base most • F)) : gJ prog 114 #[.pointer (some ⟨p, 0, none⟩)] w fun v w' => ∃ q ov nv, v = .pointer (some ⟨q, 0, none⟩) ∧
  V w0 w' (dL q (.cells #[ov, nv, .int .i64 hl.length] 166 (0, 0)) • Row 9 1 ov (nP hl).length (strs (nP hl)) • Row 9 1 nv (nP hl).length (strs (nP hl)) • iY p hl base most • F) := by
 refine iG func114 ntmps114 ?_
 refine jr O (aP ?_)
 obtain ⟨Pz, AY, zD⟩ := (H).Q7
 have hkl := AY.1
 refine aC (nD O O (bD 0 kN O sizeOf149 O (fZ fD O (zD).get.2 O (aV (jw ((zD.f2).GN) fD O) ?_))))
 refine aV (dS (zl := [.slice none 0 0, .slice none 0 0, .int .i64 0]) (pl := [(0, 1), (1, 1), (2, 1)]) [_, _, _] fM zeroValue166 O (fun w => by kernel_rfl) O (.zero (zs := [.slice none 0 0]) O (.zero (zs := [.slice none 0 0]) O (.on .nil))) O) ?_
 refine jv (iM (l := [_, _, _]) zD O O) ?_
 rintro _ w2 ⟨b2, rfl, H2⟩
 refine wu O (jr O (aY ?_))
 refine fF [(0, _), (3, _)] (fun (⟨k, u⟩ : Nat × Value) => [(4, .int .i64 (k : Int))]) (fun (⟨k, u⟩ : Nat × Value) W => k ≤ hl.length ∧ V w0 W (dL b2 (.cells #[u, .slice none 0 0, .int .i64 hl.length] 166 (0, 0)) • Row 9 1 u k (strs ((hl.take k).map (·.1))) • dL p (.cells #[Pz, .int .i64 base, .int .i64 most] 155 (0, 0)) • hlK Pz hl • F)) (fun (⟨k, u⟩ : Nat × Value) => hl.length - k) ((0, .slice none 0 0)) qG lG ⟨by omega, (H2.f3.f3.f3).iO none |>.swap⟩ ?_
 rintro ⟨k, u⟩ w3 ⟨hk, HL⟩
 dsimp only [List.cons_append, List.nil_append]
 refine aP (bT O (nD O O (bD 0 kN O sizeOf149 O (fZ fD O (HL.f3).get.2 O (aV (jw ((HL.f4).GN) fD O) (aV (gY O O) (je O (fun h1 => ?_) (fun h1 => ?_))))))))
 ·(try simp only [Z] at h1)
  have hkl2 : k < hl.length := by have h9 := h1; omega
  refine gq (aP (aY ?_))
  have aam := HL.drew
  have xA := V.kp (aam.f4.f4.f4.f4)
  refine yw [4, 8, 12] xA O (jB 0 O xA O (jB 1 O xA O (kJ 2 O xA O (gU 3 O xA 0 fM O sizeOf33 O (jT 4 O xA (fun W hW => kC ig O ((Kp.h hW)).get.2 O) (jB 5 O xA O (kJ 6 O xA O (gU 7 O xA 0 kN O sizeOf149 O (jT 8 O xA (fun W hW => kC fD O ((Kp.h hW).f3).get.2 O) (jB 9 O xA O ?_))))))))))
  obtain ⟨abW, abX, abY, Vt⟩ := Rd.pJ ((aam.f4).GN) (by omega)
  cases Vt
  refine ji 10 O xA (fun _ => dD fD sizeOf218 O O (by omega)) (gU 11 O xA 0 kP O oD O (jT 12 O xA (fun W hW => LJ (eG (bY kG O) O (Rd.atS (((Kp.h hW).f4).GN) (by omega) (by decide))) (aak hkl2)) (oq 13 O (jR (vs := [_]) aam ig oD zeroValue9 O O O (by decide) (aA bF)) ?_)))
  rintro l4 w4 H4
  have xI := V.kp (H4.f5.f5.f5.f5.f5)
  refine dV xI (fun W hW => (Kp.h hW).right.f4.f4.f4.f4) ?_
  refine oq 14 O (fU H4.f3 ig X7 O O O ((H4).aS) (aA bF) (by omega) (by omega)) ?_
  rintro l5 w5 H5
  have Hd6 := H5.f2.right
  have IG := V.kp (Hd6.f4.f4.f4.f4)
  refine gV IG (by kernel_rfl) ?_
  refine kJ 15 O IG O (gU 16 O IG 0 fM O sizeOf33 O ?_)
  refine fO 17 O (by kernel_rfl) (fA 0 (l' := [_, _, _]) Hd6.f2 sizeOf33 O O (by first | rfl | exact Rd.one ((Hd6).aS)) O O) ?_
  rintro _ w7 H7
  have Iz := V.kp (H7.f4.f4.f4.f4)
  refine gV Iz (by kernel_rfl) ?_
  refine qU (aJ (aX (aC (bP O (aV (fQ O O (by omega)) (fV O (bM ?_)))))))
  refine dK ((k + 1, l5)) ?_ ?_ ?_ ?_
  ·exact lG
  ·exact qG
  ·(try dsimp only)
   first | done | exact ⟨by omega, by rw [SV hkl2]; exact H7⟩
  ·(try dsimp only); omega
 ·(try simp only [Z] at h1)
  refine dB (aI (aI (bf (aX (aP ?_)))))
  obtain rfl : k = hl.length := by omega
  refine aC (jG O O (dJ O (bD 0 fM O sizeOf33 O (fZ ig O (HL).get.2 O (jv (jR (vs := [_]) HL ig oD zeroValue9 O O O (by decide) (aA bF)) ?_)))))
  rintro l8 w8 H8
  refine jv (fU H8.f3 ig X7 O O O ((H8).aS) (aA bF) (by omega) (by omega)) ?_
  rintro l9 w9 H9
  have X8 := H9.f2.right
  refine dJ O (bD 0 fM O sizeOf33 O (aH (fA 0 (l' := [_, _, _]) X8.f2 sizeOf33 O O (by first | rfl | exact Rd.one ((X8).aS)) O O) ?_))
  rintro _ EH rF
  have HX := rF
  rw [List.take_length, show strs (hl.map (·.1)) ++ [Value.string { data := #[] }] = strs (nP hl) from by unfold nP strs; rw [List.map_append]; rfl, show hl.length + 1 = (nP hl).length from by simp [nP]] at HX
  have hon := @JC (nP hl)
  have hol : (nP hl).length = hl.length + 1 := by simp [nP]
  refine qR O (nD O O (bD 0 fM O sizeOf33 O (fZ ig O (HX).get.2 O (jv (fU (HX.iO none) ig X7 O O O ((HX.f2).aS) (by assumption) (by omega) (by omega)) ?_))))
  rintro l12 w12 uI
  refine dJ O (bD 1 fM O sizeOf33 O (aH (fA 1 (l' := [_, _, _]) uI.f2 sizeOf33 O O (by first | rfl | exact Rd.one ((uI).aS)) O O) ?_))
  rintro _ Pj xk
  refine qR O (fC O (dH results114 O ?_))
  have aan := xk.f5.f5
  have aao := V.Dq AY aan
  have HQ := aao.f3.f4.f4
  rw [List.nil_append, Nat.zero_add] at HQ
  exact ⟨_, _, _, O, HQ⟩
end
section
def abZ : ByteArray := ⟨#[118, 105, 45, 97, 114, 103, 45, 100, 105, 103, 105, 116]⟩
def Vu : ByteArray := ⟨#[118, 105, 45, 99, 104, 97, 110, 103, 101, 45, 99, 97, 115, 101]⟩
def BO : ByteArray := ⟨#[118, 105, 45, 99, 104, 97, 110, 103, 101, 45, 99, 104, 97, 114]⟩
def BP : ByteArray := ⟨#[118, 105, 45, 99, 104, 97, 110, 103, 101, 45, 116, 111]⟩
def Vw : ByteArray := ⟨#[118, 105, 45, 100, 101, 108, 101, 116, 101]⟩
def y5 : ByteArray := ⟨#[118, 105, 45, 100, 101, 108, 101, 116, 101, 45, 116, 111]⟩
def Vx : ByteArray := ⟨#[118, 105, 45, 105, 110, 115, 101, 114, 116]⟩
def rJ : ByteArray := ⟨#[118, 105, 45, 109, 111, 118, 101]⟩
def aap : ByteArray := ⟨#[118, 105, 45, 109, 111, 118, 101, 109, 101, 110, 116, 45, 109, 111, 100, 101]⟩
def Vy : ByteArray := ⟨#[118, 105, 45, 111, 118, 101, 114, 115, 116, 114, 105, 107, 101]⟩
def Vz : ByteArray := ⟨#[118, 105, 45, 112, 117, 116]⟩
def aaq : ByteArray := ⟨#[118, 105, 45, 114, 101, 100, 111]⟩
def Ef : ByteArray := ⟨#[118, 105, 45, 115, 101, 116, 45, 109, 97, 114, 107]⟩
def VA : ByteArray := ⟨#[118, 105, 45, 115, 117, 98, 115, 116]⟩
def VB : ByteArray := ⟨#[118, 105, 45, 117, 110, 100, 111]⟩
def Eh : ByteArray := ⟨#[118, 105, 45, 121, 97, 110, 107, 45, 116, 111]⟩
def KO : List ByteArray := [abZ, Vu, BO, BP, Vw, y5, Vx, rJ, aap, Vy, Vz, aaq, Ef, VA, VB, Eh]
def zZ (n : ByteArray) : Prop := ∃ k, k < 16 ∧ (KO.getD k .empty).toList = n.toList
theorem VD {l : List ByteArray} {k : Nat} (hk : k < l.length) : (strs l).getD k undef = .string (l.getD k .empty) := by
  unfold strs; simp [List.getD_eq_getElem?_getD, hk]
def Ei : ByteArray := ⟨#[102, 70, 116, 84, 96]⟩
def aar : ByteArray := ⟨#[100, 99, 121]⟩
def yH (n : ByteArray) (keys : List Int) : Prop :=
  if n.toList = rJ.toList then keys.length = 1 ∧ keys.getD 0 0 ∈ Ec Ei
  else if n.toList = BO.toList ∨ n.toList = Ef.toList then keys.length = 1
  else if n.toList = y5.toList ∨ n.toList = BP.toList ∨ n.toList = Eh.toList then
    keys.getD 0 0 ∈ Ec aar ∧ ((lq (keys.drop 1)).length = 0 ∨ ((lq (keys.drop 1)).length = 1 ∧ (lq (keys.drop 1)).getD 0 0 ∈ Ec Ei))
  else False
open Classical in
noncomputable def nZ (n : ByteArray) (keys : List Int) : Int := if ¬ zZ n then -1 else if keys.length = 0 then 1 else if yH n keys then 1 else 0
section
variable {n : ByteArray} {keys : List Int}
theorem SX (h : ¬ zZ n) : nZ n keys = -1 := if_pos h
theorem VE (h : zZ n) (h0 : keys.length = 0) : nZ n keys = 1 := by unfold nZ; rw [if_neg (not_not_intro h), if_pos h0]
theorem Ns (h : zZ n) (h1 : yH n keys) : nZ n keys = 1 := by
  unfold nZ; rw [if_neg (not_not_intro h), if_pos h1]; split <;> rfl
theorem GR (h : zZ n) (h0 : ¬ keys.length = 0) (h1 : ¬ yH n keys) : nZ n keys = 0 := by unfold nZ; rw [if_neg (not_not_intro h), if_neg h0, if_neg h1]
theorem fH (h : n.toList = rJ.toList) : yH n keys ↔ (keys.length = 1 ∧ keys.getD 0 0 ∈ Ec Ei) := by unfold yH; rw [if_pos h]
theorem jS (h1 : ¬ n.toList = rJ.toList) (h : n.toList = BO.toList ∨ n.toList = Ef.toList) : yH n keys ↔ keys.length = 1 := by unfold yH; rw [if_neg h1, if_pos h]
theorem dU (h1 : ¬ n.toList = rJ.toList) (h2 : ¬ (n.toList = BO.toList ∨ n.toList = Ef.toList)) (h : n.toList = y5.toList ∨ n.toList = BP.toList ∨ n.toList = Eh.toList) :
    yH n keys ↔ (keys.getD 0 0 ∈ Ec aar ∧ ((lq (keys.drop 1)).length = 0 ∨ ((lq (keys.drop 1)).length = 1 ∧ (lq (keys.drop 1)).getD 0 0 ∈ Ec Ei))) := by unfold yH; rw [if_neg h1, if_neg h2, if_pos h]
theorem ug (h1 : ¬ n.toList = rJ.toList) (h2 : ¬ (n.toList = BO.toList ∨ n.toList = Ef.toList)) (h : ¬ (n.toList = y5.toList ∨ n.toList = BP.toList ∨ n.toList = Eh.toList)) : ¬ yH n keys := by unfold yH; rw [if_neg h1, if_neg h2, if_neg h]; exact id
end
section
variable {w0 w : World} {F : HP} {v u : Value} {l : List ByteArray} {n : ByteArray} {keys : List Int}
theorem PU (H : V w0 w F) : gJ prog 19 #[] w fun u w' => V w0 w' (Row 9 1 u 16 (strs KO) • F) := by
  refine RS func19 ntmps19 ?_
  refine jr O (iH (jv (jR (vs := [_, _, _, _, _, _, _, _, _, _, _, _, _, _, _, _]) H ig oD zeroValue9 O O O (by decide) (aA (aA (aA (aA (aA (aA (aA (aA (aA (aA (aA (aA (aA (aA (aA (aA bF))))))))))))))))) ?_))
  rintro l1 w1 H1
  refine fC O (dH results19 O ?_)
  exact H1
theorem SY (H : V w0 w F) (hr : RP w0 F 1 v l.length (strs l)) : gJ prog 108 #[v, .string n] w fun u w' => ∃ i, u = .int .i64 i ∧ (0 ≤ i ↔ ∃ k, k < l.length ∧ (l.getD k .empty).toList = n.toList) ∧ V w0 w' F := by
 have Vm : l.length ≤ 9223372036854775807 := by obtain ⟨_, a, c, _, h1, h2, _⟩ := hr w H; omega
 refine nT func108 ntmps108 ?_
 refine jr O (aP (bT O (aV (jw (hr _ (H)) ig O) (bP O (iJ (aY ?_))))))
 refine fF [(0, _), (1, _), (7, _)] (fun (k : Nat) => [(8, .int .i64 (k : Int))]) (fun (k : Nat) W => (k ≤ l.length ∧ ∀ j, j < k → ¬ (l.getD j .empty).toList = n.toList) ∧ V w0 W F) (fun (k : Nat) => l.length - k) (0) uH lG ⟨⟨by omega, fun j h => by omega⟩, H⟩ ?_
 rintro k w1 ⟨⟨hk, hno⟩, HL⟩
 dsimp only [List.cons_append, List.nil_append]
 refine iH (aV (gY O O) (pK (bI O (fun h1 => ?_) (fun h1 => ?_))))
 ·(try simp only [Z] at h1)
  refine gq (aP (aY (bT O (wu O ?_))))
  have hkl : k < l.length := by omega
  refine aC (jG O O (bP O ?_))
  obtain ⟨bv, ov, cv, ev⟩ := Rd.pJ (hr _ (HL)) (by omega)
  cases ev
  refine aV (dD ig oD O O (by omega)) ?_
  refine aV (LJ (eG (bY kG O) O (by first | exact Rd.kX (hr _ (HL)) (by omega) | exact Rd.uQ (hr _ (HL)) (by omega) | exact Rd.uG (hr _ (HL)) (by omega))) (VD (l := l) hkl)) ?_
  refine aV (fP O O) (je O (fun h2 => ?_) (fun h2 => ?_))
  ·(try simp only [Z] at h2)
   have heq : n.toList = (l.getD k .empty).toList := h2
   refine bT O (fC O (aT (aF (aF (aT (aF (dH results108 O ?_)))))))
   exact ⟨_, O, ⟨fun _ => ⟨k, hkl, heq.symm⟩, fun _ => by omega⟩, HL⟩
  ·(try simp only [Z] at h2)
   have hne : ¬ n.toList = (l.getD k .empty).toList := h2
   refine bZ (aJ (aX (aC (aV (fQ O O (by omega)) (bP O (bM ?_))))))
   refine dK (k + 1) ?_ ?_ ?_ ?_
   ·exact lG
   ·exact uH
   ·(try dsimp only)
    first | done | exact ⟨⟨by omega, fun j h => if e : j = k then (by rw [e]; exact fun c => hne c.symm) else hno j (by omega)⟩, HL⟩
   ·(try dsimp only); omega
 ·(try simp only [Z] at h1)
  refine dB (aI (aI (bf (aX (jL O (dH results108 O ?_))))))
  exact ⟨_, rfl, ⟨fun h => (by omega), fun ⟨j, h1, h2⟩ => absurd h2 (hno j (by omega))⟩, HL⟩
theorem PV (H : V w0 w F) (hr : RP w0 F 1 v l.length (strs l)) : gJ prog 49 #[v, .string n] w fun u w' => ∃ b, u = .bool b ∧ (b = true ↔ ∃ k, k < l.length ∧ (l.getD k .empty).toList = n.toList) ∧ V w0 w' F := by
  refine nT func49 ntmps49 ?_
  refine jr O (bT O (bP O (dY O func108 (SY H (fun W HW => hr _ (HW))) ?_)))
  rintro _ w1 ⟨i1, rfl, hi1, H1⟩
  refine aV (ku O O) (fC O (dH results49 O ?_))
  exact ⟨_, O, by rw [decide_eq_true_iff]; assumption, H1⟩
end
end
theorem oU {b : Bool} {P : Prop} [Decidable P] (hb : b = true) (h : P) : Value.bool b = Value.bool (decide P) := by rw [hb, decide_eq_true h]
theorem Zd {b : Bool} {A B : Prop} [Decidable (A ∨ B)] (h1 : ¬ A) (hb : b = true ↔ B) : Value.bool b = Value.bool (decide (A ∨ B)) := congrArg Value.bool (by rw [Bool.eq_iff_iff, decide_eq_true_iff]; exact hb.trans ⟨.inr, fun h => h.resolve_left h1⟩)
theorem VF {b : Bool} {A B C : Prop} [Decidable (A ∨ B ∨ C)] (h1 : ¬ A) (h2 : ¬ B) (hb : b = true ↔ C) : Value.bool b = Value.bool (decide (A ∨ B ∨ C)) := congrArg Value.bool (by rw [Bool.eq_iff_iff, decide_eq_true_iff]; exact hb.trans ⟨fun h => .inr (.inr h), fun h => (h.resolve_left h1).resolve_left h2⟩)
section
variable {w0 w : World} {F : HP} {v u : Value} {n : ByteArray} {keys : List Int}
theorem BQ (H : V w0 w F) (hr : jq w0 F .i32 v keys) : gJ prog 16 #[.string n, v] w fun u w' => u = .int .i64 (nZ n keys) ∧ V w0 w' F := by
 have Vm : keys.length ≤ 9223372036854775807 := by have := (hr _ H).open; obtain ⟨a, c, e, h3, h4, _⟩ := this; omega
 refine nT func16 ntmps16 ?_
 refine jr O (aP (iH (dY O func19 (PU H) ?_)))
 rintro u1 w1 H1
 refine bP O (dY O func49 (PV (l := KO) H1 (fun W HW => (HW).aS)) ?_)
 rintro _ w2 ⟨b2, rfl, hb2, H2⟩
 have OC := H2.right
 refine aV (kT O) (je O (fun h1 => ?_) (fun h1 => ?_))
 ·(try simp only [Z] at h1)
  have hkn : ¬ zZ n := fun hc => by have h9 := hb2.2 hc; rw [h1] at h9; exact absurd h9 (by decide)
  refine jL O (aF (dH results16 O ?_))
  exact ⟨by rw [SX hkn], OC⟩
 ·(try simp only [Z] at h1)
  have hkn : zZ n := hb2.1 h1
  refine gq (aP (bT O (aV (iQ (hr _ (OC)) ay O) (aV (dR O O) (je O (fun h2 => ?_) (fun h2 => ?_))))))
  ·(try simp only [Z] at h2)
   refine jL O (aF (dH results16 O ?_))
   exact ⟨by rw [VE hkn (by omega)], OC⟩
  ·(try simp only [Z] at h2)
   refine gq (aP ?_)
   have hk0 : ¬ keys.length = 0 := by omega
   refine aC (gI O ?_)
   refine kS [] (fun (m : Bool) => [(5, .bool m)]) (fun (m : Bool) W => (m = true ↔ yH n keys) ∧ V w0 W F) (Sub.nil _) ?_ ?_
   ·rintro m w4 ⟨hm, HM⟩
    dsimp only [List.cons_append, List.nil_append]
    refine aP (bT O (je O (fun h3 => ?_) (fun h3 => ?_)))
    ·(try simp only [Z] at h3)
     have hmt := hm.1 h3
     refine jL O (aF (dH results16 O ?_))
     exact ⟨by rw [Ns hkn hmt], HM⟩
    ·(try simp only [Z] at h3)
     have hmt : ¬ yH n keys := fun hc => by have h9 := h3; rw [hm.2 hc] at h9; exact absurd h9 (by decide)
     refine gq (jL O (dH results16 O ?_))
     exact ⟨by rw [GR hkn hk0 hmt], HM⟩
   ·skip
    refine bT O (iJ (aY (iH (aV (fP O O) (gI O (bI O (fun h4 => ?_) (fun h4 => ?_)))))))
    ·(try simp only [Z] at h4)
     have hmv : n.toList = rJ.toList := h4
     refine aC (bP O (aV (iQ (hr _ (OC)) ay O) (aV (dR O O) (jF O (fun h5 => ?_) (fun h5 => ?_)))))
     ·(try simp only [Z] at h5)
      refine bC (bP O (bC ?_))
      obtain ⟨bv, ov, cv, ev⟩ := fB.pJ (hr _ (OC)) (by omega)
      cases ev
      refine aV (dD ay bQ O O (by omega)) (bC ?_)
      refine aV (eG (bY aZ O) O (by first | exact fB.kX (hr _ (OC)) (by omega) | exact fB.uQ (hr _ (OC)) (by omega) | exact fB.uG (hr _ (OC)) (by omega))) ?_
      refine bC (dY O func50 (Dp (s := Ei) (by decide)) ?_)
      rintro _ _ ⟨rfl, rfl⟩
      refine jE O O (fV O (bM (aJ ?_)))
      refine dn (_) lG (Sub.nil _) (by (try dsimp only); exact ⟨by first | exact decide_eq_true_iff.trans ⟨fun h => (fH hmv).2 ⟨by omega, h⟩, fun h => ((fH hmv).1 h).2⟩ | exact iff_of_false (by decide) fun h => absurd ((fH hmv).1 h).1 (by omega) | exact beq_iff_eq.trans ⟨fun h => (jS hmv hch).2 (by omega), fun h => by have := (jS hmv hch).1 h; omega⟩ | exact iff_of_true O ((dU hmv hch hop).2 ⟨by assumption, .inl (by show (lq (List.drop (Int.toNat 1) keys)).length = 0; omega)⟩) | exact decide_eq_true_iff.trans ⟨fun h => (dU hmv hch hop).2 ⟨by assumption, .inr ⟨by show (lq (List.drop (Int.toNat 1) keys)).length = 1; omega, h⟩⟩, fun h => ((dU hmv hch hop).1 h).2.elim (fun c => absurd c (by show ¬ (lq (List.drop (Int.toNat 1) keys)).length = 0; omega)) (fun c => c.2)⟩ | exact iff_of_false (by decide) fun h => ((dU hmv hch hop).1 h).2.elim (fun c => absurd c (by show ¬ (lq (List.drop (Int.toNat 1) keys)).length = 0; omega)) (fun c => absurd c.1 (by show ¬ (lq (List.drop (Int.toNat 1) keys)).length = 1; omega)) | exact iff_of_false (by decide) fun h => absurd ((dU hmv hch hop).1 h).1 (by assumption) | exact iff_of_false (by decide) (ug hmv hch hop), OC⟩)
     ·(try simp only [Z] at h5)
      refine bJ (bJ (bJ (bJ (iL O O (fV O (bM (aJ ?_)))))))
      refine dn (_) lG (Sub.nil _) (by (try dsimp only); exact ⟨by first | exact decide_eq_true_iff.trans ⟨fun h => (fH hmv).2 ⟨by omega, h⟩, fun h => ((fH hmv).1 h).2⟩ | exact iff_of_false (by decide) fun h => absurd ((fH hmv).1 h).1 (by omega) | exact beq_iff_eq.trans ⟨fun h => (jS hmv hch).2 (by omega), fun h => by have := (jS hmv hch).1 h; omega⟩ | exact iff_of_true O ((dU hmv hch hop).2 ⟨by assumption, .inl (by show (lq (List.drop (Int.toNat 1) keys)).length = 0; omega)⟩) | exact decide_eq_true_iff.trans ⟨fun h => (dU hmv hch hop).2 ⟨by assumption, .inr ⟨by show (lq (List.drop (Int.toNat 1) keys)).length = 1; omega, h⟩⟩, fun h => ((dU hmv hch hop).1 h).2.elim (fun c => absurd c (by show ¬ (lq (List.drop (Int.toNat 1) keys)).length = 0; omega)) (fun c => c.2)⟩ | exact iff_of_false (by decide) fun h => ((dU hmv hch hop).1 h).2.elim (fun c => absurd c (by show ¬ (lq (List.drop (Int.toNat 1) keys)).length = 0; omega)) (fun c => absurd c.1 (by show ¬ (lq (List.drop (Int.toNat 1) keys)).length = 1; omega)) | exact iff_of_false (by decide) fun h => absurd ((dU hmv hch hop).1 h).1 (by assumption) | exact iff_of_false (by decide) (ug hmv hch hop), OC⟩)
    ·(try simp only [Z] at h4)
     have hmv : ¬ n.toList = rJ.toList := h4
     refine kS [(1, _), (5, _), (15, _)] (fun (_ : Unit) => [(27, .bool (decide (n.toList = BO.toList ∨ n.toList = Ef.toList)))]) (fun (_ : Unit) W => V w0 W F) uH ?_ ?_
     ·rintro _ w6 HJ
      dsimp only [List.cons_append, List.nil_append]
      refine bI O (fun h6 => ?_) (fun h6 => ?_)
      ·(try simp only [Z] at h6)
       have hch := h6
       refine aC (bP O (aV (iQ (hr _ (HJ)) ay O) (aV (dR O O) (fV O (bM (aJ ?_))))))
       refine dn (_) lG (Sub.nil _) (by (try dsimp only); exact ⟨by first | exact decide_eq_true_iff.trans ⟨fun h => (fH hmv).2 ⟨by omega, h⟩, fun h => ((fH hmv).1 h).2⟩ | exact iff_of_false (by decide) fun h => absurd ((fH hmv).1 h).1 (by omega) | exact beq_iff_eq.trans ⟨fun h => (jS hmv hch).2 (by omega), fun h => by have := (jS hmv hch).1 h; omega⟩ | exact iff_of_true O ((dU hmv hch hop).2 ⟨by assumption, .inl (by show (lq (List.drop (Int.toNat 1) keys)).length = 0; omega)⟩) | exact decide_eq_true_iff.trans ⟨fun h => (dU hmv hch hop).2 ⟨by assumption, .inr ⟨by show (lq (List.drop (Int.toNat 1) keys)).length = 1; omega, h⟩⟩, fun h => ((dU hmv hch hop).1 h).2.elim (fun c => absurd c (by show ¬ (lq (List.drop (Int.toNat 1) keys)).length = 0; omega)) (fun c => c.2)⟩ | exact iff_of_false (by decide) fun h => ((dU hmv hch hop).1 h).2.elim (fun c => absurd c (by show ¬ (lq (List.drop (Int.toNat 1) keys)).length = 0; omega)) (fun c => absurd c.1 (by show ¬ (lq (List.drop (Int.toNat 1) keys)).length = 1; omega)) | exact iff_of_false (by decide) fun h => absurd ((dU hmv hch hop).1 h).1 (by assumption) | exact iff_of_false (by decide) (ug hmv hch hop), HJ⟩)
      ·(try simp only [Z] at h6)
       have hch := h6
       refine kS [(1, _), (5, _)] (fun (_ : Unit) => [(33, .bool (decide (n.toList = y5.toList ∨ n.toList = BP.toList ∨ n.toList = Eh.toList)))]) (fun (_ : Unit) W => V w0 W F) qG ?_ ?_
       ·rintro _ w7 HK
        dsimp only [List.cons_append, List.nil_append]
        refine bI O (fun h7 => ?_) (fun h7 => ?_)
        ·(try simp only [Z] at h7)
         have hop := h7
         refine bT O ?_
         obtain ⟨bv, ov, cv, ev⟩ := fB.pJ (hr _ (HK)) (by omega)
         cases ev
         refine aV (dD ay bQ O O (by omega)) ?_
         refine aV (eG (bY aZ O) O (by first | exact fB.kX (hr _ (HK)) (by omega) | exact fB.uQ (hr _ (HK)) (by omega) | exact fB.uG (hr _ (HK)) (by omega))) ?_
         refine dY O func50 (Dp (s := aar) (by decide)) ?_
         rintro _ _ ⟨rfl, rfl⟩
         refine je O (fun h8 => ?_) (fun h8 => ?_)
         ·(try simp only [Z] at h8)
          refine bT O (aV (tN (hr _ (HK)) ay bQ O O O (by omega)) ?_)
          refine dY O func51 (KN HK (fun W HW => fB.from (hr _ (HW)) (by omega))) ?_
          rintro _ w9 ⟨kv9, rfl, S9, H9⟩
          refine bP O (qQ O O (qQ O O (fV O (gI O (aC (bP O (aV (iQ (S9 _ (H9)) ay O) (aV (dR O O) (jF O (fun h9 => ?_) (fun h9 => ?_))))))))))
          ·(try simp only [Z] at h9)
           refine bJ (bJ (bJ (bJ (mW (mW (mW (mW (bJ (jE O O (fV O (bM (aJ ?_))))))))))))
           refine dn (_) lG (Sub.nil _) (by (try dsimp only); exact ⟨by first | exact decide_eq_true_iff.trans ⟨fun h => (fH hmv).2 ⟨by omega, h⟩, fun h => ((fH hmv).1 h).2⟩ | exact iff_of_false (by decide) fun h => absurd ((fH hmv).1 h).1 (by omega) | exact beq_iff_eq.trans ⟨fun h => (jS hmv hch).2 (by omega), fun h => by have := (jS hmv hch).1 h; omega⟩ | exact iff_of_true O ((dU hmv hch hop).2 ⟨by assumption, .inl (by show (lq (List.drop (Int.toNat 1) keys)).length = 0; omega)⟩) | exact decide_eq_true_iff.trans ⟨fun h => (dU hmv hch hop).2 ⟨by assumption, .inr ⟨by show (lq (List.drop (Int.toNat 1) keys)).length = 1; omega, h⟩⟩, fun h => ((dU hmv hch hop).1 h).2.elim (fun c => absurd c (by show ¬ (lq (List.drop (Int.toNat 1) keys)).length = 0; omega)) (fun c => c.2)⟩ | exact iff_of_false (by decide) fun h => ((dU hmv hch hop).1 h).2.elim (fun c => absurd c (by show ¬ (lq (List.drop (Int.toNat 1) keys)).length = 0; omega)) (fun c => absurd c.1 (by show ¬ (lq (List.drop (Int.toNat 1) keys)).length = 1; omega)) | exact iff_of_false (by decide) fun h => absurd ((dU hmv hch hop).1 h).1 (by assumption) | exact iff_of_false (by decide) (ug hmv hch hop), H9⟩)
          ·(try simp only [Z] at h9)
           refine bC (bP O (bC (aV (iQ (S9 _ (H9)) ay O) (bC (aV (dR O O) (bC (jF O (fun h10 => ?_) (fun h10 => ?_))))))))
           ·(try simp only [Z] at h10)
            refine bC (bP O (bC ?_))
            obtain ⟨ae1, ae2, ae3, adv⟩ := fB.pJ (S9 _ (H9)) (by omega)
            cases adv
            refine aV (dD ay bQ O O (by omega)) (bC ?_)
            refine aV (eG (bY aZ O) O (by first | exact fB.kX (S9 _ (H9)) (by omega) | exact fB.uQ (S9 _ (H9)) (by omega) | exact fB.uG (S9 _ (H9)) (by omega))) ?_
            refine bC (dY O func50 (Dp (s := Ei) (by decide)) ?_)
            rintro _ _ ⟨rfl, rfl⟩
            refine bC (jE O O (iL O O (fV O (bM (aJ ?_)))))
            refine dn (_) lG (Sub.nil _) (by (try dsimp only); exact ⟨by first | exact decide_eq_true_iff.trans ⟨fun h => (fH hmv).2 ⟨by omega, h⟩, fun h => ((fH hmv).1 h).2⟩ | exact iff_of_false (by decide) fun h => absurd ((fH hmv).1 h).1 (by omega) | exact beq_iff_eq.trans ⟨fun h => (jS hmv hch).2 (by omega), fun h => by have := (jS hmv hch).1 h; omega⟩ | exact iff_of_true O ((dU hmv hch hop).2 ⟨by assumption, .inl (by show (lq (List.drop (Int.toNat 1) keys)).length = 0; omega)⟩) | exact decide_eq_true_iff.trans ⟨fun h => (dU hmv hch hop).2 ⟨by assumption, .inr ⟨by show (lq (List.drop (Int.toNat 1) keys)).length = 1; omega, h⟩⟩, fun h => ((dU hmv hch hop).1 h).2.elim (fun c => absurd c (by show ¬ (lq (List.drop (Int.toNat 1) keys)).length = 0; omega)) (fun c => c.2)⟩ | exact iff_of_false (by decide) fun h => ((dU hmv hch hop).1 h).2.elim (fun c => absurd c (by show ¬ (lq (List.drop (Int.toNat 1) keys)).length = 0; omega)) (fun c => absurd c.1 (by show ¬ (lq (List.drop (Int.toNat 1) keys)).length = 1; omega)) | exact iff_of_false (by decide) fun h => absurd ((dU hmv hch hop).1 h).1 (by assumption) | exact iff_of_false (by decide) (ug hmv hch hop), H9⟩)
           ·(try simp only [Z] at h10)
            refine bJ (bJ (bJ (bJ (bC (iL O O (iL O O (fV O (bM (aJ ?_)))))))))
            refine dn (_) lG (Sub.nil _) (by (try dsimp only); exact ⟨by first | exact decide_eq_true_iff.trans ⟨fun h => (fH hmv).2 ⟨by omega, h⟩, fun h => ((fH hmv).1 h).2⟩ | exact iff_of_false (by decide) fun h => absurd ((fH hmv).1 h).1 (by omega) | exact beq_iff_eq.trans ⟨fun h => (jS hmv hch).2 (by omega), fun h => by have := (jS hmv hch).1 h; omega⟩ | exact iff_of_true O ((dU hmv hch hop).2 ⟨by assumption, .inl (by show (lq (List.drop (Int.toNat 1) keys)).length = 0; omega)⟩) | exact decide_eq_true_iff.trans ⟨fun h => (dU hmv hch hop).2 ⟨by assumption, .inr ⟨by show (lq (List.drop (Int.toNat 1) keys)).length = 1; omega, h⟩⟩, fun h => ((dU hmv hch hop).1 h).2.elim (fun c => absurd c (by show ¬ (lq (List.drop (Int.toNat 1) keys)).length = 0; omega)) (fun c => c.2)⟩ | exact iff_of_false (by decide) fun h => ((dU hmv hch hop).1 h).2.elim (fun c => absurd c (by show ¬ (lq (List.drop (Int.toNat 1) keys)).length = 0; omega)) (fun c => absurd c.1 (by show ¬ (lq (List.drop (Int.toNat 1) keys)).length = 1; omega)) | exact iff_of_false (by decide) fun h => absurd ((dU hmv hch hop).1 h).1 (by assumption) | exact iff_of_false (by decide) (ug hmv hch hop), H9⟩)
         ·(try simp only [Z] at h8)
          refine bZ (aJ ?_)
          refine dn (_) lG (Sub.nil _) (by (try dsimp only); exact ⟨by first | exact decide_eq_true_iff.trans ⟨fun h => (fH hmv).2 ⟨by omega, h⟩, fun h => ((fH hmv).1 h).2⟩ | exact iff_of_false (by decide) fun h => absurd ((fH hmv).1 h).1 (by omega) | exact beq_iff_eq.trans ⟨fun h => (jS hmv hch).2 (by omega), fun h => by have := (jS hmv hch).1 h; omega⟩ | exact iff_of_true O ((dU hmv hch hop).2 ⟨by assumption, .inl (by show (lq (List.drop (Int.toNat 1) keys)).length = 0; omega)⟩) | exact decide_eq_true_iff.trans ⟨fun h => (dU hmv hch hop).2 ⟨by assumption, .inr ⟨by show (lq (List.drop (Int.toNat 1) keys)).length = 1; omega, h⟩⟩, fun h => ((dU hmv hch hop).1 h).2.elim (fun c => absurd c (by show ¬ (lq (List.drop (Int.toNat 1) keys)).length = 0; omega)) (fun c => c.2)⟩ | exact iff_of_false (by decide) fun h => ((dU hmv hch hop).1 h).2.elim (fun c => absurd c (by show ¬ (lq (List.drop (Int.toNat 1) keys)).length = 0; omega)) (fun c => absurd c.1 (by show ¬ (lq (List.drop (Int.toNat 1) keys)).length = 1; omega)) | exact iff_of_false (by decide) fun h => absurd ((dU hmv hch hop).1 h).1 (by assumption) | exact iff_of_false (by decide) (ug hmv hch hop), HK⟩)
        ·(try simp only [Z] at h7)
         have hop := h7
         refine bZ (aJ ?_)
         refine dn (_) lG (Sub.nil _) (by (try dsimp only); exact ⟨by first | exact decide_eq_true_iff.trans ⟨fun h => (fH hmv).2 ⟨by omega, h⟩, fun h => ((fH hmv).1 h).2⟩ | exact iff_of_false (by decide) fun h => absurd ((fH hmv).1 h).1 (by omega) | exact beq_iff_eq.trans ⟨fun h => (jS hmv hch).2 (by omega), fun h => by have := (jS hmv hch).1 h; omega⟩ | exact iff_of_true O ((dU hmv hch hop).2 ⟨by assumption, .inl (by show (lq (List.drop (Int.toNat 1) keys)).length = 0; omega)⟩) | exact decide_eq_true_iff.trans ⟨fun h => (dU hmv hch hop).2 ⟨by assumption, .inr ⟨by show (lq (List.drop (Int.toNat 1) keys)).length = 1; omega, h⟩⟩, fun h => ((dU hmv hch hop).1 h).2.elim (fun c => absurd c (by show ¬ (lq (List.drop (Int.toNat 1) keys)).length = 0; omega)) (fun c => c.2)⟩ | exact iff_of_false (by decide) fun h => ((dU hmv hch hop).1 h).2.elim (fun c => absurd c (by show ¬ (lq (List.drop (Int.toNat 1) keys)).length = 0; omega)) (fun c => absurd c.1 (by show ¬ (lq (List.drop (Int.toNat 1) keys)).length = 1; omega)) | exact iff_of_false (by decide) fun h => absurd ((dU hmv hch hop).1 h).1 (by assumption) | exact iff_of_false (by decide) (ug hmv hch hop), HK⟩)
       ·skip
        refine iH (aV (fP O O) (gI O (bI O (fun h11 => ?_) (fun h11 => ?_))))
        ·(try simp only [Z] at h11)
         have hop := h11
         refine bZ ?_
         refine dn (()) ?_ ?_ ?_
         ·exact (Sub.jC O (by first | exact oU (beq_iff_eq.2 (by assumption)) (.inl (by assumption)) | exact oU (beq_iff_eq.2 (by assumption)) (.inr (.inl (by assumption))) | exact VF (by assumption) (by assumption) beq_iff_eq) (Sub.nil _))
         ·exact qG
         ·(try dsimp only)
          first | done | exact HJ
        ·(try simp only [Z] at h11)
         have hop := h11
         refine iH (aV (fP O O) (gI O (bI O (fun h12 => ?_) (fun h12 => ?_))))
         ·(try simp only [Z] at h12)
          have hop := h12
          refine bZ ?_
          refine dn (()) ?_ ?_ ?_
          ·exact (Sub.jC O (by first | exact oU (beq_iff_eq.2 (by assumption)) (.inl (by assumption)) | exact oU (beq_iff_eq.2 (by assumption)) (.inr (.inl (by assumption))) | exact VF (by assumption) (by assumption) beq_iff_eq) (Sub.nil _))
          ·exact qG
          ·(try dsimp only)
           first | done | exact HJ
         ·(try simp only [Z] at h12)
          have hop := h12
          refine aC (aV (fP O O) (fV O (bM ?_)))
          refine dn (()) ?_ ?_ ?_
          ·exact (Sub.jC O (by first | exact oU (beq_iff_eq.2 (by assumption)) (.inl (by assumption)) | exact oU (beq_iff_eq.2 (by assumption)) (.inr (.inl (by assumption))) | exact VF (by assumption) (by assumption) beq_iff_eq) (Sub.nil _))
          ·exact qG
          ·(try dsimp only)
           first | done | exact HJ
     ·skip
      refine iH (aV (fP O O) (gI O (bI O (fun h13 => ?_) (fun h13 => ?_))))
      ·(try simp only [Z] at h13)
       have hch := h13
       refine bZ ?_
       refine dn (()) ?_ ?_ ?_
       ·exact (Sub.jC O (by first | exact oU (beq_iff_eq.2 (by assumption)) (.inl (by assumption)) | exact Zd (by assumption) beq_iff_eq) (Sub.nil _))
       ·exact uH
       ·(try dsimp only)
        first | done | exact OC
      ·(try simp only [Z] at h13)
       have hch := h13
       refine aC (aV (fP O O) (fV O (bM ?_)))
       refine dn (()) ?_ ?_ ?_
       ·exact (Sub.jC O (by first | exact oU (beq_iff_eq.2 (by assumption)) (.inl (by assumption)) | exact Zd (by assumption) beq_iff_eq) (Sub.nil _))
       ·exact uH
       ·(try dsimp only)
        first | done | exact OC
end
structure VM where
  marks : Int → Option Int
  fk : Int
  fc : Int
  name : ByteArray
  keys : List Int
  n : Int
  typed : List Int
  frm : Int
def wJ (n : ByteArray) : Prop := n.toList = BP.toList ∨ n.toList = Vx.toList ∨ n.toList = Vy.toList ∨ n.toList = VA.toList
def oV (n : ByteArray) : Prop := n.toList = Vu.toList ∨ n.toList = BO.toList ∨ n.toList = Vw.toList ∨ n.toList = y5.toList ∨ n.toList = Vz.toList
instance (n : ByteArray) : Decidable (wJ n) := by unfold wJ; infer_instance
instance (n : ByteArray) : Decidable (oV n) := by unfold oV; infer_instance
def VG (M : VM) : Prop := M.keys.length * 4 ≤ 140737488355328 ∧ M.typed.length ≤ 1024 ∧ (M.name.toList = [] ∨ ((wJ M.name ∨ oV M.name) ∧ nZ M.name M.keys = 0 ∧ 1 ≤ M.n ∧ M.n ≤ 1000000))
def Aa (m : Int → Option Int) : Int → Option Value := fun k => (m k).map (.int .i64)
def oW (m : Nat) (M : VM) : HP := rQ fun (x : Nat × Value × Value) => fact (VG M) • dL m (.cells #[.map (some x.1), .int .i32 M.fk, .int .i32 M.fc, .string M.name, x.2.1, .int .i64 M.n, x.2.2, .int .i64 M.frm] 119 (0, 0)) • fG SH x.1 (Aa M.marks) • mP .i32 x.2.1 M.keys • mP .i32 x.2.2 M.typed
def VM.new : VM := ⟨fun _ => none, 0, 0, .empty, [], 0, [], -1⟩
theorem VM.KP : VG VM.new := ⟨by decide, by decide, .inl (by rw [ByteArray.toList_eq]; rfl)⟩
section
variable {w0 w : World} {F : HP} {m : Nat} {M : VM}
theorem V.vm (H : V w0 w (oW m M • F)) : ∃ mb kv tv, VG M ∧ V w0 w (dL m (.cells #[.map (some mb), .int .i32 M.fk, .int .i32 M.fc, .string M.name, kv, .int .i64 M.n, tv, .int .i64 M.frm] 119 (0, 0)) • fG SH mb (Aa M.marks) • mP .i32 kv M.keys • mP .i32 tv M.typed • F) := by
  obtain ⟨⟨mb, kv, tv⟩, H⟩ := H.lQ
  obtain ⟨h, H⟩ := H.flat.fact
  exact ⟨mb, kv, tv, h, H.of_eq (by simp only [bW])⟩
theorem V.Bo {mb : Nat} {kv tv : Value} (h : VG M) (H : V w0 w (dL m (.cells #[.map (some mb), .int .i32 M.fk, .int .i32 M.fc, .string M.name, kv, .int .i64 M.n, tv, .int .i64 M.frm] 119 (0, 0)) • fG SH mb (Aa M.marks) • mP .i32 kv M.keys • mP .i32 tv M.typed • F)) : V w0 w (oW m M • F) :=
  V.iy (mb, kv, tv) (V.deep (V.kD h (H.of_eq (by simp only [bW]))))
theorem GU (H : V w0 w F) : V w0 w (mP .i32 (.slice none 0 0) [] • F) := V.oK (e := 21) (k := .i32) (l := []) (H.iO none)
theorem V.aas {mb : Nat} {kv : Value} (h : VG M) (ht : M.typed = []) (H : V w0 w (dL m (.cells #[.map (some mb), .int .i32 M.fk, .int .i32 M.fc, .string M.name, kv, .int .i64 M.n, .slice none 0 0, .int .i64 M.frm] 119 (0, 0)) • fG SH mb (Aa M.marks) • mP .i32 kv M.keys • F)) : V w0 w (oW m M • F) :=
  V.Bo h (by rw [ht]; exact (GU H).of_eq (by ac_rfl))
theorem Ac (H : V w0 w (oW m M • F)) : gJ prog 69 #[.pointer (some ⟨m, 0, none⟩)] w fun v w' => v = .bool false ∧ w = w' := by
 refine iG func69 ntmps69 ?_
 refine jr O (aP ?_)
 obtain ⟨Nu, Nv, Nw, wK, wW⟩ := (H).vm
 refine aC (bP O (aV (iR underlying41 O O) (XB O (fun h1 => ?_))))
 (try simp only [Z] at h1)
 refine bC (bP O (bC (dJ O (bC (bD 0 fE O sizeOf113 O (bC (fZ kQ O (wW).get.2 O (bC (aV (SN kQ O O) (iL O O (fC O (dH results69 O ?_))))))))))))
 exact ⟨O, O⟩
theorem PW (H : V w0 w F) : gJ prog 22 #[] w fun v w' => ∃ m, v = .pointer (some ⟨m, 0, none⟩) ∧ V w0 w' (oW m VM.new • F) := by
  refine RS func22 ntmps22 ?_
  refine jr O (iH (jv (jH (wF .i32) H) ?_))
  rintro _ w1 ⟨b1, rfl, H1⟩
  refine aV (dS (zl := [.map none, .int .i32 0, .int .i32 0, .string .empty, .slice none 0 0, .int .i64 0, .slice none 0 0, .int .i64 0]) (pl := [(0, 1), (1, 2), (3, 4), (7, 1)]) [_, _, _, _, _, _, _, _] fE zeroValue119 O (fun w => by kernel_rfl) O (.on (.zero (zs := [.int .i32 0, .int .i32 0]) O (.zero (zs := [.string .empty, .slice none 0 0, .int .i64 0, .slice none 0 0]) O (.on .nil)))) O) ?_
  refine jv (iM (l := [_, _, _, _, _, _, _, _]) H1 O O) ?_
  rintro _ w2 ⟨b2, rfl, H2⟩
  refine fC O (dH results22 O ?_)
  exact ⟨_, O, V.Bo VM.KP ((GU (GU H2)).of_eq (by ac_rfl))⟩
def VM.at (M : VM) (r : Int) : Int := (M.marks r).getD (-1)
theorem Ny {r : Int} (H : V w0 w (oW m M • F)) : gJ prog 183 #[.pointer (some ⟨m, 0, none⟩), .int .i32 r] w fun v w' => v = .int .i64 (M.at r) ∧ V w0 w' (oW m M • F) := by
  refine nT func183 ntmps183 ?_
  refine jr O (aP (bT O (dY O func69 (Ac H) ?_)))
  rintro _ _ ⟨rfl, rfl⟩
  refine iJ (qF (gq (aP (aP ?_))))
  obtain ⟨Nu, Nv, Nw, wK, wW⟩ := (H).vm
  refine aC (nD O O (bD 0 fE O sizeOf113 O (fZ kQ O (wW).get.2 O (bP O (aV (zX (wW.f2) kQ aZ zeroValue3 O O) (bP O (qQ O O (qQ O O (fV O (gI O (bT O (je O (fun h1 => ?_) (fun h1 => ?_)))))))))))))
  · (try simp only [Z] at h1)
    try (exfalso; first | contradiction | omega)
    all_goals
      obtain ⟨z, hz⟩ := Option.isSome_iff_exists.1 h1
      obtain ⟨a, ha⟩ : ∃ a, M.marks r = some a := by cases hq : M.marks r with | none => (unfold Aa at hz; rw [hq] at hz; cases hz) | some a => exact ⟨a, rfl⟩
      refine bT O (fC O (aF (dH results183 O ?_)))
      have O7 := wW.f4.f4.f4.f4
      have OB := V.Bo (M := M) wK O7
      exact ⟨by unfold VM.at; rw [ha]; first | rfl | (unfold Aa; rw [ha]; rfl), OB⟩
  · (try simp only [Z] at h1)
    try (exfalso; first | contradiction | omega)
    all_goals
      have ha : M.marks r = none := by cases hq : M.marks r with | none => rfl | some a => (have h9 := h1; unfold Aa at h9; rw [hq] at h9; cases h9)
      refine gq (jL O (dH results183 O ?_))
      have U1 := wW.f4.f4.f4.f4
      have U2 := V.Bo (M := M) wK U1
      exact ⟨by unfold VM.at; rw [ha]; first | rfl | (unfold Aa; rw [ha]; rfl), U2⟩
theorem KQ (H : V w0 w (oW m M • F)) : gJ prog 38 #[.pointer (some ⟨m, 0, none⟩)] w fun v w' => ∃ c, v = .pointer (some ⟨c, 0, none⟩) ∧ V w0 w' (oW c M • oW m M • F) := by
 refine iG func38 ntmps38 ?_
 refine jr O (aP (bT O (dY O func69 (Ac H) ?_)))
 rintro _ _ ⟨rfl, rfl⟩
 refine iJ (qF (gq (aP ?_)))
 obtain ⟨Nu, Nv, Nw, wK, wW⟩ := (H).vm
 have hvk := wK.1
 have hvt := wK.2.1
 refine aC (nD O O (aV (eY fE O sizeOf119 O O (wW).get.2) (jv (fJ (l := [_, _, _, _, _, _, _, _]) wW zeroValue119 O) ?_)))
 rintro _ w3 ⟨b3, rfl, H3⟩
 refine aH (bU 0 (l' := [_, _, _, _, _, _, _, _]) (us := [_, _, _, _, _, _, _, _]) H3 sizeOf119 O O O (aA (aA (aA (aA (aW (by first | rfl | exact Rd.one ((H3.f4).jy)) (aA (aW (by first | rfl | exact Rd.one ((H3.f5).jy)) (aA bF)))))))) O O) ?_
 rintro _ w4 H4
 refine Xi (jv (jH (wF .i32) H4) ?_)
 rintro _ w5 ⟨b5, rfl, H5⟩
 refine bD 0 fE O sizeOf113 O (aH (fA 0 (l' := [_, _, _, _, _, _, _, _]) H5.f2 sizeOf113 O O (by first | rfl | assumption) O O) ?_)
 rintro _ w6 H6
 refine pK (bT O (dJ O (bD 0 fE O sizeOf113 O (fZ kQ O (H6.f3).get.2 O (jv (zY H6.f4 kQ O) ?_)))))
 rintro _ w7 ⟨it7, mi, rfl, H7⟩
 refine iJ (aY ?_)
 obtain ⟨R8, hR8, HR8⟩ := V.FK (H7.f2.f3.f3)
 have HX0 := HR8
 rw [← Nh (Aa M.marks)] at HX0
 refine fF [(0, _), (3, _), (17, _)] (fun (⟨S, n⟩ : List Int × Nat) => []) (fun (⟨S, n⟩ : List Int × Nat) W => V w0 W (Bh SH Nu it7 (Aa M.marks) S n • fG SH b5 (KL (Aa M.marks) S) • dL b3 (.cells #[.map (some b5), .int .i32 M.fk, .int .i32 M.fc, .string M.name, Nv, .int .i64 M.n, Nw, .int .i64 M.frm] 119 (0, 0)) • R8)) (fun (⟨S, n⟩ : List Int × Nat) => n) (([], _)) uH (Sub.nil _) HX0 ?_
 rintro ⟨S, n⟩ w9 HL
 dsimp only [List.cons_append, List.nil_append]
 refine iH (jv (BL HL O) ?_)
 rintro _ w10 ⟨ox, Sx, mx, rfl, Y9, ql⟩
 refine aV (Vf O) (pK (bI O (fun h1 => ?_) (fun h1 => ?_)))
 ·(try simp only [Z] at h1)
  try (exfalso; first | contradiction | omega)
  all_goals
   obtain ⟨⟨a, u⟩, rfl⟩ := Option.isSome_iff_exists.1 h1
   obtain ⟨ha, hns, hlt, rfl⟩ := Y9
   refine gq (aY (iH ?_))
   refine aV (KJ (ql) (by assumption) O) ?_
   refine qQ O O (qQ O O (fV O (gI O (aC (bD 0 fE O sizeOf113 O (fZ kQ O (ql.f3).get.2 O (jG O O (aH (tY ql.f2 kQ aZ O O O) ?_))))))))
   rintro _ EH rF
   refine bM (aJ ?_)
   have hres := Jy (S := S) ha
   refine dK ((S ++ [a], mx)) ?_ ?_ ?_ ?_
   ·exact (Sub.nil _)
   ·exact uH
   ·(try dsimp only)
    first | done | exact (by rw [hres]; exact rF.f3.f2.f3)
   ·(try dsimp only); omega
 ·(try simp only [Z] at h1)
  try (exfalso; first | contradiction | omega)
  all_goals
   obtain rfl := Ea (o := ox) (by simp [h1])
   obtain ⟨rfl, rfl, hall⟩ := Y9
   refine dB (aI ?_)
   have HX := ql.f3.f2.f3
   rw [Nj hall] at HX
   have PX := HX.f2
   have PY := PX.D7
   subst hR8
   refine aI (bf (aX (aP ?_)))
   have Ze := PY.drew
   have wL := V.kp (Ze.f6.f6.f6.f6.f6.f6)
   refine yw [4, 10] wL O (jB 0 O wL O (kJ 1 O wL O (gU 2 O wL 3 fE O sizeOf117 O (gU 3 O wL 1 underlying117 O dM O (jT 4 O wL (fun W hW => kC ay O ((Kp.h hW).f4).get.2 O) (jB 6 O wL O (kJ 7 O wL O (gU 8 O wL 3 fE O sizeOf117 O (gU 9 O wL 3 underlying117 O dM O (jT 10 O wL (fun W hW => kC ay O ((Kp.h hW).f4).get.2 O) (oq 5 O (yN O func71 (pO Ze (fun W HW => (HW.f5).jy) (by omega))) ?_)))))))))))
   rintro u14 RZ Ar
   have Df := V.kp (Ar.f7.f7.f7.f7.f7.f7.f7)
   refine dV Df (fun W hW => (Kp.h hW).right.f6.f6.f6.f6.f6.f6) ?_
   refine oq 11 O (yN O func71 (pO Ar (fun W HW => (HW.f7).jy) (by omega))) ?_
   rintro u15 Sz yT
   have uU := V.kp (yT.f8.f8.f8.f8.f8.f8.f8.f8)
   refine gV uU (by kernel_rfl) ?_
   refine gU 12 O uU 3 fE O sizeOf117 O (gU 13 O uU 1 underlying117 O dM O ?_)
   refine fO 14 O (by kernel_rfl) (fA 4 (l' := [_, _, _, _, _, _, _, _]) yT.f5 dM O O (by first | rfl | exact Rd.one ((yT.f2).aS)) O O) ?_
   rintro _ w16 yO
   have Di := V.kp (yO.f8.f8.f8.f8.f8.f8.f8.f8)
   refine gV Di (by kernel_rfl) ?_
   refine gU 15 O Di 3 fE O sizeOf117 O (gU 16 O Di 3 underlying117 O dM O ?_)
   refine fO 17 O (by kernel_rfl) (fA 6 (l' := [_, _, _, _, _, _, _, _]) yO dM O O (by first | rfl | exact Rd.one ((yO.f2).aS)) O O) ?_
   rintro _ Za Io
   have EG := V.kp (Io.f8.f8.f8.f8.f8.f8.f8.f8)
   refine gV EG (by kernel_rfl) ?_
   refine qU (aX (jL O (dH results38 O ?_)))
   have aat := Io.f3
   have aau := aat.oK
   have VH := aau.f3
   have PZ := VH.oK
   have VI := PZ.f8.f8.f6.f8
   have VJ := V.Bo (M := M) wK VI
   exact ⟨_, O, V.Bo wK VJ.f2.f3.f5.f5⟩
end
def GV (D : List Int) (P : Int → Nat) (k : Int) : Option Addr := if k ∈ D then some ⟨P k, 0, none⟩ else none
theorem Q8 (D : List Int) (P : Int → Nat) (k : Int) : (Na D P k).getD (.pointer none) = .pointer (GV D P k) := by unfold Na GV; split <;> rfl
theorem Nz {D : List Int} {P : Int → Nat} {k : Int} (h : k ∈ D) : GV D P k = some ⟨P k, 0, none⟩ := if_pos h
theorem Tc {D : List Int} {P : Int → Nat} {k : Int} (h : (GV D P k).isNone = false) : k ∈ D := by
  unfold GV at h
  split at h
  · assumption
  · cases h
theorem Td {D : List Int} {P : Int → Nat} {k : Int} (h : (GV D P k).isNone = true) : k ∉ D := by
  unfold GV at h
  split at h
  · cases h
  · assumption
theorem Q9 {s : dG} (h : ¬ s.yB = 0) : s.inn = false ∧ s.yB = 1 := by
  unfold dG.yB at *
  cases hi : s.inn <;> simp_all
theorem NC {s : dG} (h : s.yB = 0) : s.inn = true := by
  unfold dG.yB at h
  cases hi : s.inn <;> simp_all
theorem V.adw {w0 w : World} {A B C F : HP} (H : V w0 w (A • B • C • F)) : V w0 w (A • (B • C) • F) := H.of_eq (by rw [bW])
section
variable {w0 w : World} {F : HP} {e p : Nat} {s : dG}
theorem oZ (H : V w0 w (gB e s • F)) : gJ prog 65 #[.pointer (some ⟨e, 0, none⟩)] w fun v w' => v = .bool false ∧ w = w' := by
 refine iG func65 ntmps65 ?_
 refine jr O (aP ?_)
 obtain ⟨xQ, xR, xU, xW, xX, xY, xZ, yc, uN, su, sD, sF, sG, sH, sJ, sK, sN, sO, sQ, sS, iw, dF, lu, iI⟩ := (H).Gu
 refine aC (bP O (aV (iR kH O O) (jF O (fun h1 => ?_) (fun h1 => ?_))))
 ·(try simp only [Z] at h1)
  exfalso; first | contradiction | omega
 ·(try simp only [Z] at h1)
  refine bC (bP O (bC (dJ O (bC (bD 11 ah O sizeOf78 O (bC (fZ jM O (iI).get.2 O (bC (aV (iR jM O O) (iL O O (fC O (dH results65 O ?_))))))))))))
  exact ⟨O, O⟩
theorem uh (H : V w0 w (gB e s • F)) : gJ prog 81 #[.pointer (some ⟨e, 0, none⟩)] w fun v w' => v = .int .i64 s.yB ∧ w = w' := by
 unfold dG.yB
 refine iG func81 ntmps81 ?_
 refine jr O (aP (aY (bT O (dY O func65 (oZ H) ?_))))
 rintro _ _ ⟨rfl, rfl⟩
 refine gI O (qF (aP ?_))
 obtain ⟨xQ, xR, xU, xW, xX, xY, xZ, yc, uN, su, sD, sF, sG, sH, sJ, sK, sN, sO, sQ, sS, iw, dF, lu, iI⟩ := (H).Gu
 refine aC (nD O O (bD 16 ah O aO O (fZ bK O (iI).get.2 O (aV (kT O) (gI O (bI O (fun h1 => ?_) (fun h1 => ?_)))))))
 ·(try simp only [Z] at h1)
  refine jL O (aT (aF (dH results81 O ?_)))
  exact ⟨by simp [*], O⟩
 ·(try simp only [Z] at h1)
  refine bZ (aJ (aX (jL O (dH results81 O ?_))))
  exact ⟨by simp [*], O⟩
theorem ND {x0 x1 x4 x5 x6 x7 x8 x9 x10 x11 x12 uS x14 x15 x16 x17 x18 x19 x20 x21 vJ x23 x24 x25 wz x27 x28 x29 x30 x31 x32 wZ : Value} {pw pt pm : Nat} {k : Int} {U : Int → List (List iT)} (H : V w0 w (dL e (.cells (x0 :: x1 :: .pointer (some ⟨pw, 0, none⟩) :: .map (some pm) :: x4 :: x5 :: x6 :: x7 :: x8 :: x9 :: x10 :: x11 :: x12 :: uS :: x14 :: x15 :: x16 :: x17 :: x18 :: x19 :: x20 :: x21 :: vJ :: x23 :: x24 :: x25 :: wz :: x27 :: x28 :: x29 :: x30 :: x31 :: x32 :: wZ :: []).toArray 82 (0, 0)) • dL pw (.cells #[.int .i64 k, .map (some pt)] 122 (0, 0)) • wV pm U • F)) : gJ prog 134 #[.pointer (some ⟨e, 0, none⟩)] w fun v w' => ∃ p, v = .pointer (some ⟨p, 0, none⟩) ∧
  V w0 w' (iP p (U k) [] 0 • Nb pm U k p • dL e (.cells (x0 :: x1 :: .pointer (some ⟨pw, 0, none⟩) :: .map (some pm) :: x4 :: x5 :: x6 :: x7 :: x8 :: x9 :: x10 :: x11 :: x12 :: uS :: x14 :: x15 :: x16 :: x17 :: x18 :: x19 :: x20 :: x21 :: vJ :: x23 :: x24 :: x25 :: wz :: x27 :: x28 :: x29 :: x30 :: x31 :: x32 :: wZ :: []).toArray 82 (0, 0)) • dL pw (.cells #[.int .i64 k, .map (some pt)] 122 (0, 0)) • F) := by
 refine iG func134 ntmps134 ?_
 refine jr O (aP ?_)
 obtain ⟨D, P, hD1, hD2, HU⟩ := (H.f3).XZ
 have P5 := HU.drew
 have mF := V.kp (P5.f4.f4.f4.f4)
 refine yw [4, 9, 12, 13] mF O (jB 0 O mF O (kJ 1 O mF O (gU 2 O mF 0 ah O aQ O (gU 3 O mF 3 aG O sizeOf75 O (jT 4 O mF (fun W hW => kC kF O ((Kp.h hW).f3).get.2 O) (jB 5 O mF O (kJ 6 O mF O (gU 7 O mF 0 ah O aQ O (gU 8 O mF 2 aG O sizeOf74 O (jT 9 O mF (fun W hW => kC kE O ((Kp.h hW).f3).get.2 O) (kJ 10 O mF O (gU 11 O mF 0 eX O aj O (jT 12 O mF (fun W hW => kC aK O ((Kp.h hW).f4).get.2 O) (jT 13 O mF (fun W hW => LJ (MS ((Kp.h hW)) kF aK zeroValue184 O O) (Q8 D P k)) (ji 14 O mF (fun _ => dN O) (qU (aX (aP (bT O (aV (iR underlying184 O O) (je O (fun h1 => ?_) (fun h1 => ?_))))))))))))))))))))))
 ·(try simp only [Z] at h1)
  have hnm := Td h1
  refine iH (dY O func174 (Kw P5) ?_)
  rintro _ w1 ⟨p1, rfl, H1⟩
  refine gI O ?_
  have ab0 := H1.drew
  have wM := V.kp (ab0.f5.f5.f5.f5.f5)
  refine yw [4, 9, 12] wM O (jB 0 O wM O (kJ 1 O wM O (gU 2 O wM 0 ah O aQ O (gU 3 O wM 3 aG O sizeOf75 O (jT 4 O wM (fun W hW => kC kF O ((Kp.h hW).f4).get.2 O) (jB 5 O wM O (kJ 6 O wM O (gU 7 O wM 0 ah O aQ O (gU 8 O wM 2 aG O sizeOf74 O (jT 9 O wM (fun W hW => kC kE O ((Kp.h hW).f4).get.2 O) (kJ 10 O wM O (gU 11 O wM 0 eX O aj O (jT 12 O wM (fun W hW => kC aK O ((Kp.h hW).f5).get.2 O) (jB 13 O wM O ?_))))))))))))))
  refine fO 14 O (by kernel_rfl) (tY ab0.f2 kF aK O O O) ?_
  rintro _ w2 H2
  have xJ := V.kp (H2.f5.f5.f5.f5.f5)
  refine gV xJ (by kernel_rfl) ?_
  refine qU (aX (bT O (fC O (dH results134 O ?_))))
  have hu1 : EJ (wU P k p1) U (D ++ [k]) = (EJ P U D • iP p1 [] [] 0) := by
   rw [Gv, nO, hD2 _ hnm, Aw (P' := P) (U' := U) fun x hx => ⟨tX _ _ (by rintro rfl; exact hnm hx), rfl⟩]
  have HM := V.adw H2.f5.f5.f4.f5.f5
  rw [← hu1, ← Nk hnm] at HM
  have HZ := V.Y8 (k := k) (Gw hD1 hnm) (fun k hk => hD2 k fun hm => hk (by simp [hm])) (by simp) HM
  rw [nO] at HZ
  exact ⟨_, O, HZ⟩
 ·(try simp only [Z] at h1)
  have hmem := Tc h1
  rw [Nz hmem]
  refine gq (bT O (fC O (dH results134 O ?_)))
  exact ⟨_, O, V.Y8 hD1 hD2 hmem P5.f4.f4.f4.f4⟩
end
end Go.Proofs.YtpdeedplgmbopaaGreatDoor
end
section
namespace Go.Proofs.YtpdeedplgmbopaaGreatDoor
open Go.RowKit Go.Lib
section
variable {P : Program} {L : List (Nat × Value)} {w0 w : World} {F : HP} {ty : TypeId} {b : Nat} {v d : Int} {t : TypeId}
theorem VK {T : Value → World → Prop} {f : FuncId} {args : List Operand} {ts : Array TypeId} {vs : List Value} {fn : Func} {e : Array Value → Sem Value} {v : Value} {w' : World} (ha : DN L args = some vs)
    (hf : P.funcs[f]? = some fn) (hname : (fn.name == "runtime.NumGoroutine") = false) (hb : fn.body.isNone = true) (hn : Extern.findNext fn = none) (he : Extern.find fn = some e) (hr : (e vs.toArray).run P w = .ok v w') (ht : T v w') :
    uz P L (.call ⟨.value (.func f), args.toArray, ts⟩) ty w T := vT (v := v) (w' := w') (fun ρ hρ _ _ _ _ => by
  have hg : ρ (.func f) = .func (.func f) #[] #[] := hρ _ _ rfl
  have hc := run_callFunc_extern hf hname hb hn he vs.toArray w
  rw [hr] at hc
  simp [execOp, resolve, invoke, ZC hρ _ _ ha, hg, Deferred.ofValue]
  exact hc) ht
theorem P6 (hc : w.cell? ⟨b, 0, none⟩ = some (.int .i64 v)) : (Extern.Atomic.loadT (.int .i64) #[.pointer (some ⟨b, 0, none⟩)]).run P w = .ok (.int .i64 v) w := by
  change Sem.run P (do Extern.Atomic.read (.int .i64) (← asAddr (.pointer (some ⟨b, 0, none⟩)))) w = _
  simp [Extern.Atomic.read, asAddr, hc, Result.andThen]
theorem X9 {f : FuncId} {args : List Operand} {ts : Array TypeId} {fn : Func} (H : V w0 w (dL b (.cells #[.int .i64 v] t (0, 0)) • F)) (ha : DN L args = some [.pointer (some ⟨b, 0, none⟩), .int .i64 d])
    (hf : P.funcs[f]? = some fn) (hname : (fn.name == "runtime.NumGoroutine") = false) (hb : fn.body.isNone = true) (hn : Extern.findNext fn = none) (he : Extern.find fn = some (Extern.Atomic.update (Op.intArith .add) .i64 true)) :
    uz P L (.call ⟨.value (.func f), args.toArray, ts⟩) ty w fun u w' => u = .int .i64 (IntKind.i64.wrap (v + d)) ∧ V w0 w' (dL b (.cells #[.int .i64 (IntKind.i64.wrap (v + d))] t (0, 0)) • F) :=
  VK ha hf hname hb hn he (Conc.run_add_entry (jd H.get.2 rfl) (zH H.get.2)) ⟨rfl, H.setCell (i := 0) _⟩
theorem VL {f : FuncId} {args : List Operand} {ts : Array TypeId} {fn : Func} (H : V w0 w (dL b (.cells #[.int .i64 v] t (0, 0)) • F)) (ha : DN L args = some [.pointer (some ⟨b, 0, none⟩)])
    (hf : P.funcs[f]? = some fn) (hname : (fn.name == "runtime.NumGoroutine") = false) (hb : fn.body.isNone = true) (hn : Extern.findNext fn = none) (he : Extern.find fn = some (Extern.Atomic.loadT (.int .i64))) :
    uz P L (.call ⟨.value (.func f), args.toArray, ts⟩) ty w fun u w' => u = .int .i64 v ∧ w = w' :=
  VK ha hf hname hb hn he (P6 (jd H.get.2 rfl)) ⟨rfl, rfl⟩
theorem Dt (H : V w0 w (dL b (.cells #[.int .i64 v] t (0, 0)) • F)) : gJ Tryz.prog 83 #[.pointer (some ⟨b, 0, none⟩), .int .i64 d] w fun u w' => u = .int .i64 (IntKind.i64.wrap (v + d)) ∧ V w0 w' (dL b (.cells #[.int .i64 (IntKind.i64.wrap (v + d))] t (0, 0)) • F) := by
  refine nT Tryz.func83 Tryz.ntmps83 ?_
  refine jr O (bT O (dJ O (bD 0 Tryz.underlying161 O Tryz.sizeOf2 O (bP O (jv (X9 H O Tryz.func133 O O (by kernel_rfl) (by kernel_rfl)) ?_)))))
  rintro _ w1 ⟨rfl, H1⟩
  refine fC O (dH Tryz.results83 O ?_)
  exact ⟨O, H1⟩
theorem mZ (H : V w0 w (dL b (.cells #[.int .i64 v] t (0, 0)) • F)) : gJ Tryz.prog 68 #[.pointer (some ⟨b, 0, none⟩)] w fun u w' => u = .int .i64 v ∧ w = w' := by
  refine iG Tryz.func68 Tryz.ntmps68 ?_
  refine jr O (bT O (dJ O (bD 0 Tryz.underlying161 O Tryz.sizeOf2 O (jv (VL H O Tryz.func121 O O (by kernel_rfl) (by kernel_rfl)) ?_))))
  rintro _ _ ⟨rfl, rfl⟩
  refine fC O (dH Tryz.results68 O ?_)
  exact ⟨O, O⟩
end
end Go.Proofs.YtpdeedplgmbopaaGreatDoor
end
