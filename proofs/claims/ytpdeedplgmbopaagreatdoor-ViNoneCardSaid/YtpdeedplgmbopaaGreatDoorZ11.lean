import Derived.Test.YtpdeedplgmbopaaGreatDoorZ4
import Derived.Test.YtpdeedplgmbopaaGreatDoorZ10
import Derived.Test.YtpdeedplgmbopaaGreatDoorZ9
import Derived.Test.YtpdeedplgmbopaaGreatDoorZ5
import Derived.Lib.OthersKept
import Derived.Lib.Bytealg
import Derived.Conc.AtomicLaws2
set_option linter.unusedSimpArgs false
set_option linter.unusedVariables false
/- Texts of mine, joined, their names in short: RWalk VNm VWa VM EdA Atom. -/
section
namespace Go.Proofs.YtpdeedplgmbopaaGreatDoor
open Go.RowKit
open _root_.Go.Proofs.Tryz
def strs (l : List ByteArray) : List Value := l.map Value.string
theorem Jz {l : List ByteArray} : ∀ x ∈ strs l, x.oneCell' = true := by
  intro x hx
  obtain ⟨e, _, rfl⟩ := List.mem_map.1 hx
  rfl
def nO (hl : List pz) : List ByteArray := hl.map (·.1) ++ [.empty]
section
variable {P : Program} {L : List (Nat × Value)} {w0 w : World} {F : HP} {p : Nat} {hl l : List pz} {base most : Int} {v : Value}
theorem SV {hl : List pz} {k : Nat} (hk : k < hl.length) : strs ((hl.take (k + 1)).map (·.1)) = strs ((hl.take k).map (·.1)) ++ [.string (hl.getD k default).1] := by
  unfold strs
  rw [List.take_succ_eq_append_getElem hk, List.map_append, List.map_append, List.getD_eq_getElem?_getD, List.getElem?_eq_getElem hk]; rfl
theorem IB (H : V w0 w (iZ p hl base most • F)) : gI prog 114 #[.pointer (some ⟨p, 0, none⟩)] w fun v w' => ∃ q ov nv, v = .pointer (some ⟨q, 0, none⟩) ∧
  V w0 w' (dK q (.cells #[ov, nv, .int .i64 hl.length] 166 (0, 0)) • Row 9 1 ov (nO hl).length (strs (nO hl)) • Row 9 1 nv (nO hl).length (strs (nO hl)) • iZ p hl base most • F) := by
 refine gG func114 ntmps114 ?_
 refine jg O (aP ?_)
 obtain ⟨Pq, AB, zn⟩ := (H).Q5
 have hkl := AB.1
 refine aC (nD O O (bD 0 kH O sizeOf149 O (fG fB O (zn).get.2 O (aV (jw ((zn.f2).GI) fB O) ?_))))
 refine aV (dP (zl := [.slice none 0 0, .slice none 0 0, .int .i64 0]) (pl := [(0, 1), (1, 1), (2, 1)]) [_, _, _] fK zeroValue166 O (fun w => by kernel_rfl) O (.zero (zs := [.slice none 0 0]) O (.zero (zs := [.slice none 0 0]) O (.on .nil))) O) ?_
 refine jr (iD (l := [_, _, _]) zn O O) ?_
 rintro _ w2 ⟨b2, rfl, H2⟩
 refine vk O (jg O (aY ?_))
 refine fF [(0, _), (3, _)] (fun (⟨k, u⟩ : Nat × Value) => [(4, .int .i64 (k : Int))]) (fun (⟨k, u⟩ : Nat × Value) W => k ≤ hl.length ∧ V w0 W (dK b2 (.cells #[u, .slice none 0 0, .int .i64 hl.length] 166 (0, 0)) • Row 9 1 u k (strs ((hl.take k).map (·.1))) • dK p (.cells #[Pq, .int .i64 base, .int .i64 most] 155 (0, 0)) • hlK Pq hl • F)) (fun (⟨k, u⟩ : Nat × Value) => hl.length - k) ((0, .slice none 0 0)) qB lI ⟨by omega, (H2.f3.f3.f3).iP none |>.swap⟩ ?_
 rintro ⟨k, u⟩ w3 ⟨hk, HL⟩
 dsimp only [List.cons_append, List.nil_append]
 refine aP (bP O (nD O O (bD 0 kH O sizeOf149 O (fG fB O (HL.f3).get.2 O (aV (jw ((HL.f4).GI) fB O) (aV (iL O O) (jh O (fun h1 => ?_) (fun h1 => ?_))))))))
 ·(try simp only [Z] at h1)
  have hkl2 : k < hl.length := by have h9 := h1; omega
  refine fZ (aP (aY ?_))
  have aam := HL.drew
  have wW := V.kp (aam.f4.f4.f4.f4)
  refine yC [4, 8, 12] wW O (jG 0 O wW O (jG 1 O wW O (kD 2 O wW O (gV 3 O wW 0 fK O sizeOf33 O (jS 4 O wW (fun W hW => jX ig O ((Kp.h hW)).get.2 O) (jG 5 O wW O (kD 6 O wW O (gV 7 O wW 0 kH O sizeOf149 O (jS 8 O wW (fun W hW => jX fB O ((Kp.h hW).f3).get.2 O) (jG 9 O wW O ?_))))))))))
  obtain ⟨abV, abW, abX, Vu⟩ := Rd.pW ((aam.f4).GI) (by omega)
  cases Vu
  refine jB 10 O wW (fun _ => dI fB sizeOf218 O O (by omega)) (gV 11 O wW 0 kJ O lN O (jS 12 O wW (fun W hW => Ls (fA (dn iW O) O (Rd.atS (((Kp.h hW).f4).GI) (by omega) (by decide))) (aak hkl2)) (og 13 O (jQ (vs := [_]) aam ig lN zeroValue9 O O O (by decide) (ay bF)) ?_)))
  rintro l4 w4 H4
  have xu := V.kp (H4.f5.f5.f5.f5.f5)
  refine dU xu (fun W hW => (Kp.h hW).right.f4.f4.f4.f4) ?_
  refine og 14 O (fQ H4.f3 ig X7 O O O ((H4).aS) (ay bF) (by omega) (by omega)) ?_
  rintro l5 w5 H5
  have Hd6 := H5.f2.right
  have Iw := V.kp (Hd6.f4.f4.f4.f4)
  refine gW Iw (by kernel_rfl) ?_
  refine kD 15 O Iw O (gV 16 O Iw 0 fK O sizeOf33 O ?_)
  refine fM 17 O (by kernel_rfl) (eX 0 (l' := [_, _, _]) Hd6.f2 sizeOf33 O O (by first | rfl | exact Rd.one ((Hd6).aS)) O O) ?_
  rintro _ w7 H7
  have Ip := V.kp (H7.f4.f4.f4.f4)
  refine gW Ip (by kernel_rfl) ?_
  refine qR (aJ (aX (aC (bQ O (aV (gy O O (by omega)) (fU O (bM ?_)))))))
  refine dL ((k + 1, l5)) ?_ ?_ ?_ ?_
  ·exact lI
  ·exact qB
  ·(try dsimp only)
   first | done | exact ⟨by omega, by rw [SV hkl2]; exact H7⟩
  ·(try dsimp only); omega
 ·(try simp only [Z] at h1)
  refine dB (aI (aI (aZ (aX (aP ?_)))))
  obtain rfl : k = hl.length := by omega
  refine aC (jJ O O (dJ O (bD 0 fK O sizeOf33 O (fG ig O (HL).get.2 O (jr (jQ (vs := [_]) HL ig lN zeroValue9 O O O (by decide) (ay bF)) ?_)))))
  rintro l8 w8 H8
  refine jr (fQ H8.f3 ig X7 O O O ((H8).aS) (ay bF) (by omega) (by omega)) ?_
  rintro l9 w9 H9
  have X8 := H9.f2.right
  refine dJ O (bD 0 fK O sizeOf33 O (aH (eX 0 (l' := [_, _, _]) X8.f2 sizeOf33 O O (by first | rfl | exact Rd.one ((X8).aS)) O O) ?_))
  rintro _ DU qo
  have HX := qo
  rw [List.take_length, show strs (hl.map (·.1)) ++ [Value.string { data := #[] }] = strs (nO hl) from by unfold nO strs; rw [List.map_append]; rfl, show hl.length + 1 = (nO hl).length from by simp [nO]] at HX
  have hon := @Jz (nO hl)
  have hol : (nO hl).length = hl.length + 1 := by simp [nO]
  refine qH O (nD O O (bD 0 fK O sizeOf33 O (fG ig O (HX).get.2 O (jr (fQ (HX.iP none) ig X7 O O O ((HX.f2).aS) (by assumption) (by omega) (by omega)) ?_))))
  rintro l12 w12 um
  refine dJ O (bD 1 fK O sizeOf33 O (aH (eX 1 (l' := [_, _, _]) um.f2 sizeOf33 O O (by first | rfl | exact Rd.one ((um).aS)) O O) ?_))
  rintro _ Oz uS
  refine qH O (eY O (dG results114 O ?_))
  have aan := uS.f5.f5
  have aao := V.Dh AB aan
  have HQ := aao.f3.f4.f4
  rw [List.nil_append, Nat.zero_add] at HQ
  exact ⟨_, _, _, O, HQ⟩
end
section
def abY : ByteArray := ⟨#[118, 105, 45, 97, 114, 103, 45, 100, 105, 103, 105, 116]⟩
def Vw : ByteArray := ⟨#[118, 105, 45, 99, 104, 97, 110, 103, 101, 45, 99, 97, 115, 101]⟩
def BH : ByteArray := ⟨#[118, 105, 45, 99, 104, 97, 110, 103, 101, 45, 99, 104, 97, 114]⟩
def BI : ByteArray := ⟨#[118, 105, 45, 99, 104, 97, 110, 103, 101, 45, 116, 111]⟩
def Vx : ByteArray := ⟨#[118, 105, 45, 100, 101, 108, 101, 116, 101]⟩
def yS : ByteArray := ⟨#[118, 105, 45, 100, 101, 108, 101, 116, 101, 45, 116, 111]⟩
def Vy : ByteArray := ⟨#[118, 105, 45, 105, 110, 115, 101, 114, 116]⟩
def rC : ByteArray := ⟨#[118, 105, 45, 109, 111, 118, 101]⟩
def aap : ByteArray := ⟨#[118, 105, 45, 109, 111, 118, 101, 109, 101, 110, 116, 45, 109, 111, 100, 101]⟩
def Vz : ByteArray := ⟨#[118, 105, 45, 111, 118, 101, 114, 115, 116, 114, 105, 107, 101]⟩
def VA : ByteArray := ⟨#[118, 105, 45, 112, 117, 116]⟩
def aaq : ByteArray := ⟨#[118, 105, 45, 114, 101, 100, 111]⟩
def D8 : ByteArray := ⟨#[118, 105, 45, 115, 101, 116, 45, 109, 97, 114, 107]⟩
def VB : ByteArray := ⟨#[118, 105, 45, 115, 117, 98, 115, 116]⟩
def VD : ByteArray := ⟨#[118, 105, 45, 117, 110, 100, 111]⟩
def D9 : ByteArray := ⟨#[118, 105, 45, 121, 97, 110, 107, 45, 116, 111]⟩
def KJ : List ByteArray := [abY, Vw, BH, BI, Vx, yS, Vy, rC, aap, Vz, VA, aaq, D8, VB, VD, D9]
def zS (n : ByteArray) : Prop := ∃ k, k < 16 ∧ (KJ.getD k .empty).toList = n.toList
theorem VE {l : List ByteArray} {k : Nat} (hk : k < l.length) : (strs l).getD k undef = .string (l.getD k .empty) := by
  unfold strs; simp [List.getD_eq_getElem?_getD, hk]
def Ea : ByteArray := ⟨#[102, 70, 116, 84, 96]⟩
def aar : ByteArray := ⟨#[100, 99, 121]⟩
def yw (n : ByteArray) (keys : List Int) : Prop :=
  if n.toList = rC.toList then keys.length = 1 ∧ keys.getD 0 0 ∈ D6 Ea
  else if n.toList = BH.toList ∨ n.toList = D8.toList then keys.length = 1
  else if n.toList = yS.toList ∨ n.toList = BI.toList ∨ n.toList = D9.toList then
    keys.getD 0 0 ∈ D6 aar ∧ ((kU (keys.drop 1)).length = 0 ∨ ((kU (keys.drop 1)).length = 1 ∧ (kU (keys.drop 1)).getD 0 0 ∈ D6 Ea))
  else False
open Classical in
noncomputable def nX (n : ByteArray) (keys : List Int) : Int := if ¬ zS n then -1 else if keys.length = 0 then 1 else if yw n keys then 1 else 0
section
variable {n : ByteArray} {keys : List Int}
theorem SX (h : ¬ zS n) : nX n keys = -1 := if_pos h
theorem VF (h : zS n) (h0 : keys.length = 0) : nX n keys = 1 := by unfold nX; rw [if_neg (not_not_intro h), if_pos h0]
theorem Nj (h : zS n) (h1 : yw n keys) : nX n keys = 1 := by
  unfold nX; rw [if_neg (not_not_intro h), if_pos h1]; split <;> rfl
theorem GK (h : zS n) (h0 : ¬ keys.length = 0) (h1 : ¬ yw n keys) : nX n keys = 0 := by unfold nX; rw [if_neg (not_not_intro h), if_neg h0, if_neg h1]
theorem fE (h : n.toList = rC.toList) : yw n keys ↔ (keys.length = 1 ∧ keys.getD 0 0 ∈ D6 Ea) := by unfold yw; rw [if_pos h]
theorem jR (h1 : ¬ n.toList = rC.toList) (h : n.toList = BH.toList ∨ n.toList = D8.toList) : yw n keys ↔ keys.length = 1 := by unfold yw; rw [if_neg h1, if_pos h]
theorem dR (h1 : ¬ n.toList = rC.toList) (h2 : ¬ (n.toList = BH.toList ∨ n.toList = D8.toList)) (h : n.toList = yS.toList ∨ n.toList = BI.toList ∨ n.toList = D9.toList) :
    yw n keys ↔ (keys.getD 0 0 ∈ D6 aar ∧ ((kU (keys.drop 1)).length = 0 ∨ ((kU (keys.drop 1)).length = 1 ∧ (kU (keys.drop 1)).getD 0 0 ∈ D6 Ea))) := by unfold yw; rw [if_neg h1, if_neg h2, if_pos h]
theorem tH (h1 : ¬ n.toList = rC.toList) (h2 : ¬ (n.toList = BH.toList ∨ n.toList = D8.toList)) (h : ¬ (n.toList = yS.toList ∨ n.toList = BI.toList ∨ n.toList = D9.toList)) : ¬ yw n keys := by unfold yw; rw [if_neg h1, if_neg h2, if_neg h]; exact id
end
section
variable {w0 w : World} {F : HP} {v u : Value} {l : List ByteArray} {n : ByteArray} {keys : List Int}
theorem PL (H : V w0 w F) : gI prog 19 #[] w fun u w' => V w0 w' (Row 9 1 u 16 (strs KJ) • F) := by
  refine RQ func19 ntmps19 ?_
  refine jg O (iE (jr (jQ (vs := [_, _, _, _, _, _, _, _, _, _, _, _, _, _, _, _]) H ig lN zeroValue9 O O O (by decide) (ay (ay (ay (ay (ay (ay (ay (ay (ay (ay (ay (ay (ay (ay (ay (ay bF))))))))))))))))) ?_))
  rintro l1 w1 H1
  refine eY O (dG results19 O ?_)
  exact H1
theorem SY (H : V w0 w F) (hr : Ul w0 F 1 v l.length (strs l)) : gI prog 108 #[v, .string n] w fun u w' => ∃ i, u = .int .i64 i ∧ (0 ≤ i ↔ ∃ k, k < l.length ∧ (l.getD k .empty).toList = n.toList) ∧ V w0 w' F := by
 have Xi : l.length ≤ 9223372036854775807 := by obtain ⟨_, a, c, _, h1, h2, _⟩ := hr w H; omega
 refine oq func108 ntmps108 ?_
 refine jg O (aP (bP O (aV (jw (hr _ (H)) ig O) (bQ O (iJ (aY ?_))))))
 refine fF [(0, _), (1, _), (7, _)] (fun (k : Nat) => [(8, .int .i64 (k : Int))]) (fun (k : Nat) W => (k ≤ l.length ∧ ∀ j, j < k → ¬ (l.getD j .empty).toList = n.toList) ∧ V w0 W F) (fun (k : Nat) => l.length - k) (0) uM lI ⟨⟨by omega, fun j h => by omega⟩, H⟩ ?_
 rintro k w1 ⟨⟨hk, hno⟩, HL⟩
 dsimp only [List.cons_append, List.nil_append]
 refine iE (aV (iL O O) (pJ (bJ O (fun h1 => ?_) (fun h1 => ?_))))
 ·(try simp only [Z] at h1)
  refine fZ (aP (aY (bP O (vk O ?_))))
  have hkl : k < l.length := by omega
  refine aC (jJ O O (bQ O ?_))
  obtain ⟨bv, ov, cv, ev⟩ := Rd.pW (hr _ (HL)) (by omega)
  cases ev
  refine aV (dI ig lN O O (by omega)) ?_
  refine aV (Ls (fA (dn iW O) O (by first | exact Rd.lW (hr _ (HL)) (by omega) | exact Rd.wK (hr _ (HL)) (by omega) | exact Rd.wH (hr _ (HL)) (by omega))) (VE (l := l) hkl)) ?_
  refine aV (fO O O) (jh O (fun h2 => ?_) (fun h2 => ?_))
  ·(try simp only [Z] at h2)
   have heq : n.toList = (l.getD k .empty).toList := h2
   refine bP O (eY O (aT (aF (aF (aT (aF (dG results108 O ?_)))))))
   exact ⟨_, O, ⟨fun _ => ⟨k, hkl, heq.symm⟩, fun _ => by omega⟩, HL⟩
  ·(try simp only [Z] at h2)
   have hne : ¬ n.toList = (l.getD k .empty).toList := h2
   refine bY (aJ (aX (aC (aV (gy O O (by omega)) (bQ O (bM ?_))))))
   refine dL (k + 1) ?_ ?_ ?_ ?_
   ·exact lI
   ·exact uM
   ·(try dsimp only)
    first | done | exact ⟨⟨by omega, fun j h => if e : j = k then (by rw [e]; exact fun c => hne c.symm) else hno j (by omega)⟩, HL⟩
   ·(try dsimp only); omega
 ·(try simp only [Z] at h1)
  refine dB (aI (aI (aZ (aX (jC O (dG results108 O ?_))))))
  exact ⟨_, rfl, ⟨fun h => (by omega), fun ⟨j, h1, h2⟩ => absurd h2 (hno j (by omega))⟩, HL⟩
theorem PN (H : V w0 w F) (hr : Ul w0 F 1 v l.length (strs l)) : gI prog 49 #[v, .string n] w fun u w' => ∃ b, u = .bool b ∧ (b = true ↔ ∃ k, k < l.length ∧ (l.getD k .empty).toList = n.toList) ∧ V w0 w' F := by
  refine oq func49 ntmps49 ?_
  refine jg O (bP O (bQ O (dS O func108 (SY H (fun W HW => hr _ (HW))) ?_)))
  rintro _ w1 ⟨i1, rfl, hi1, H1⟩
  refine aV (lK O O) (eY O (dG results49 O ?_))
  exact ⟨_, O, by rw [decide_eq_true_iff]; assumption, H1⟩
end
end
theorem oO {b : Bool} {P : Prop} [Decidable P] (hb : b = true) (h : P) : Value.bool b = Value.bool (decide P) := by rw [hb, decide_eq_true h]
theorem Zf {b : Bool} {A B : Prop} [Decidable (A ∨ B)] (h1 : ¬ A) (hb : b = true ↔ B) : Value.bool b = Value.bool (decide (A ∨ B)) := congrArg Value.bool (by rw [Bool.eq_iff_iff, decide_eq_true_iff]; exact hb.trans ⟨.inr, fun h => h.resolve_left h1⟩)
theorem VG {b : Bool} {A B C : Prop} [Decidable (A ∨ B ∨ C)] (h1 : ¬ A) (h2 : ¬ B) (hb : b = true ↔ C) : Value.bool b = Value.bool (decide (A ∨ B ∨ C)) := congrArg Value.bool (by rw [Bool.eq_iff_iff, decide_eq_true_iff]; exact hb.trans ⟨fun h => .inr (.inr h), fun h => (h.resolve_left h1).resolve_left h2⟩)
section
variable {w0 w : World} {F : HP} {v u : Value} {n : ByteArray} {keys : List Int}
theorem BJ (H : V w0 w F) (hr : jZ w0 F .i32 v keys) : gI prog 16 #[.string n, v] w fun u w' => u = .int .i64 (nX n keys) ∧ V w0 w' F := by
 have Xi : keys.length ≤ 9223372036854775807 := by have := (hr _ H).open; obtain ⟨a, c, e, h3, h4, _⟩ := this; omega
 refine oq func16 ntmps16 ?_
 refine jg O (aP (iE (dS O func19 (PL H) ?_)))
 rintro u1 w1 H1
 refine bQ O (dS O func49 (PN (l := KJ) H1 (fun W HW => (HW).aS)) ?_)
 rintro _ w2 ⟨b2, rfl, hb2, H2⟩
 have OA := H2.right
 refine aV (lY O) (jh O (fun h1 => ?_) (fun h1 => ?_))
 ·(try simp only [Z] at h1)
  have hkn : ¬ zS n := fun hc => by have h9 := hb2.2 hc; rw [h1] at h9; exact absurd h9 (by decide)
  refine jC O (aF (dG results16 O ?_))
  exact ⟨by rw [SX hkn], OA⟩
 ·(try simp only [Z] at h1)
  have hkn : zS n := hb2.1 h1
  refine fZ (aP (bP O (aV (jk (hr _ (OA)) aB O) (aV (dV O O) (jh O (fun h2 => ?_) (fun h2 => ?_))))))
  ·(try simp only [Z] at h2)
   refine jC O (aF (dG results16 O ?_))
   exact ⟨by rw [VF hkn (by omega)], OA⟩
  ·(try simp only [Z] at h2)
   refine fZ (aP ?_)
   have hk0 : ¬ keys.length = 0 := by omega
   refine aC (gJ O ?_)
   refine kM [] (fun (m : Bool) => [(5, .bool m)]) (fun (m : Bool) W => (m = true ↔ yw n keys) ∧ V w0 W F) (Sub.nil _) ?_ ?_
   ·rintro m w4 ⟨hm, HM⟩
    dsimp only [List.cons_append, List.nil_append]
    refine aP (bP O (jh O (fun h3 => ?_) (fun h3 => ?_)))
    ·(try simp only [Z] at h3)
     have hmt := hm.1 h3
     refine jC O (aF (dG results16 O ?_))
     exact ⟨by rw [Nj hkn hmt], HM⟩
    ·(try simp only [Z] at h3)
     have hmt : ¬ yw n keys := fun hc => by have h9 := h3; rw [hm.2 hc] at h9; exact absurd h9 (by decide)
     refine fZ (jC O (dG results16 O ?_))
     exact ⟨by rw [GK hkn hk0 hmt], HM⟩
   ·skip
    refine bP O (iJ (aY (iE (aV (fO O O) (gJ O (bJ O (fun h4 => ?_) (fun h4 => ?_)))))))
    ·(try simp only [Z] at h4)
     have hmv : n.toList = rC.toList := h4
     refine aC (bQ O (aV (jk (hr _ (OA)) aB O) (aV (dV O O) (jP O (fun h5 => ?_) (fun h5 => ?_)))))
     ·(try simp only [Z] at h5)
      refine bC (bQ O (bC ?_))
      obtain ⟨bv, ov, cv, ev⟩ := fP.pW (hr _ (OA)) (by omega)
      cases ev
      refine aV (dI aB bT O O (by omega)) (bC ?_)
      refine aV (fA (dn bg O) O (by first | exact fP.lW (hr _ (OA)) (by omega) | exact fP.wK (hr _ (OA)) (by omega) | exact fP.wH (hr _ (OA)) (by omega))) ?_
      refine bC (dS O func50 (Df (s := Ea) (by decide)) ?_)
      rintro _ _ ⟨rfl, rfl⟩
      refine jF O O (fU O (bM (aJ ?_)))
      refine dh (_) lI (Sub.nil _) (by (try dsimp only); exact ⟨by first | exact decide_eq_true_iff.trans ⟨fun h => (fE hmv).2 ⟨by omega, h⟩, fun h => ((fE hmv).1 h).2⟩ | exact iff_of_false (by decide) fun h => absurd ((fE hmv).1 h).1 (by omega) | exact beq_iff_eq.trans ⟨fun h => (jR hmv hch).2 (by omega), fun h => by have := (jR hmv hch).1 h; omega⟩ | exact iff_of_true O ((dR hmv hch hop).2 ⟨by assumption, .inl (by show (kU (List.drop (Int.toNat 1) keys)).length = 0; omega)⟩) | exact decide_eq_true_iff.trans ⟨fun h => (dR hmv hch hop).2 ⟨by assumption, .inr ⟨by show (kU (List.drop (Int.toNat 1) keys)).length = 1; omega, h⟩⟩, fun h => ((dR hmv hch hop).1 h).2.elim (fun c => absurd c (by show ¬ (kU (List.drop (Int.toNat 1) keys)).length = 0; omega)) (fun c => c.2)⟩ | exact iff_of_false (by decide) fun h => ((dR hmv hch hop).1 h).2.elim (fun c => absurd c (by show ¬ (kU (List.drop (Int.toNat 1) keys)).length = 0; omega)) (fun c => absurd c.1 (by show ¬ (kU (List.drop (Int.toNat 1) keys)).length = 1; omega)) | exact iff_of_false (by decide) fun h => absurd ((dR hmv hch hop).1 h).1 (by assumption) | exact iff_of_false (by decide) (tH hmv hch hop), OA⟩)
     ·(try simp only [Z] at h5)
      refine bI (bI (bI (bI (iM O O (fU O (bM (aJ ?_)))))))
      refine dh (_) lI (Sub.nil _) (by (try dsimp only); exact ⟨by first | exact decide_eq_true_iff.trans ⟨fun h => (fE hmv).2 ⟨by omega, h⟩, fun h => ((fE hmv).1 h).2⟩ | exact iff_of_false (by decide) fun h => absurd ((fE hmv).1 h).1 (by omega) | exact beq_iff_eq.trans ⟨fun h => (jR hmv hch).2 (by omega), fun h => by have := (jR hmv hch).1 h; omega⟩ | exact iff_of_true O ((dR hmv hch hop).2 ⟨by assumption, .inl (by show (kU (List.drop (Int.toNat 1) keys)).length = 0; omega)⟩) | exact decide_eq_true_iff.trans ⟨fun h => (dR hmv hch hop).2 ⟨by assumption, .inr ⟨by show (kU (List.drop (Int.toNat 1) keys)).length = 1; omega, h⟩⟩, fun h => ((dR hmv hch hop).1 h).2.elim (fun c => absurd c (by show ¬ (kU (List.drop (Int.toNat 1) keys)).length = 0; omega)) (fun c => c.2)⟩ | exact iff_of_false (by decide) fun h => ((dR hmv hch hop).1 h).2.elim (fun c => absurd c (by show ¬ (kU (List.drop (Int.toNat 1) keys)).length = 0; omega)) (fun c => absurd c.1 (by show ¬ (kU (List.drop (Int.toNat 1) keys)).length = 1; omega)) | exact iff_of_false (by decide) fun h => absurd ((dR hmv hch hop).1 h).1 (by assumption) | exact iff_of_false (by decide) (tH hmv hch hop), OA⟩)
    ·(try simp only [Z] at h4)
     have hmv : ¬ n.toList = rC.toList := h4
     refine kM [(1, _), (5, _), (15, _)] (fun (_ : Unit) => [(27, .bool (decide (n.toList = BH.toList ∨ n.toList = D8.toList)))]) (fun (_ : Unit) W => V w0 W F) uM ?_ ?_
     ·rintro _ w6 HJ
      dsimp only [List.cons_append, List.nil_append]
      refine bJ O (fun h6 => ?_) (fun h6 => ?_)
      ·(try simp only [Z] at h6)
       have hch := h6
       refine aC (bQ O (aV (jk (hr _ (HJ)) aB O) (aV (dV O O) (fU O (bM (aJ ?_))))))
       refine dh (_) lI (Sub.nil _) (by (try dsimp only); exact ⟨by first | exact decide_eq_true_iff.trans ⟨fun h => (fE hmv).2 ⟨by omega, h⟩, fun h => ((fE hmv).1 h).2⟩ | exact iff_of_false (by decide) fun h => absurd ((fE hmv).1 h).1 (by omega) | exact beq_iff_eq.trans ⟨fun h => (jR hmv hch).2 (by omega), fun h => by have := (jR hmv hch).1 h; omega⟩ | exact iff_of_true O ((dR hmv hch hop).2 ⟨by assumption, .inl (by show (kU (List.drop (Int.toNat 1) keys)).length = 0; omega)⟩) | exact decide_eq_true_iff.trans ⟨fun h => (dR hmv hch hop).2 ⟨by assumption, .inr ⟨by show (kU (List.drop (Int.toNat 1) keys)).length = 1; omega, h⟩⟩, fun h => ((dR hmv hch hop).1 h).2.elim (fun c => absurd c (by show ¬ (kU (List.drop (Int.toNat 1) keys)).length = 0; omega)) (fun c => c.2)⟩ | exact iff_of_false (by decide) fun h => ((dR hmv hch hop).1 h).2.elim (fun c => absurd c (by show ¬ (kU (List.drop (Int.toNat 1) keys)).length = 0; omega)) (fun c => absurd c.1 (by show ¬ (kU (List.drop (Int.toNat 1) keys)).length = 1; omega)) | exact iff_of_false (by decide) fun h => absurd ((dR hmv hch hop).1 h).1 (by assumption) | exact iff_of_false (by decide) (tH hmv hch hop), HJ⟩)
      ·(try simp only [Z] at h6)
       have hch := h6
       refine kM [(1, _), (5, _)] (fun (_ : Unit) => [(33, .bool (decide (n.toList = yS.toList ∨ n.toList = BI.toList ∨ n.toList = D9.toList)))]) (fun (_ : Unit) W => V w0 W F) qB ?_ ?_
       ·rintro _ w7 HK
        dsimp only [List.cons_append, List.nil_append]
        refine bJ O (fun h7 => ?_) (fun h7 => ?_)
        ·(try simp only [Z] at h7)
         have hop := h7
         refine bP O ?_
         obtain ⟨bv, ov, cv, ev⟩ := fP.pW (hr _ (HK)) (by omega)
         cases ev
         refine aV (dI aB bT O O (by omega)) ?_
         refine aV (fA (dn bg O) O (by first | exact fP.lW (hr _ (HK)) (by omega) | exact fP.wK (hr _ (HK)) (by omega) | exact fP.wH (hr _ (HK)) (by omega))) ?_
         refine dS O func50 (Df (s := aar) (by decide)) ?_
         rintro _ _ ⟨rfl, rfl⟩
         refine jh O (fun h8 => ?_) (fun h8 => ?_)
         ·(try simp only [Z] at h8)
          refine bP O (aV (xX (hr _ (HK)) aB bT O O O (by omega)) ?_)
          refine dS O func51 (KI HK (fun W HW => fP.from (hr _ (HW)) (by omega))) ?_
          rintro _ w9 ⟨kv9, rfl, S9, H9⟩
          refine bQ O (rG O O (rG O O (fU O (gJ O (aC (bQ O (aV (jk (S9 _ (H9)) aB O) (aV (dV O O) (jP O (fun h9 => ?_) (fun h9 => ?_))))))))))
          ·(try simp only [Z] at h9)
           refine bI (bI (bI (bI (mV (mV (mV (mV (bI (jF O O (fU O (bM (aJ ?_))))))))))))
           refine dh (_) lI (Sub.nil _) (by (try dsimp only); exact ⟨by first | exact decide_eq_true_iff.trans ⟨fun h => (fE hmv).2 ⟨by omega, h⟩, fun h => ((fE hmv).1 h).2⟩ | exact iff_of_false (by decide) fun h => absurd ((fE hmv).1 h).1 (by omega) | exact beq_iff_eq.trans ⟨fun h => (jR hmv hch).2 (by omega), fun h => by have := (jR hmv hch).1 h; omega⟩ | exact iff_of_true O ((dR hmv hch hop).2 ⟨by assumption, .inl (by show (kU (List.drop (Int.toNat 1) keys)).length = 0; omega)⟩) | exact decide_eq_true_iff.trans ⟨fun h => (dR hmv hch hop).2 ⟨by assumption, .inr ⟨by show (kU (List.drop (Int.toNat 1) keys)).length = 1; omega, h⟩⟩, fun h => ((dR hmv hch hop).1 h).2.elim (fun c => absurd c (by show ¬ (kU (List.drop (Int.toNat 1) keys)).length = 0; omega)) (fun c => c.2)⟩ | exact iff_of_false (by decide) fun h => ((dR hmv hch hop).1 h).2.elim (fun c => absurd c (by show ¬ (kU (List.drop (Int.toNat 1) keys)).length = 0; omega)) (fun c => absurd c.1 (by show ¬ (kU (List.drop (Int.toNat 1) keys)).length = 1; omega)) | exact iff_of_false (by decide) fun h => absurd ((dR hmv hch hop).1 h).1 (by assumption) | exact iff_of_false (by decide) (tH hmv hch hop), H9⟩)
          ·(try simp only [Z] at h9)
           refine bC (bQ O (bC (aV (jk (S9 _ (H9)) aB O) (bC (aV (dV O O) (bC (jP O (fun h10 => ?_) (fun h10 => ?_))))))))
           ·(try simp only [Z] at h10)
            refine bC (bQ O (bC ?_))
            obtain ⟨aeU, aeV, aeW, adq⟩ := fP.pW (S9 _ (H9)) (by omega)
            cases adq
            refine aV (dI aB bT O O (by omega)) (bC ?_)
            refine aV (fA (dn bg O) O (by first | exact fP.lW (S9 _ (H9)) (by omega) | exact fP.wK (S9 _ (H9)) (by omega) | exact fP.wH (S9 _ (H9)) (by omega))) ?_
            refine bC (dS O func50 (Df (s := Ea) (by decide)) ?_)
            rintro _ _ ⟨rfl, rfl⟩
            refine bC (jF O O (iM O O (fU O (bM (aJ ?_)))))
            refine dh (_) lI (Sub.nil _) (by (try dsimp only); exact ⟨by first | exact decide_eq_true_iff.trans ⟨fun h => (fE hmv).2 ⟨by omega, h⟩, fun h => ((fE hmv).1 h).2⟩ | exact iff_of_false (by decide) fun h => absurd ((fE hmv).1 h).1 (by omega) | exact beq_iff_eq.trans ⟨fun h => (jR hmv hch).2 (by omega), fun h => by have := (jR hmv hch).1 h; omega⟩ | exact iff_of_true O ((dR hmv hch hop).2 ⟨by assumption, .inl (by show (kU (List.drop (Int.toNat 1) keys)).length = 0; omega)⟩) | exact decide_eq_true_iff.trans ⟨fun h => (dR hmv hch hop).2 ⟨by assumption, .inr ⟨by show (kU (List.drop (Int.toNat 1) keys)).length = 1; omega, h⟩⟩, fun h => ((dR hmv hch hop).1 h).2.elim (fun c => absurd c (by show ¬ (kU (List.drop (Int.toNat 1) keys)).length = 0; omega)) (fun c => c.2)⟩ | exact iff_of_false (by decide) fun h => ((dR hmv hch hop).1 h).2.elim (fun c => absurd c (by show ¬ (kU (List.drop (Int.toNat 1) keys)).length = 0; omega)) (fun c => absurd c.1 (by show ¬ (kU (List.drop (Int.toNat 1) keys)).length = 1; omega)) | exact iff_of_false (by decide) fun h => absurd ((dR hmv hch hop).1 h).1 (by assumption) | exact iff_of_false (by decide) (tH hmv hch hop), H9⟩)
           ·(try simp only [Z] at h10)
            refine bI (bI (bI (bI (bC (iM O O (iM O O (fU O (bM (aJ ?_)))))))))
            refine dh (_) lI (Sub.nil _) (by (try dsimp only); exact ⟨by first | exact decide_eq_true_iff.trans ⟨fun h => (fE hmv).2 ⟨by omega, h⟩, fun h => ((fE hmv).1 h).2⟩ | exact iff_of_false (by decide) fun h => absurd ((fE hmv).1 h).1 (by omega) | exact beq_iff_eq.trans ⟨fun h => (jR hmv hch).2 (by omega), fun h => by have := (jR hmv hch).1 h; omega⟩ | exact iff_of_true O ((dR hmv hch hop).2 ⟨by assumption, .inl (by show (kU (List.drop (Int.toNat 1) keys)).length = 0; omega)⟩) | exact decide_eq_true_iff.trans ⟨fun h => (dR hmv hch hop).2 ⟨by assumption, .inr ⟨by show (kU (List.drop (Int.toNat 1) keys)).length = 1; omega, h⟩⟩, fun h => ((dR hmv hch hop).1 h).2.elim (fun c => absurd c (by show ¬ (kU (List.drop (Int.toNat 1) keys)).length = 0; omega)) (fun c => c.2)⟩ | exact iff_of_false (by decide) fun h => ((dR hmv hch hop).1 h).2.elim (fun c => absurd c (by show ¬ (kU (List.drop (Int.toNat 1) keys)).length = 0; omega)) (fun c => absurd c.1 (by show ¬ (kU (List.drop (Int.toNat 1) keys)).length = 1; omega)) | exact iff_of_false (by decide) fun h => absurd ((dR hmv hch hop).1 h).1 (by assumption) | exact iff_of_false (by decide) (tH hmv hch hop), H9⟩)
         ·(try simp only [Z] at h8)
          refine bY (aJ ?_)
          refine dh (_) lI (Sub.nil _) (by (try dsimp only); exact ⟨by first | exact decide_eq_true_iff.trans ⟨fun h => (fE hmv).2 ⟨by omega, h⟩, fun h => ((fE hmv).1 h).2⟩ | exact iff_of_false (by decide) fun h => absurd ((fE hmv).1 h).1 (by omega) | exact beq_iff_eq.trans ⟨fun h => (jR hmv hch).2 (by omega), fun h => by have := (jR hmv hch).1 h; omega⟩ | exact iff_of_true O ((dR hmv hch hop).2 ⟨by assumption, .inl (by show (kU (List.drop (Int.toNat 1) keys)).length = 0; omega)⟩) | exact decide_eq_true_iff.trans ⟨fun h => (dR hmv hch hop).2 ⟨by assumption, .inr ⟨by show (kU (List.drop (Int.toNat 1) keys)).length = 1; omega, h⟩⟩, fun h => ((dR hmv hch hop).1 h).2.elim (fun c => absurd c (by show ¬ (kU (List.drop (Int.toNat 1) keys)).length = 0; omega)) (fun c => c.2)⟩ | exact iff_of_false (by decide) fun h => ((dR hmv hch hop).1 h).2.elim (fun c => absurd c (by show ¬ (kU (List.drop (Int.toNat 1) keys)).length = 0; omega)) (fun c => absurd c.1 (by show ¬ (kU (List.drop (Int.toNat 1) keys)).length = 1; omega)) | exact iff_of_false (by decide) fun h => absurd ((dR hmv hch hop).1 h).1 (by assumption) | exact iff_of_false (by decide) (tH hmv hch hop), HK⟩)
        ·(try simp only [Z] at h7)
         have hop := h7
         refine bY (aJ ?_)
         refine dh (_) lI (Sub.nil _) (by (try dsimp only); exact ⟨by first | exact decide_eq_true_iff.trans ⟨fun h => (fE hmv).2 ⟨by omega, h⟩, fun h => ((fE hmv).1 h).2⟩ | exact iff_of_false (by decide) fun h => absurd ((fE hmv).1 h).1 (by omega) | exact beq_iff_eq.trans ⟨fun h => (jR hmv hch).2 (by omega), fun h => by have := (jR hmv hch).1 h; omega⟩ | exact iff_of_true O ((dR hmv hch hop).2 ⟨by assumption, .inl (by show (kU (List.drop (Int.toNat 1) keys)).length = 0; omega)⟩) | exact decide_eq_true_iff.trans ⟨fun h => (dR hmv hch hop).2 ⟨by assumption, .inr ⟨by show (kU (List.drop (Int.toNat 1) keys)).length = 1; omega, h⟩⟩, fun h => ((dR hmv hch hop).1 h).2.elim (fun c => absurd c (by show ¬ (kU (List.drop (Int.toNat 1) keys)).length = 0; omega)) (fun c => c.2)⟩ | exact iff_of_false (by decide) fun h => ((dR hmv hch hop).1 h).2.elim (fun c => absurd c (by show ¬ (kU (List.drop (Int.toNat 1) keys)).length = 0; omega)) (fun c => absurd c.1 (by show ¬ (kU (List.drop (Int.toNat 1) keys)).length = 1; omega)) | exact iff_of_false (by decide) fun h => absurd ((dR hmv hch hop).1 h).1 (by assumption) | exact iff_of_false (by decide) (tH hmv hch hop), HK⟩)
       ·skip
        refine iE (aV (fO O O) (gJ O (bJ O (fun h11 => ?_) (fun h11 => ?_))))
        ·(try simp only [Z] at h11)
         have hop := h11
         refine bY ?_
         refine dh (()) ?_ ?_ ?_
         ·exact (Sub.jE O (by first | exact oO (beq_iff_eq.2 (by assumption)) (.inl (by assumption)) | exact oO (beq_iff_eq.2 (by assumption)) (.inr (.inl (by assumption))) | exact VG (by assumption) (by assumption) beq_iff_eq) (Sub.nil _))
         ·exact qB
         ·(try dsimp only)
          first | done | exact HJ
        ·(try simp only [Z] at h11)
         have hop := h11
         refine iE (aV (fO O O) (gJ O (bJ O (fun h12 => ?_) (fun h12 => ?_))))
         ·(try simp only [Z] at h12)
          have hop := h12
          refine bY ?_
          refine dh (()) ?_ ?_ ?_
          ·exact (Sub.jE O (by first | exact oO (beq_iff_eq.2 (by assumption)) (.inl (by assumption)) | exact oO (beq_iff_eq.2 (by assumption)) (.inr (.inl (by assumption))) | exact VG (by assumption) (by assumption) beq_iff_eq) (Sub.nil _))
          ·exact qB
          ·(try dsimp only)
           first | done | exact HJ
         ·(try simp only [Z] at h12)
          have hop := h12
          refine aC (aV (fO O O) (fU O (bM ?_)))
          refine dh (()) ?_ ?_ ?_
          ·exact (Sub.jE O (by first | exact oO (beq_iff_eq.2 (by assumption)) (.inl (by assumption)) | exact oO (beq_iff_eq.2 (by assumption)) (.inr (.inl (by assumption))) | exact VG (by assumption) (by assumption) beq_iff_eq) (Sub.nil _))
          ·exact qB
          ·(try dsimp only)
           first | done | exact HJ
     ·skip
      refine iE (aV (fO O O) (gJ O (bJ O (fun h13 => ?_) (fun h13 => ?_))))
      ·(try simp only [Z] at h13)
       have hch := h13
       refine bY ?_
       refine dh (()) ?_ ?_ ?_
       ·exact (Sub.jE O (by first | exact oO (beq_iff_eq.2 (by assumption)) (.inl (by assumption)) | exact Zf (by assumption) beq_iff_eq) (Sub.nil _))
       ·exact uM
       ·(try dsimp only)
        first | done | exact OA
      ·(try simp only [Z] at h13)
       have hch := h13
       refine aC (aV (fO O O) (fU O (bM ?_)))
       refine dh (()) ?_ ?_ ?_
       ·exact (Sub.jE O (by first | exact oO (beq_iff_eq.2 (by assumption)) (.inl (by assumption)) | exact Zf (by assumption) beq_iff_eq) (Sub.nil _))
       ·exact uM
       ·(try dsimp only)
        first | done | exact OA
end
structure VM where
  marks : Int → Option Int
  fk : Int
  fc : Int
  name : ByteArray
  keys : List Int
  n : Int
  typed : List Int
  frm : Int
def wu (n : ByteArray) : Prop := n.toList = BI.toList ∨ n.toList = Vy.toList ∨ n.toList = Vz.toList ∨ n.toList = VB.toList
def oP (n : ByteArray) : Prop := n.toList = Vw.toList ∨ n.toList = BH.toList ∨ n.toList = Vx.toList ∨ n.toList = yS.toList ∨ n.toList = VA.toList
instance (n : ByteArray) : Decidable (wu n) := by unfold wu; infer_instance
instance (n : ByteArray) : Decidable (oP n) := by unfold oP; infer_instance
def VH (M : VM) : Prop := M.keys.length * 4 ≤ 140737488355328 ∧ M.typed.length ≤ 1024 ∧ (M.name.toList = [] ∨ ((wu M.name ∨ oP M.name) ∧ nX M.name M.keys = 0 ∧ 1 ≤ M.n ∧ M.n ≤ 1000000))
def zT (m : Int → Option Int) : Int → Option Value := fun k => (m k).map (.int .i64)
def oL (m : Nat) (M : VM) : HP := rH fun (x : Nat × Value × Value) => fact (VH M) • dK m (.cells #[.map (some x.1), .int .i32 M.fk, .int .i32 M.fc, .string M.name, x.2.1, .int .i64 M.n, x.2.2, .int .i64 M.frm] 119 (0, 0)) • fD SE x.1 (zT M.marks) • mO .i32 x.2.1 M.keys • mO .i32 x.2.2 M.typed
def VM.new : VM := ⟨fun _ => none, 0, 0, .empty, [], 0, [], -1⟩
theorem VM.KL : VH VM.new := ⟨by decide, by decide, .inl (by rw [ByteArray.toList_eq]; rfl)⟩
section
variable {w0 w : World} {F : HP} {m : Nat} {M : VM}
theorem V.vm (H : V w0 w (oL m M • F)) : ∃ mb kv tv, VH M ∧ V w0 w (dK m (.cells #[.map (some mb), .int .i32 M.fk, .int .i32 M.fc, .string M.name, kv, .int .i64 M.n, tv, .int .i64 M.frm] 119 (0, 0)) • fD SE mb (zT M.marks) • mO .i32 kv M.keys • mO .i32 tv M.typed • F) := by
  obtain ⟨⟨mb, kv, tv⟩, H⟩ := H.lJ
  obtain ⟨h, H⟩ := H.flat.fact
  exact ⟨mb, kv, tv, h, H.of_eq (by simp only [bW])⟩
theorem V.Bc {mb : Nat} {kv tv : Value} (h : VH M) (H : V w0 w (dK m (.cells #[.map (some mb), .int .i32 M.fk, .int .i32 M.fc, .string M.name, kv, .int .i64 M.n, tv, .int .i64 M.frm] 119 (0, 0)) • fD SE mb (zT M.marks) • mO .i32 kv M.keys • mO .i32 tv M.typed • F)) : V w0 w (oL m M • F) :=
  V.iy (mb, kv, tv) (V.deep (V.jY h (H.of_eq (by simp only [bW]))))
theorem GL (H : V w0 w F) : V w0 w (mO .i32 (.slice none 0 0) [] • F) := V.oI (e := 21) (k := .i32) (l := []) (H.iP none)
theorem V.aas {mb : Nat} {kv : Value} (h : VH M) (ht : M.typed = []) (H : V w0 w (dK m (.cells #[.map (some mb), .int .i32 M.fk, .int .i32 M.fc, .string M.name, kv, .int .i64 M.n, .slice none 0 0, .int .i64 M.frm] 119 (0, 0)) • fD SE mb (zT M.marks) • mO .i32 kv M.keys • F)) : V w0 w (oL m M • F) :=
  V.Bc h (by rw [ht]; exact (GL H).of_eq (by ac_rfl))
theorem wX (H : V w0 w (oL m M • F)) : gI prog 69 #[.pointer (some ⟨m, 0, none⟩)] w fun v w' => v = .bool false ∧ w = w' := by
 refine gG func69 ntmps69 ?_
 refine jg O (aP ?_)
 obtain ⟨Nk, Nl, Np, wz, wO⟩ := (H).vm
 refine aC (bQ O (aV (fV lG O O) (QA O (fun h1 => ?_))))
 (try simp only [Z] at h1)
 refine bC (bQ O (bC (dJ O (bC (bD 0 fC O sizeOf113 O (bC (fG kK O (wO).get.2 O (bC (aV (SK kK O O) (iM O O (eY O (dG results69 O ?_))))))))))))
 exact ⟨O, O⟩
theorem GN (H : V w0 w F) : gI prog 22 #[] w fun v w' => ∃ m, v = .pointer (some ⟨m, 0, none⟩) ∧ V w0 w' (oL m VM.new • F) := by
  refine RQ func22 ntmps22 ?_
  refine jg O (iE (jr (jH (vY .i32) H) ?_))
  rintro _ w1 ⟨b1, rfl, H1⟩
  refine aV (dP (zl := [.map none, .int .i32 0, .int .i32 0, .string .empty, .slice none 0 0, .int .i64 0, .slice none 0 0, .int .i64 0]) (pl := [(0, 1), (1, 2), (3, 4), (7, 1)]) [_, _, _, _, _, _, _, _] fC zeroValue119 O (fun w => by kernel_rfl) O (.on (.zero (zs := [.int .i32 0, .int .i32 0]) O (.zero (zs := [.string .empty, .slice none 0 0, .int .i64 0, .slice none 0 0]) O (.on .nil)))) O) ?_
  refine jr (iD (l := [_, _, _, _, _, _, _, _]) H1 O O) ?_
  rintro _ w2 ⟨b2, rfl, H2⟩
  refine eY O (dG results22 O ?_)
  exact ⟨_, O, V.Bc VM.KL ((GL (GL H2)).of_eq (by ac_rfl))⟩
def VM.at (M : VM) (r : Int) : Int := (M.marks r).getD (-1)
theorem Nq {r : Int} (H : V w0 w (oL m M • F)) : gI prog 183 #[.pointer (some ⟨m, 0, none⟩), .int .i32 r] w fun v w' => v = .int .i64 (M.at r) ∧ V w0 w' (oL m M • F) := by
  refine oq func183 ntmps183 ?_
  refine jg O (aP (bP O (dS O func69 (wX H) ?_)))
  rintro _ _ ⟨rfl, rfl⟩
  refine iJ (qy (fZ (aP (aP ?_))))
  obtain ⟨Nk, Nl, Np, wz, wO⟩ := (H).vm
  refine aC (nD O O (bD 0 fC O sizeOf113 O (fG kK O (wO).get.2 O (bQ O (aV (zN (wO.f2) kK bg zeroValue3 O O) (bQ O (rG O O (rG O O (fU O (gJ O (bP O (jh O (fun h1 => ?_) (fun h1 => ?_)))))))))))))
  · (try simp only [Z] at h1)
    try (exfalso; first | contradiction | omega)
    all_goals
      obtain ⟨z, hz⟩ := Option.isSome_iff_exists.1 h1
      obtain ⟨a, ha⟩ : ∃ a, M.marks r = some a := by cases hq : M.marks r with | none => (unfold zT at hz; rw [hq] at hz; cases hz) | some a => exact ⟨a, rfl⟩
      refine bP O (eY O (aF (dG results183 O ?_)))
      have O4 := wO.f4.f4.f4.f4
      have Oy := V.Bc (M := M) wz O4
      exact ⟨by unfold VM.at; rw [ha]; first | rfl | (unfold zT; rw [ha]; rfl), Oy⟩
  · (try simp only [Z] at h1)
    try (exfalso; first | contradiction | omega)
    all_goals
      have ha : M.marks r = none := by cases hq : M.marks r with | none => rfl | some a => (have h9 := h1; unfold zT at h9; rw [hq] at h9; cases h9)
      refine fZ (jC O (dG results183 O ?_))
      have U3 := wO.f4.f4.f4.f4
      have U4 := V.Bc (M := M) wz U3
      exact ⟨by unfold VM.at; rw [ha]; first | rfl | (unfold zT; rw [ha]; rfl), U4⟩
theorem KN (H : V w0 w (oL m M • F)) : gI prog 38 #[.pointer (some ⟨m, 0, none⟩)] w fun v w' => ∃ c, v = .pointer (some ⟨c, 0, none⟩) ∧ V w0 w' (oL c M • oL m M • F) := by
 refine gG func38 ntmps38 ?_
 refine jg O (aP (bP O (dS O func69 (wX H) ?_)))
 rintro _ _ ⟨rfl, rfl⟩
 refine iJ (qy (fZ (aP ?_)))
 obtain ⟨Nk, Nl, Np, wz, wO⟩ := (H).vm
 have hvk := wz.1
 have hvt := wz.2.1
 refine aC (nD O O (aV (eU fC O sizeOf119 O O (wO).get.2) (jr (fH (l := [_, _, _, _, _, _, _, _]) wO zeroValue119 O) ?_)))
 rintro _ w3 ⟨b3, rfl, H3⟩
 refine aH (bU 0 (l' := [_, _, _, _, _, _, _, _]) (us := [_, _, _, _, _, _, _, _]) H3 sizeOf119 O O O (ay (ay (ay (ay (aW (by first | rfl | exact Rd.one ((H3.f4).jy)) (ay (aW (by first | rfl | exact Rd.one ((H3.f5).jy)) (ay bF)))))))) O O) ?_
 rintro _ w4 H4
 refine Xg (jr (jH (vY .i32) H4) ?_)
 rintro _ w5 ⟨b5, rfl, H5⟩
 refine bD 0 fC O sizeOf113 O (aH (eX 0 (l' := [_, _, _, _, _, _, _, _]) H5.f2 sizeOf113 O O (by first | rfl | assumption) O O) ?_)
 rintro _ w6 H6
 refine pJ (bP O (dJ O (bD 0 fC O sizeOf113 O (fG kK O (H6.f3).get.2 O (jr (zO H6.f4 kK O) ?_)))))
 rintro _ w7 ⟨it7, mi, rfl, H7⟩
 refine iJ (aY ?_)
 obtain ⟨R8, hR8, HR8⟩ := V.Fv (H7.f2.f3.f3)
 have HX0 := HR8
 rw [← MW (zT M.marks)] at HX0
 refine fF [(0, _), (3, _), (17, _)] (fun (⟨S, n⟩ : List Int × Nat) => []) (fun (⟨S, n⟩ : List Int × Nat) W => V w0 W (AY SE Nk it7 (zT M.marks) S n • fD SE b5 (KH (zT M.marks) S) • dK b3 (.cells #[.map (some b5), .int .i32 M.fk, .int .i32 M.fc, .string M.name, Nl, .int .i64 M.n, Np, .int .i64 M.frm] 119 (0, 0)) • R8)) (fun (⟨S, n⟩ : List Int × Nat) => n) (([], _)) uM (Sub.nil _) HX0 ?_
 rintro ⟨S, n⟩ w9 HL
 dsimp only [List.cons_append, List.nil_append]
 refine iE (jr (BF HL O) ?_)
 rintro _ w10 ⟨ox, Sx, mx, rfl, Zb, pV⟩
 refine aV (Vh O) (pJ (bJ O (fun h1 => ?_) (fun h1 => ?_)))
 ·(try simp only [Z] at h1)
  try (exfalso; first | contradiction | omega)
  all_goals
   obtain ⟨⟨a, u⟩, rfl⟩ := Option.isSome_iff_exists.1 h1
   obtain ⟨ha, hns, hlt, rfl⟩ := Zb
   refine fZ (aY (iE ?_))
   refine aV (KG (pV) (by assumption) O) ?_
   refine rG O O (rG O O (fU O (gJ O (aC (bD 0 fC O sizeOf113 O (fG kK O (pV.f3).get.2 O (jJ O O (aH (tu pV.f2 kK bg O O O) ?_))))))))
   rintro _ DU qo
   refine bM (aJ ?_)
   have hres := Ju (S := S) ha
   refine dL ((S ++ [a], mx)) ?_ ?_ ?_ ?_
   ·exact (Sub.nil _)
   ·exact uM
   ·(try dsimp only)
    first | done | exact (by rw [hres]; exact qo.f3.f2.f3)
   ·(try dsimp only); omega
 ·(try simp only [Z] at h1)
  try (exfalso; first | contradiction | omega)
  all_goals
   obtain rfl := DY (o := ox) (by simp [h1])
   obtain ⟨rfl, rfl, hall⟩ := Zb
   refine dB (aI ?_)
   have HX := pV.f3.f2.f3
   rw [MX hall] at HX
   have PO := HX.f2
   have PS := PO.DV
   subst hR8
   refine aI (aZ (aX (aP ?_)))
   have Zg := PS.drew
   have wB := V.kp (Zg.f6.f6.f6.f6.f6.f6)
   refine yC [4, 10] wB O (jG 0 O wB O (kD 1 O wB O (gV 2 O wB 3 fC O sizeOf117 O (gV 3 O wB 1 underlying117 O dH O (jS 4 O wB (fun W hW => jX aB O ((Kp.h hW).f4).get.2 O) (jG 6 O wB O (kD 7 O wB O (gV 8 O wB 3 fC O sizeOf117 O (gV 9 O wB 3 underlying117 O dH O (jS 10 O wB (fun W hW => jX aB O ((Kp.h hW).f4).get.2 O) (og 5 O (yF O func71 (pq Zg (fun W HW => (HW.f5).jy) (by omega))) ?_)))))))))))
   rintro u14 RV Ag
   have CV := V.kp (Ag.f7.f7.f7.f7.f7.f7.f7)
   refine dU CV (fun W hW => (Kp.h hW).right.f6.f6.f6.f6.f6.f6) ?_
   refine og 11 O (yF O func71 (pq Ag (fun W HW => (HW.f7).jy) (by omega))) ?_
   rintro u15 Sr yM
   have uH := V.kp (yM.f8.f8.f8.f8.f8.f8.f8.f8)
   refine gW uH (by kernel_rfl) ?_
   refine gV 12 O uH 3 fC O sizeOf117 O (gV 13 O uH 1 underlying117 O dH O ?_)
   refine fM 14 O (by kernel_rfl) (eX 4 (l' := [_, _, _, _, _, _, _, _]) yM.f5 dH O O (by first | rfl | exact Rd.one ((yM.f2).aS)) O O) ?_
   rintro _ w16 yH
   have CX := V.kp (yH.f8.f8.f8.f8.f8.f8.f8.f8)
   refine gW CX (by kernel_rfl) ?_
   refine gV 15 O CX 3 fC O sizeOf117 O (gV 16 O CX 3 underlying117 O dH O ?_)
   refine fM 17 O (by kernel_rfl) (eX 6 (l' := [_, _, _, _, _, _, _, _]) yH dH O O (by first | rfl | exact Rd.one ((yH.f2).aS)) O O) ?_
   rintro _ Zc Ig
   have Et := V.kp (Ig.f8.f8.f8.f8.f8.f8.f8.f8)
   refine gW Et (by kernel_rfl) ?_
   refine qR (aX (jC O (dG results38 O ?_)))
   have aat := Ig.f3
   have aau := aat.oI
   have VI := aau.f3
   have PU := VI.oI
   have VJ := PU.f8.f8.f6.f8
   have VK := V.Bc (M := M) wz VJ
   exact ⟨_, O, V.Bc wz VK.f2.f3.f5.f5⟩
end
def GR (D : List Int) (P : Int → Nat) (k : Int) : Option Addr := if k ∈ D then some ⟨P k, 0, none⟩ else none
theorem Q7 (D : List Int) (P : Int → Nat) (k : Int) : (MR D P k).getD (.pointer none) = .pointer (GR D P k) := by unfold MR GR; split <;> rfl
theorem Nr {D : List Int} {P : Int → Nat} {k : Int} (h : k ∈ D) : GR D P k = some ⟨P k, 0, none⟩ := if_pos h
theorem Tc {D : List Int} {P : Int → Nat} {k : Int} (h : (GR D P k).isNone = false) : k ∈ D := by
  unfold GR at h
  split at h
  · assumption
  · cases h
theorem Td {D : List Int} {P : Int → Nat} {k : Int} (h : (GR D P k).isNone = true) : k ∉ D := by
  unfold GR at h
  split at h
  · cases h
  · assumption
theorem Q8 {s : dF} (h : ¬ s.yc = 0) : s.inn = false ∧ s.yc = 1 := by
  unfold dF.yc at *
  cases hi : s.inn <;> simp_all
theorem Ns {s : dF} (h : s.yc = 0) : s.inn = true := by
  unfold dF.yc at h
  cases hi : s.inn <;> simp_all
theorem V.adr {w0 w : World} {A B C F : HP} (H : V w0 w (A • B • C • F)) : V w0 w (A • (B • C) • F) := H.of_eq (by rw [bW])
section
variable {w0 w : World} {F : HP} {e p : Nat} {s : dF}
theorem oQ (H : V w0 w (gB e s • F)) : gI prog 65 #[.pointer (some ⟨e, 0, none⟩)] w fun v w' => v = .bool false ∧ w = w' := by
 refine gG func65 ntmps65 ?_
 refine jg O (aP ?_)
 obtain ⟨xG, xH, xI, xJ, xK, xM, xO, xP, uy, rV, rW, rX, rY, rZ, su, sD, sF, sG, sH, sJ, iw, dD, kV, iI⟩ := (H).Gp
 refine aC (bQ O (aV (fV iU O O) (jP O (fun h1 => ?_) (fun h1 => ?_))))
 ·(try simp only [Z] at h1)
  exfalso; first | contradiction | omega
 ·(try simp only [Z] at h1)
  refine bC (bQ O (bC (dJ O (bC (bD 11 ah O sizeOf78 O (bC (fG iT O (iI).get.2 O (bC (aV (fV iT O O) (iM O O (eY O (dG results65 O ?_))))))))))))
  exact ⟨O, O⟩
theorem tJ (H : V w0 w (gB e s • F)) : gI prog 81 #[.pointer (some ⟨e, 0, none⟩)] w fun v w' => v = .int .i64 s.yc ∧ w = w' := by
 unfold dF.yc
 refine gG func81 ntmps81 ?_
 refine jg O (aP (aY (bP O (dS O func65 (oQ H) ?_))))
 rintro _ _ ⟨rfl, rfl⟩
 refine gJ O (qy (aP ?_))
 obtain ⟨xG, xH, xI, xJ, xK, xM, xO, xP, uy, rV, rW, rX, rY, rZ, su, sD, sF, sG, sH, sJ, iw, dD, kV, iI⟩ := (H).Gp
 refine aC (nD O O (bD 16 ah O aO O (fG bK O (iI).get.2 O (aV (lY O) (gJ O (bJ O (fun h1 => ?_) (fun h1 => ?_)))))))
 ·(try simp only [Z] at h1)
  refine jC O (aT (aF (dG results81 O ?_)))
  exact ⟨by simp [*], O⟩
 ·(try simp only [Z] at h1)
  refine bY (aJ (aX (jC O (dG results81 O ?_))))
  exact ⟨by simp [*], O⟩
theorem Nu {x0 x1 x4 x5 x6 x7 x8 x9 x10 x11 x12 uF x14 x15 x16 x17 x18 x19 x20 x21 vw x23 x24 x25 vU x27 x28 x29 x30 x31 x32 wR : Value} {pw pt pm : Nat} {k : Int} {U : Int → List (List iR)} (H : V w0 w (dK e (.cells (x0 :: x1 :: .pointer (some ⟨pw, 0, none⟩) :: .map (some pm) :: x4 :: x5 :: x6 :: x7 :: x8 :: x9 :: x10 :: x11 :: x12 :: uF :: x14 :: x15 :: x16 :: x17 :: x18 :: x19 :: x20 :: x21 :: vw :: x23 :: x24 :: x25 :: vU :: x27 :: x28 :: x29 :: x30 :: x31 :: x32 :: wR :: []).toArray 82 (0, 0)) • dK pw (.cells #[.int .i64 k, .map (some pt)] 122 (0, 0)) • wM pm U • F)) : gI prog 134 #[.pointer (some ⟨e, 0, none⟩)] w fun v w' => ∃ p, v = .pointer (some ⟨p, 0, none⟩) ∧
  V w0 w' (iQ p (U k) [] 0 • MS pm U k p • dK e (.cells (x0 :: x1 :: .pointer (some ⟨pw, 0, none⟩) :: .map (some pm) :: x4 :: x5 :: x6 :: x7 :: x8 :: x9 :: x10 :: x11 :: x12 :: uF :: x14 :: x15 :: x16 :: x17 :: x18 :: x19 :: x20 :: x21 :: vw :: x23 :: x24 :: x25 :: vU :: x27 :: x28 :: x29 :: x30 :: x31 :: x32 :: wR :: []).toArray 82 (0, 0)) • dK pw (.cells #[.int .i64 k, .map (some pt)] 122 (0, 0)) • F) := by
 refine gG func134 ntmps134 ?_
 refine jg O (aP ?_)
 obtain ⟨D, P, hD1, hD2, HU⟩ := (H.f3).XZ
 have PV := HU.drew
 have mg := V.kp (PV.f4.f4.f4.f4)
 refine yC [4, 9, 12, 13] mg O (jG 0 O mg O (kD 1 O mg O (gV 2 O mg 0 ah O aQ O (gV 3 O mg 3 aG O sizeOf75 O (jS 4 O mg (fun W hW => jX kC O ((Kp.h hW).f3).get.2 O) (jG 5 O mg O (kD 6 O mg O (gV 7 O mg 0 ah O aQ O (gV 8 O mg 2 aG O sizeOf74 O (jS 9 O mg (fun W hW => jX ku O ((Kp.h hW).f3).get.2 O) (kD 10 O mg O (gV 11 O mg 0 eP O aj O (jS 12 O mg (fun W hW => jX aK O ((Kp.h hW).f4).get.2 O) (jS 13 O mg (fun W hW => Ls (MK ((Kp.h hW)) kC aK zeroValue184 O O) (Q7 D P k)) (jB 14 O mg (fun _ => dN O) (qR (aX (aP (bP O (aV (fV underlying184 O O) (jh O (fun h1 => ?_) (fun h1 => ?_))))))))))))))))))))))
 ·(try simp only [Z] at h1)
  have hnm := Td h1
  refine iE (dS O func174 (Kt PV) ?_)
  rintro _ w1 ⟨p1, rfl, H1⟩
  refine gJ O ?_
  have abZ := H1.drew
  have wC := V.kp (abZ.f5.f5.f5.f5.f5)
  refine yC [4, 9, 12] wC O (jG 0 O wC O (kD 1 O wC O (gV 2 O wC 0 ah O aQ O (gV 3 O wC 3 aG O sizeOf75 O (jS 4 O wC (fun W hW => jX kC O ((Kp.h hW).f4).get.2 O) (jG 5 O wC O (kD 6 O wC O (gV 7 O wC 0 ah O aQ O (gV 8 O wC 2 aG O sizeOf74 O (jS 9 O wC (fun W hW => jX ku O ((Kp.h hW).f4).get.2 O) (kD 10 O wC O (gV 11 O wC 0 eP O aj O (jS 12 O wC (fun W hW => jX aK O ((Kp.h hW).f5).get.2 O) (jG 13 O wC O ?_))))))))))))))
  refine fM 14 O (by kernel_rfl) (tu abZ.f2 kC aK O O O) ?_
  rintro _ w2 H2
  have xw := V.kp (H2.f5.f5.f5.f5.f5)
  refine gW xw (by kernel_rfl) ?_
  refine qR (aX (bP O (eY O (dG results134 O ?_))))
  have hu1 : Ew (wL P k p1) U (D ++ [k]) = (Ew P U D • iQ p1 [] [] 0) := by
   rw [Gq, nN, hD2 _ hnm, Ai (P' := P) (U' := U) fun x hx => ⟨tq _ _ (by rintro rfl; exact hnm hx), rfl⟩]
  have HM := V.adr H2.f5.f5.f4.f5.f5
  rw [← hu1, ← MZ hnm] at HM
  have HZ := V.Za (k := k) (Gs hD1 hnm) (fun k hk => hD2 k fun hm => hk (by simp [hm])) (by simp) HM
  rw [nN] at HZ
  exact ⟨_, O, HZ⟩
 ·(try simp only [Z] at h1)
  have hmem := Tc h1
  rw [Nr hmem]
  refine fZ (bP O (eY O (dG results134 O ?_)))
  exact ⟨_, O, V.Za hD1 hD2 hmem PV.f4.f4.f4.f4⟩
end
end Go.Proofs.YtpdeedplgmbopaaGreatDoor
end
section
namespace Go.Proofs.YtpdeedplgmbopaaGreatDoor
open Go.RowKit Go.Lib
section
variable {P : Program} {L : List (Nat × Value)} {w0 w : World} {F : HP} {ty : TypeId} {b : Nat} {v d : Int} {t : TypeId}
theorem VL {T : Value → World → Prop} {f : FuncId} {args : List Operand} {ts : Array TypeId} {vs : List Value} {fn : Func} {e : Array Value → Sem Value} {v : Value} {w' : World} (ha : Dz L args = some vs)
    (hf : P.funcs[f]? = some fn) (hname : (fn.name == "runtime.NumGoroutine") = false) (hb : fn.body.isNone = true) (hn : Extern.findNext fn = none) (he : Extern.find fn = some e) (hr : (e vs.toArray).run P w = .ok v w') (ht : T v w') :
    ug P L (.call ⟨.value (.func f), args.toArray, ts⟩) ty w T := vK (v := v) (w' := w') (fun ρ hρ _ _ _ _ => by
  have hg : ρ (.func f) = .func (.func f) #[] #[] := hρ _ _ rfl
  have hc := run_callFunc_extern hf hname hb hn he vs.toArray w
  rw [hr] at hc
  simp [execOp, resolve, invoke, ZE hρ _ _ ha, hg, Deferred.ofValue]
  exact hc) ht
theorem PW (hc : w.cell? ⟨b, 0, none⟩ = some (.int .i64 v)) : (Extern.Atomic.loadT (.int .i64) #[.pointer (some ⟨b, 0, none⟩)]).run P w = .ok (.int .i64 v) w := by
  change Sem.run P (do Extern.Atomic.read (.int .i64) (← asAddr (.pointer (some ⟨b, 0, none⟩)))) w = _
  simp [Extern.Atomic.read, asAddr, hc, Result.andThen]
theorem X9 {f : FuncId} {args : List Operand} {ts : Array TypeId} {fn : Func} (H : V w0 w (dK b (.cells #[.int .i64 v] t (0, 0)) • F)) (ha : Dz L args = some [.pointer (some ⟨b, 0, none⟩), .int .i64 d])
    (hf : P.funcs[f]? = some fn) (hname : (fn.name == "runtime.NumGoroutine") = false) (hb : fn.body.isNone = true) (hn : Extern.findNext fn = none) (he : Extern.find fn = some (Extern.Atomic.update (Op.intArith .add) .i64 true)) :
    ug P L (.call ⟨.value (.func f), args.toArray, ts⟩) ty w fun u w' => u = .int .i64 (IntKind.i64.wrap (v + d)) ∧ V w0 w' (dK b (.cells #[.int .i64 (IntKind.i64.wrap (v + d))] t (0, 0)) • F) :=
  VL ha hf hname hb hn he (Conc.run_add_entry (je H.get.2 rfl) (zu H.get.2)) ⟨rfl, H.setCell (i := 0) _⟩
theorem VN {f : FuncId} {args : List Operand} {ts : Array TypeId} {fn : Func} (H : V w0 w (dK b (.cells #[.int .i64 v] t (0, 0)) • F)) (ha : Dz L args = some [.pointer (some ⟨b, 0, none⟩)])
    (hf : P.funcs[f]? = some fn) (hname : (fn.name == "runtime.NumGoroutine") = false) (hb : fn.body.isNone = true) (hn : Extern.findNext fn = none) (he : Extern.find fn = some (Extern.Atomic.loadT (.int .i64))) :
    ug P L (.call ⟨.value (.func f), args.toArray, ts⟩) ty w fun u w' => u = .int .i64 v ∧ w = w' :=
  VL ha hf hname hb hn he (PW (je H.get.2 rfl)) ⟨rfl, rfl⟩
theorem Di (H : V w0 w (dK b (.cells #[.int .i64 v] t (0, 0)) • F)) : gI Tryz.prog 83 #[.pointer (some ⟨b, 0, none⟩), .int .i64 d] w fun u w' => u = .int .i64 (IntKind.i64.wrap (v + d)) ∧ V w0 w' (dK b (.cells #[.int .i64 (IntKind.i64.wrap (v + d))] t (0, 0)) • F) := by
  refine oq Tryz.func83 Tryz.ntmps83 ?_
  refine jg O (bP O (dJ O (bD 0 Tryz.underlying161 O Tryz.sizeOf2 O (bQ O (jr (X9 H O Tryz.func133 O O (by kernel_rfl) (by kernel_rfl)) ?_)))))
  rintro _ w1 ⟨rfl, H1⟩
  refine eY O (dG Tryz.results83 O ?_)
  exact ⟨O, H1⟩
theorem mY (H : V w0 w (dK b (.cells #[.int .i64 v] t (0, 0)) • F)) : gI Tryz.prog 68 #[.pointer (some ⟨b, 0, none⟩)] w fun u w' => u = .int .i64 v ∧ w = w' := by
  refine gG Tryz.func68 Tryz.ntmps68 ?_
  refine jg O (bP O (dJ O (bD 0 Tryz.underlying161 O Tryz.sizeOf2 O (jr (VN H O Tryz.func121 O O (by kernel_rfl) (by kernel_rfl)) ?_))))
  rintro _ _ ⟨rfl, rfl⟩
  refine eY O (dG Tryz.results68 O ?_)
  exact ⟨O, O⟩
end
end Go.Proofs.YtpdeedplgmbopaaGreatDoor
end
