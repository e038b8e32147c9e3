import Derived.Test.YtpdeedplgmbopaaGreatDoorZ4
import Derived.Test.YtpdeedplgmbopaaGreatDoorZ10
import Derived.Test.YtpdeedplgmbopaaGreatDoorZ6
import Derived.Test.YtpdeedplgmbopaaGreatDoorZ3
set_option linter.unusedSimpArgs false
set_option linter.unusedVariables false
/- Texts of mine, joined, their names in short: RHist RWalk VNm VWa. -/
section
namespace Go.Proofs.YtpdeedplgmbopaaGreatDoor
open Go.RowKit
open _root_.Go.Proofs.Tryz
theorem AX.cut {I : Hp} {v : Value} {sz n : Nat} {xs : List Value} (hr : AX I sz v n xs) {l h : Nat} (h1 : l ≤ h) (h2 : h ≤ n) : AX I sz (wP sz l h v) (h - l) ((xs.drop (l * sz)).take ((h - l) * sz)) := by
  obtain ⟨hl, a, c, rfl, hc1, hc2, hc⟩ := hr
  refine ⟨?_, FW a l c sz, c - l, rfl, by omega, by omega, fun hp => ?_⟩
  · rw [List.length_take, List.length_drop, hl, ← Nat.sub_mul]
    exact Nat.min_eq_left (Nat.mul_le_mul_right _ (by omega))
  · obtain ⟨b, o, cs, e, fr, rfl, hI, hcell⟩ := hc (by omega)
    have : ¬ c = l := by omega
    refine ⟨b, o + l * sz, cs, e, fr, by simp [FW, this, vO], hI, fun j hj => ?_⟩
    have e1 : l * sz + (h - l) * sz = h * sz := by rw [← Nat.add_mul]; congr 1; omega
    have e2 : h * sz ≤ n * sz := Nat.mul_le_mul_right _ h2
    have := hcell (l * sz + j) (by omega)
    rw [Nat.add_assoc, this, List.getD_eq_getElem?_getD, List.getD_eq_getElem?_getD, List.getElem?_take, if_pos hj, List.getElem?_drop]
def hlK (v : Value) (l : List pO) : HP := know (fun I => AX I 2 v l.length (l.flatMap zi)) fun _ _ hl h => h.mono hl
def jf (p : Nat) (hl : List pO) (base most : Int) : HP := rV fun (v : Value) => fact (HOk hl base most) • dM p (.cells #[v, .int .i64 base, .int .i64 most] 155 (0, 0)) • hlK v hl
section
variable {P : Program} {L : List (Nat × Value)} {w0 w : World} {F : HP} {p : Nat} {hl l : List pO} {base most : Int} {v : Value}
theorem V.GY (H : V w0 w (hlK v l • F)) : Rd w 2 v l.length (l.flatMap zi) := let ⟨I, h, hI⟩ := H.qF; h.rd hI
theorem V.JE (H : V w0 w (Row 218 2 v l.length (l.flatMap zi) • F)) : V w0 w (hlK v l • F) := by
  have hl := H.wW
  rcases H.tN with ⟨a, rfl, h1, h2, H1⟩ | ⟨g, o, c, cur, rfl, h2, h3, h4, h5, H1⟩
  · exact H1.uV fun I => ⟨hl, a, 0, by rw [h1], by omega, by decide, fun h => by omega⟩
  · exact H1.freeze.DW (oG (fun I hI => ⟨hl, _, c, rfl, h2, h3, fun _ => ⟨g, o, cur, _, (0, 0), rfl, hI, h5⟩⟩) F)
theorem V.Q9 (H : V w0 w (jf p hl base most • F)) : ∃ v, HOk hl base most ∧ V w0 w (dM p (.cells #[v, .int .i64 base, .int .i64 most] 155 (0, 0)) • hlK v hl • F) := by
  obtain ⟨v, H⟩ := H.lQ
  obtain ⟨h, H⟩ := H.flat.fact
  exact ⟨v, h, H.flat⟩
theorem V.Dv (h : HOk hl base most) (H : V w0 w (dM p (.cells #[v, .int .i64 base, .int .i64 most] 155 (0, 0)) • hlK v hl • F)) : V w0 w (jf p hl base most • F) :=
  V.iD v (V.deep (V.kE h H.deep))
theorem aaj {l : List pO} {k : Nat} (hk : k < l.length) : (l.flatMap zi).getD (k * 2 + 0) undef = .string (l.getD k default).1 := by
  have h := congrArg (fun x => x.getD 0 undef) (sD Jy hk default)
  simp only [List.getD_eq_getElem?_getD, List.getElem?_take, List.getElem?_drop] at h ⊢
  exact h
theorem IV {n : Int} (H : V w0 w F) (hn : 0 ≤ n ∧ n ≤ 4096) : gQ prog 56 #[.int .i64 n] w fun v w' => ∃ p, v = .tuple #[.pointer (some ⟨p, 0, none⟩), .int .i64 0] ∧ V w0 w' (jf p [] 1 n • F) := by
  refine iC func56 ntmps56 ?_
  refine iy (fU O (vZ O (bT O (Z (gZ O O) (jL O (fun h1 => ?_) (fun h1 => ?_))))))
  · (try simp only [aF] at h1)
    exfalso; first | contradiction | omega
  · (try simp only [aF] at h1)
    refine bC (bQ O (bC (Z (jc O O) (iJ O O (iV O (fun h2 => ?_) (fun h2 => ?_))))))
    · (try simp only [aF] at h2)
      exfalso; first | contradiction | omega
    · (try simp only [aF] at h2)
      refine fV (bT O ?_)
      refine Z (dW (zl := [.slice none 0 0, .int .i64 0, .int .i64 0]) (pl := [(0, 1), (1, 1), (2, 1)]) [_, _, _] kN zeroValue155 O (fun w => by kernel_rfl) O (.zero (zs := [.slice none 0 0]) O (.on (.on .nil))) O) ?_
      refine jy (iO (l := [_, _, _]) H O O) ?_
      rintro _ w1 ⟨b1, rfl, H1⟩
      refine fU O (fF O (FX results56 O O ?_))
      exact ⟨_, O, V.Dv (v := .slice none 0 0) (hl := []) ⟨by simp, by decide, by decide, by simp; omega, by omega, by simp⟩ ((H1.iP none).JE (l := [])).swap⟩
theorem Fa (H : V w0 w (jf p hl base most • F)) : gQ prog 113 #[.pointer (some ⟨p, 0, none⟩)] w fun v w' => ∃ q, v = .pointer (some ⟨q, 0, none⟩) ∧ V w0 w' (jf q hl base most • jf p hl base most • F) := by
 refine iC func113 ntmps113 ?_
 refine jk O (aO ?_)
 obtain ⟨PE, A8, zy⟩ := (H).Q9
 have hkl := A8.1
 have Ns := @QV hl
 have Py := zy.drew
 have nZ := V.kp (Py.f2.f2)
 refine yj [3, 8, 12] nZ O (jE 0 O nZ O (kJ 1 O nZ O (gU 2 O nZ 0 kN O sizeOf149 O (jQ 3 O nZ (fun W hW => kC fG O ((Kp.h hW)).get.2 O) (jE 5 O nZ O (kJ 6 O nZ O (gU 7 O nZ 1 kN O sizeOf2 O (jQ 8 O nZ (fun W hW => kC underlying2 O ((Kp.h hW)).get.2 O) (jE 9 O nZ O (kJ 10 O nZ O (gU 11 O nZ 2 kN O aj O (jQ 12 O nZ (fun W hW => kC aN O ((Kp.h hW)).get.2 O) (oC 4 O (fZ (Py.iP none) fG aak O O O ((Py.f2).GY) (by assumption) (by omega) (by omega)) ?_)))))))))))))
 rintro l2 w2 H2
 have xH := V.kp (H2.f3.f3.f3)
 refine dX xH (fun W hW => (Kp.h hW).right.f2.f2) ?_
 refine jC 13 O xH (fun _ => dW (zl := [.slice none 0 0, .int .i64 0, .int .i64 0]) (pl := [(0, 1), (1, 1), (2, 1)]) [_, _, _] kN zeroValue155 O (fun w => by kernel_rfl) O (.one (Rd.one ((H2).aT)) (.on (.on .nil))) O) ?_
 refine oC 14 O (iO (l := [_, _, _]) H2 O O) ?_
 rintro _ w3 ⟨b3, rfl, H3⟩
 have yN := V.kp (H3.f4.f4.f4.f4)
 refine gV yN (by kernel_rfl) ?_
 refine jC 15 O yN (fun _ => dQ O) (qR (aW (mG (dG results113 O ?_))))
 have ZP := H3.f4.f4
 have ZQ := V.Dv A8 ZP
 have HQ := ZQ.f2.f3
 rw [List.nil_append, Nat.zero_add] at HQ
 exact ⟨_, O, V.Dv A8 HQ.JE.swap⟩
end
def strs (l : List ByteArray) : List Value := l.map Value.string
theorem JF {l : List ByteArray} : ∀ x ∈ strs l, x.oneCell' = true := by
  intro x hx
  obtain ⟨e, _, rfl⟩ := List.mem_map.1 hx
  rfl
def nT (hl : List pO) : List ByteArray := hl.map (·.1) ++ [.empty]
section
variable {P : Program} {L : List (Nat × Value)} {w0 w : World} {F : HP} {p : Nat} {hl l : List pO} {base most : Int} {v : Value}
theorem Tc {hl : List pO} {k : Nat} (hk : k < hl.length) : strs ((hl.take (k + 1)).map (·.1)) = strs ((hl.take k).map (·.1)) ++ [.string (hl.getD k default).1] := by
  unfold strs
  rw [List.take_succ_eq_append_getElem hk, List.map_append, List.map_append, List.getD_eq_getElem?_getD, List.getElem?_eq_getElem hk]; rfl
theorem IW (H : V w0 w (jf p hl base most • F)) : gQ prog 114 #[.pointer (some ⟨p, 0, none⟩)] w fun v w' => ∃ q ov nv, v = .pointer (some ⟨q, 0, none⟩) ∧
  V w0 w' (dM q (.cells #[ov, nv, .int .i64 hl.length] 166 (0, 0)) • Row 9 1 ov (nT hl).length (strs (nT hl)) • Row 9 1 nv (nT hl).length (strs (nT hl)) • jf p hl base most • F) := by
 refine iC func114 ntmps114 ?_
 refine jk O (aO ?_)
 obtain ⟨PE, A8, zy⟩ := (H).Q9
 have hkl := A8.1
 refine aB (nG O O (bF 0 kN O sizeOf149 O (gq fG O (zy).get.2 O (Z (iW ((zy.f2).GY) fG O) ?_))))
 refine Z (dW (zl := [.slice none 0 0, .slice none 0 0, .int .i64 0]) (pl := [(0, 1), (1, 1), (2, 1)]) [_, _, _] fP zeroValue166 O (fun w => by kernel_rfl) O (.zero (zs := [.slice none 0 0]) O (.zero (zs := [.slice none 0 0]) O (.on .nil))) O) ?_
 refine jy (iO (l := [_, _, _]) zy O O) ?_
 rintro _ w2 ⟨b2, rfl, H2⟩
 refine vZ O (jk O (aZ ?_))
 refine fC [(0, _), (3, _)] (fun (⟨k, u⟩ : Nat × Value) => [(4, .int .i64 (k : Int))]) (fun (⟨k, u⟩ : Nat × Value) W => k ≤ hl.length ∧ V w0 W (dM b2 (.cells #[u, .slice none 0 0, .int .i64 hl.length] 166 (0, 0)) • Row 9 1 u k (strs ((hl.take k).map (·.1))) • dM p (.cells #[PE, .int .i64 base, .int .i64 most] 155 (0, 0)) • hlK PE hl • F)) (fun (⟨k, u⟩ : Nat × Value) => hl.length - k) ((0, .slice none 0 0)) oO kD ⟨by omega, (H2.f3.f3.f3).iP none |>.swap⟩ ?_
 rintro ⟨k, u⟩ w3 ⟨hk, HL⟩
 dsimp only [List.cons_append, List.nil_append]
 refine aO (bT O (nG O O (bF 0 kN O sizeOf149 O (gq fG O (HL.f3).get.2 O (Z (iW ((HL.f4).GY) fG O) (Z (gZ O O) (iV O (fun h1 => ?_) (fun h1 => ?_))))))))
 ·(try simp only [aF] at h1)
  have hkl2 : k < hl.length := by have h9 := h1; omega
  refine fV (aO (aZ ?_))
  have aal := HL.drew
  have xq := V.kp (aal.f4.f4.f4.f4)
  refine yj [4, 8, 12] xq O (jE 0 O xq O (jE 1 O xq O (kJ 2 O xq O (gU 3 O xq 0 fP O sizeOf33 O (jQ 4 O xq (fun W hW => kC dU O ((Kp.h hW)).get.2 O) (jE 5 O xq O (kJ 6 O xq O (gU 7 O xq 0 kN O sizeOf149 O (jQ 8 O xq (fun W hW => kC fG O ((Kp.h hW).f3).get.2 O) (jE 9 O xq O ?_))))))))))
  obtain ⟨abS, abT, abU, VA⟩ := Rd.nX ((aal.f4).GY) (by omega)
  cases VA
  refine jC 10 O xq (fun _ => dw fG sizeOf218 O O (by omega)) (gU 11 O xq 0 kP O lF O (jQ 12 O xq (fun W hW => DY (dR (bV iR O) O (Rd.atS (((Kp.h hW).f4).GY) (by omega) (by decide))) (aaj hkl2)) (oC 13 O (jH (vs := [_]) aal dU lF zeroValue9 O O O (by decide) (aA bD)) ?_)))
  rintro l4 w4 H4
  have xG := V.kp (H4.f5.f5.f5.f5.f5)
  refine dX xG (fun W hW => (Kp.h hW).right.f4.f4.f4.f4) ?_
  refine oC 14 O (fZ H4.f3 dU X8 O O O ((H4).aT) (aA bD) (by omega) (by omega)) ?_
  rintro l5 w5 H5
  have Hd6 := H5.f2.right
  have IQ := V.kp (Hd6.f4.f4.f4.f4)
  refine gV IQ (by kernel_rfl) ?_
  refine kJ 15 O IQ O (gU 16 O IQ 0 fP O sizeOf33 O ?_)
  refine fQ 17 O (by kernel_rfl) (fE 0 (l' := [_, _, _]) Hd6.f2 sizeOf33 O O (by first | rfl | exact Rd.one ((Hd6).aT)) O O) ?_
  rintro _ w7 H7
  have II := V.kp (H7.f4.f4.f4.f4)
  refine gV II (by kernel_rfl) ?_
  refine qR (aJ (aW (aB (bQ O (Z (fK O O (by omega)) (fU O (bP ?_)))))))
  refine dH ((k + 1, l5)) ?_ ?_ ?_ ?_
  ·exact kD
  ·exact oO
  ·(try dsimp only)
   first | done | exact ⟨by omega, by rw [Tc hkl2]; exact H7⟩
  ·(try dsimp only); omega
 ·(try simp only [aF] at h1)
  refine dn (aI (aI (aY (aW (aO ?_)))))
  obtain rfl : k = hl.length := by omega
  refine aB (jF O O (dL O (bF 0 fP O sizeOf33 O (gq dU O (HL).get.2 O (jy (jH (vs := [_]) HL dU lF zeroValue9 O O O (by decide) (aA bD)) ?_)))))
  rintro l8 w8 H8
  refine jy (fZ H8.f3 dU X8 O O O ((H8).aT) (aA bD) (by omega) (by omega)) ?_
  rintro l9 w9 H9
  have X9 := H9.f2.right
  refine dL O (bF 0 fP O sizeOf33 O (aK (fE 0 (l' := [_, _, _]) X9.f2 sizeOf33 O O (by first | rfl | exact Rd.one ((X9).aT)) O O) ?_))
  rintro _ EI rE
  have HX := rE
  rw [List.take_length, show strs (hl.map (·.1)) ++ [Value.string { data := #[] }] = strs (nT hl) from by unfold nT strs; rw [List.map_append]; rfl, show hl.length + 1 = (nT hl).length from by simp [nT]] at HX
  have hon := @JF (nT hl)
  have hol : (nT hl).length = hl.length + 1 := by simp [nT]
  refine qQ O (nG O O (bF 0 fP O sizeOf33 O (gq dU O (HX).get.2 O (jy (fZ (HX.iP none) dU X8 O O O ((HX.f2).aT) (by assumption) (by omega) (by omega)) ?_))))
  rintro l12 w12 uG
  refine dL O (bF 1 fP O sizeOf33 O (aK (fE 1 (l' := [_, _, _]) uG.f2 sizeOf33 O O (by first | rfl | exact Rd.one ((uG).aT)) O O) ?_))
  rintro _ Pn wZ
  refine qQ O (fF O (dG results114 O ?_))
  have aam := wZ.f5.f5
  have aan := V.Dv A8 aam
  have HQ := aan.f3.f4.f4
  rw [List.nil_append, Nat.zero_add] at HQ
  exact ⟨_, _, _, O, HQ⟩
end
section
def abV : ByteArray := ⟨#[118, 105, 45, 97, 114, 103, 45, 100, 105, 103, 105, 116]⟩
def VB : ByteArray := ⟨#[118, 105, 45, 99, 104, 97, 110, 103, 101, 45, 99, 97, 115, 101]⟩
def zY : ByteArray := ⟨#[118, 105, 45, 99, 104, 97, 110, 103, 101, 45, 99, 104, 97, 114]⟩
def zZ : ByteArray := ⟨#[118, 105, 45, 99, 104, 97, 110, 103, 101, 45, 116, 111]⟩
def VD : ByteArray := ⟨#[118, 105, 45, 100, 101, 108, 101, 116, 101]⟩
def xu : ByteArray := ⟨#[118, 105, 45, 100, 101, 108, 101, 116, 101, 45, 116, 111]⟩
def VE : ByteArray := ⟨#[118, 105, 45, 105, 110, 115, 101, 114, 116]⟩
def qB : ByteArray := ⟨#[118, 105, 45, 109, 111, 118, 101]⟩
def aao : ByteArray := ⟨#[118, 105, 45, 109, 111, 118, 101, 109, 101, 110, 116, 45, 109, 111, 100, 101]⟩
def VF : ByteArray := ⟨#[118, 105, 45, 111, 118, 101, 114, 115, 116, 114, 105, 107, 101]⟩
def VG : ByteArray := ⟨#[118, 105, 45, 112, 117, 116]⟩
def aap : ByteArray := ⟨#[118, 105, 45, 114, 101, 100, 111]⟩
def BU : ByteArray := ⟨#[118, 105, 45, 115, 101, 116, 45, 109, 97, 114, 107]⟩
def VH : ByteArray := ⟨#[118, 105, 45, 115, 117, 98, 115, 116]⟩
def VI : ByteArray := ⟨#[118, 105, 45, 117, 110, 100, 111]⟩
def BX : ByteArray := ⟨#[118, 105, 45, 121, 97, 110, 107, 45, 116, 111]⟩
def rH : List ByteArray := [abV, VB, zY, zZ, VD, xu, VE, qB, aao, VF, VG, aap, BU, VH, VI, BX]
def wG (n : ByteArray) : Prop := ∃ k, k < 16 ∧ (rH.getD k .empty).toList = n.toList
theorem Dw {l : List ByteArray} {k : Nat} (hk : k < l.length) : (strs l).getD k undef = .string (l.getD k .empty) := by
  unfold strs; simp [List.getD_eq_getElem?_getD, hk]
def Aa : ByteArray := ⟨#[102, 70, 116, 84, 96]⟩
def Ya : ByteArray := ⟨#[100, 99, 121]⟩
def rJ (n : ByteArray) (keys : List Int) : Prop :=
  if n.toList = qB.toList then keys.length = 1 ∧ keys.getD 0 0 ∈ wS Aa
  else if n.toList = zY.toList ∨ n.toList = BU.toList then keys.length = 1
  else if n.toList = xu.toList ∨ n.toList = zZ.toList ∨ n.toList = BX.toList then
    keys.getD 0 0 ∈ wS Ya ∧ ((jV (keys.drop 1)).length = 0 ∨ ((jV (keys.drop 1)).length = 1 ∧ (jV (keys.drop 1)).getD 0 0 ∈ wS Aa))
  else False
open Classical in
noncomputable def nJ (n : ByteArray) (keys : List Int) : Int := if ¬ wG n then -1 else if keys.length = 0 then 1 else if rJ n keys then 1 else 0
section
variable {n : ByteArray} {keys : List Int}
theorem JG (h : ¬ wG n) : nJ n keys = -1 := if_pos h
theorem Nu (h : wG n) (h0 : keys.length = 0) : nJ n keys = 1 := by unfold nJ; rw [if_neg (not_not_intro h), if_pos h0]
theorem yE (h : wG n) (h1 : rJ n keys) : nJ n keys = 1 := by
  unfold nJ; rw [if_neg (not_not_intro h), if_pos h1]; split <;> rfl
theorem qC (h : wG n) (h0 : ¬ keys.length = 0) (h1 : ¬ rJ n keys) : nJ n keys = 0 := by unfold nJ; rw [if_neg (not_not_intro h), if_neg h0, if_neg h1]
theorem dK (h : n.toList = qB.toList) : rJ n keys ↔ (keys.length = 1 ∧ keys.getD 0 0 ∈ wS Aa) := by unfold rJ; rw [if_pos h]
theorem gX (h1 : ¬ n.toList = qB.toList) (h : n.toList = zY.toList ∨ n.toList = BU.toList) : rJ n keys ↔ keys.length = 1 := by unfold rJ; rw [if_neg h1, if_pos h]
theorem dB (h1 : ¬ n.toList = qB.toList) (h2 : ¬ (n.toList = zY.toList ∨ n.toList = BU.toList)) (h : n.toList = xu.toList ∨ n.toList = zZ.toList ∨ n.toList = BX.toList) :
    rJ n keys ↔ (keys.getD 0 0 ∈ wS Ya ∧ ((jV (keys.drop 1)).length = 0 ∨ ((jV (keys.drop 1)).length = 1 ∧ (jV (keys.drop 1)).getD 0 0 ∈ wS Aa))) := by unfold rJ; rw [if_neg h1, if_neg h2, if_pos h]
theorem mW (h1 : ¬ n.toList = qB.toList) (h2 : ¬ (n.toList = zY.toList ∨ n.toList = BU.toList)) (h : ¬ (n.toList = xu.toList ∨ n.toList = zZ.toList ∨ n.toList = BX.toList)) : ¬ rJ n keys := by unfold rJ; rw [if_neg h1, if_neg h2, if_neg h]; exact id
end
section
variable {w0 w : World} {F : HP} {v u : Value} {l : List ByteArray} {n : ByteArray} {keys : List Int}
theorem GZ (H : V w0 w F) : gQ prog 19 #[] w fun u w' => V w0 w' (Row 9 1 u 16 (strs rH) • F) := by
  refine OW func19 ntmps19 ?_
  refine jk O (iy (jy (jH (vs := [_, _, _, _, _, _, _, _, _, _, _, _, _, _, _, _]) H dU lF zeroValue9 O O O (by decide) (aA (aA (aA (aA (aA (aA (aA (aA (aA (aA (aA (aA (aA (aA (aA (aA bD))))))))))))))))) ?_))
  rintro l1 w1 H1
  refine fF O (dG results19 O ?_)
  exact H1
theorem G6 (H : V w0 w F) : gQ prog 20 #[] w fun u w' => V w0 w' (Row 9 1 u 16 (strs rH) • F) := by
  refine OW func20 ntmps20 ?_
  refine jk O (iy (jy (jH (vs := [_, _, _, _, _, _, _, _, _, _, _, _, _, _, _, _]) H dU lF zeroValue9 O O O (by decide) (aA (aA (aA (aA (aA (aA (aA (aA (aA (aA (aA (aA (aA (aA (aA (aA bD))))))))))))))))) ?_))
  rintro l1 w1 H1
  refine fF O (dG results20 O ?_)
  exact H1
theorem Td (H : V w0 w F) (hr : OO w0 F 1 v l.length (strs l)) : gQ prog 108 #[v, .string n] w fun u w' => ∃ i, u = .int .i64 i ∧ (0 ≤ i ↔ ∃ k, k < l.length ∧ (l.getD k .empty).toList = n.toList) ∧ V w0 w' F := by
 have Ug : l.length ≤ 9223372036854775807 := by obtain ⟨_, a, c, _, h1, h2, _⟩ := hr w H; omega
 refine nH func108 ntmps108 ?_
 refine jk O (aO (bT O (Z (iW (hr _ (H)) dU O) (bQ O (iK (aZ ?_))))))
 refine fC [(0, _), (1, _), (7, _)] (fun (k : Nat) => [(8, .int .i64 (k : Int))]) (fun (k : Nat) W => (k ≤ l.length ∧ ∀ j, j < k → ¬ (l.getD j .empty).toList = n.toList) ∧ V w0 W F) (fun (k : Nat) => l.length - k) (0) uF kD ⟨⟨by omega, fun j h => by omega⟩, H⟩ ?_
 rintro k w1 ⟨⟨hk, hno⟩, HL⟩
 dsimp only [List.cons_append, List.nil_append]
 refine iy (Z (gZ O O) (pJ (bG O (fun h1 => ?_) (fun h1 => ?_))))
 ·(try simp only [aF] at h1)
  refine fV (aO (aZ (bT O (vZ O ?_))))
  have hkl : k < l.length := by omega
  refine aB (jF O O (bQ O ?_))
  obtain ⟨bv, ov, cv, ev⟩ := Rd.nX (hr _ (HL)) (by omega)
  cases ev
  refine Z (dw dU lF O O (by omega)) ?_
  refine Z (DY (dR (bV iR O) O (by first | exact Rd.jT (hr _ (HL)) (by omega) | exact Rd.rP (hr _ (HL)) (by omega) | exact Rd.rO (hr _ (HL)) (by omega))) (Dw (l := l) hkl)) ?_
  refine Z (eF O O) (iV O (fun h2 => ?_) (fun h2 => ?_))
  ·(try simp only [aF] at h2)
   have heq : n.toList = (l.getD k .empty).toList := h2
   refine bT O (fF O (aS (aG (aG (aS (aG (dG results108 O ?_)))))))
   exact ⟨_, O, ⟨fun _ => ⟨k, hkl, heq.symm⟩, fun _ => by omega⟩, HL⟩
  ·(try simp only [aF] at h2)
   have hne : ¬ n.toList = (l.getD k .empty).toList := h2
   refine bU (aJ (aW (aB (Z (fK O O (by omega)) (bQ O (bP ?_))))))
   refine dH (k + 1) ?_ ?_ ?_ ?_
   ·exact kD
   ·exact uF
   ·(try dsimp only)
    first | done | exact ⟨⟨by omega, fun j h => if e : j = k then (by rw [e]; exact fun c => hne c.symm) else hno j (by omega)⟩, HL⟩
   ·(try dsimp only); omega
 ·(try simp only [aF] at h1)
  refine dn (aI (aI (aY (aW (jd O (dG results108 O ?_))))))
  exact ⟨_, rfl, ⟨fun h => (by omega), fun ⟨j, h1, h2⟩ => absurd h2 (hno j (by omega))⟩, HL⟩
theorem PW (H : V w0 w F) (hr : OO w0 F 1 v l.length (strs l)) : gQ prog 49 #[v, .string n] w fun u w' => ∃ b, u = .bool b ∧ (b = true ↔ ∃ k, k < l.length ∧ (l.getD k .empty).toList = n.toList) ∧ V w0 w' F := by
  refine nH func49 ntmps49 ?_
  refine jk O (bT O (bQ O (eG O func108 (Td H (fun W HW => hr _ (HW))) ?_)))
  rintro _ w1 ⟨i1, rfl, hi1, H1⟩
  refine Z (lJ O O) (fF O (dG results49 O ?_))
  exact ⟨_, O, by rw [decide_eq_true_iff]; assumption, H1⟩
theorem PX (H : V w0 w F) : gQ prog 52 #[.string n] w fun u w' => ∃ b, u = .bool b ∧ (b = true ↔ wG n) ∧ V w0 w' F := by
 refine iC func52 ntmps52 ?_
 refine jk O (iy (eG O func20 (G6 H) ?_))
 rintro u1 w1 H1
 refine vZ O (jk O (aZ ?_))
 refine fC [(0, _), (3, _)] (fun (k : Nat) => [(4, .int .i64 (k : Int))]) (fun (k : Nat) W => (k ≤ 16 ∧ ∀ j, j < k → ¬ (rH.getD j .empty).toList = n.toList) ∧ V w0 W (Row 9 1 u1 16 (strs rH) • F)) (fun (k : Nat) => 16 - k) (0) oO kD ⟨⟨by omega, fun j h => by omega⟩, H1⟩ ?_
 rintro k w2 ⟨⟨hk, hno⟩, HL⟩
 dsimp only [List.cons_append, List.nil_append]
 refine aO (bT O (bQ O (Z (iW ((HL).aT) dU O) (Z (gZ O O) (iV O (fun h1 => ?_) (fun h1 => ?_))))))
 ·(try simp only [aF] at h1)
  refine fV (aO (aZ (aO ?_)))
  have hkl : k < rH.length := by show k < 16; omega
  refine aB (jF O O ?_)
  obtain ⟨bu1, ou1, cu1, eu1⟩ := Rd.nX ((HL).aT) (by omega)
  cases eu1
  refine Z (dw dU lF O O (by omega)) ?_
  refine Z (DY (dR (bV iR O) O (by first | exact Rd.jT ((HL).aT) (by omega) | exact Rd.rP ((HL).aT) (by omega) | exact Rd.rO ((HL).aT) (by omega))) (Dw (l := rH) hkl)) ?_
  refine bQ O (Z (eF O O) (iV O (fun h2 => ?_) (fun h2 => ?_)))
  ·(try simp only [aF] at h2)
   have heq : (rH.getD k .empty).toList = n.toList := h2
   refine jd O (aS (aG (aG (aS (aG (dG results52 O ?_))))))
   exact ⟨_, O, ⟨fun _ => ⟨k, hkl, heq⟩, fun _ => rfl⟩, HL.right⟩
  ·(try simp only [aF] at h2)
   have hne : ¬ (rH.getD k .empty).toList = n.toList := h2
   refine bU (aJ (aW (aB (bQ O (Z (fK O O (by omega)) (fU O (bP ?_)))))))
   refine dH (k + 1) ?_ ?_ ?_ ?_
   ·exact kD
   ·exact oO
   ·(try dsimp only)
    first | done | exact ⟨⟨by omega, fun j h => if e : j = k then (by rw [e]; exact hne) else hno j (by omega)⟩, HL⟩
   ·(try dsimp only); omega
 ·(try simp only [aF] at h1)
  refine dn (aI (aI (aY (aW (jd O (dG results52 O ?_))))))
  exact ⟨_, rfl, ⟨fun h => absurd h (by decide), fun ⟨j, h1, h2⟩ => absurd h2 (hno j (by omega))⟩, HL.right⟩
end
end
theorem kZ {b : Bool} {P : Prop} [Decidable P] (hb : b = true) (h : P) : Value.bool b = Value.bool (decide P) := by rw [hb, decide_eq_true h]
theorem Rf {b : Bool} {A B : Prop} [Decidable (A ∨ B)] (h1 : ¬ A) (hb : b = true ↔ B) : Value.bool b = Value.bool (decide (A ∨ B)) := congrArg Value.bool (by rw [Bool.eq_iff_iff, decide_eq_true_iff]; exact hb.trans ⟨.inr, fun h => h.resolve_left h1⟩)
theorem JH {b : Bool} {A B C : Prop} [Decidable (A ∨ B ∨ C)] (h1 : ¬ A) (h2 : ¬ B) (hb : b = true ↔ C) : Value.bool b = Value.bool (decide (A ∨ B ∨ C)) := congrArg Value.bool (by rw [Bool.eq_iff_iff, decide_eq_true_iff]; exact hb.trans ⟨fun h => .inr (.inr h), fun h => (h.resolve_left h1).resolve_left h2⟩)
section
variable {w0 w : World} {F : HP} {v u : Value} {n : ByteArray} {keys : List Int}
theorem yX (H : V w0 w F) (hr : jM w0 F .i32 v keys) : gQ prog 16 #[.string n, v] w fun u w' => u = .int .i64 (nJ n keys) ∧ V w0 w' F := by
 have Ug : keys.length ≤ 9223372036854775807 := by have := (hr _ H).open; obtain ⟨a, c, e, h3, h4, _⟩ := this; omega
 refine nH func16 ntmps16 ?_
 refine jk O (aO (iy (eG O func19 (GZ H) ?_)))
 rintro u1 w1 H1
 refine bQ O (eG O func49 (PW (l := rH) H1 (fun W HW => (HW).aT)) ?_)
 rintro _ w2 ⟨b2, rfl, hb2, H2⟩
 have OC := H2.right
 refine Z (lS O) (iV O (fun h1 => ?_) (fun h1 => ?_))
 ·(try simp only [aF] at h1)
  have hkn : ¬ wG n := fun hc => by have h9 := hb2.2 hc; rw [h1] at h9; exact absurd h9 (by decide)
  refine jd O (aG (dG results16 O ?_))
  exact ⟨by rw [JG hkn], OC⟩
 ·(try simp only [aF] at h1)
  have hkn : wG n := hb2.1 h1
  refine fV (aO (bT O (Z (iF (hr _ (OC)) ay O) (Z (dO O O) (iV O (fun h2 => ?_) (fun h2 => ?_))))))
  ·(try simp only [aF] at h2)
   refine jd O (aG (dG results16 O ?_))
   exact ⟨by rw [Nu hkn (by omega)], OC⟩
  ·(try simp only [aF] at h2)
   refine fV (aO ?_)
   have hk0 : ¬ keys.length = 0 := by omega
   refine aB (gB O ?_)
   refine jW [] (fun (m : Bool) => [(5, .bool m)]) (fun (m : Bool) W => (m = true ↔ rJ n keys) ∧ V w0 W F) (Sub.nil _) ?_ ?_
   ·rintro m w4 ⟨hm, HM⟩
    dsimp only [List.cons_append, List.nil_append]
    refine aO (bT O (iV O (fun h3 => ?_) (fun h3 => ?_)))
    ·(try simp only [aF] at h3)
     have hmt := hm.1 h3
     refine jd O (aG (dG results16 O ?_))
     exact ⟨by rw [yE hkn hmt], HM⟩
    ·(try simp only [aF] at h3)
     have hmt : ¬ rJ n keys := fun hc => by have h9 := h3; rw [hm.2 hc] at h9; exact absurd h9 (by decide)
     refine fV (jd O (dG results16 O ?_))
     exact ⟨by rw [qC hkn hk0 hmt], HM⟩
   ·skip
    refine bT O (iK (aZ (iy (Z (eF O O) (gB O (bG O (fun h4 => ?_) (fun h4 => ?_)))))))
    ·(try simp only [aF] at h4)
     have hmv : n.toList = qB.toList := h4
     refine aB (bQ O (Z (iF (hr _ (OC)) ay O) (Z (dO O O) (jL O (fun h5 => ?_) (fun h5 => ?_)))))
     ·(try simp only [aF] at h5)
      refine bC (bQ O (bC ?_))
      obtain ⟨bv, ov, cv, ev⟩ := eX.nX (hr _ (OC)) (by omega)
      cases ev
      refine Z (dw ay bK O O (by omega)) (bC ?_)
      refine Z (dR (bV bf O) O (by first | exact eX.jT (hr _ (OC)) (by omega) | exact eX.rP (hr _ (OC)) (by omega) | exact eX.rO (hr _ (OC)) (by omega))) ?_
      refine bC (eG O func50 (Du (s := Aa) (by decide)) ?_)
      rintro _ _ ⟨rfl, rfl⟩
      refine jw O O (fU O (bP (aJ ?_)))
      refine cO (_) kD (Sub.nil _) (by (try dsimp only); exact ⟨by first | exact decide_eq_true_iff.trans ⟨fun h => (dK hmv).2 ⟨by omega, h⟩, fun h => ((dK hmv).1 h).2⟩ | exact iff_of_false (by decide) fun h => absurd ((dK hmv).1 h).1 (by omega) | exact beq_iff_eq.trans ⟨fun h => (gX hmv hch).2 (by omega), fun h => by have := (gX hmv hch).1 h; omega⟩ | exact iff_of_true O ((dB hmv hch hop).2 ⟨by assumption, .inl (by show (jV (List.drop (Int.toNat 1) keys)).length = 0; omega)⟩) | exact decide_eq_true_iff.trans ⟨fun h => (dB hmv hch hop).2 ⟨by assumption, .inr ⟨by show (jV (List.drop (Int.toNat 1) keys)).length = 1; omega, h⟩⟩, fun h => ((dB hmv hch hop).1 h).2.elim (fun c => absurd c (by show ¬ (jV (List.drop (Int.toNat 1) keys)).length = 0; omega)) (fun c => c.2)⟩ | exact iff_of_false (by decide) fun h => ((dB hmv hch hop).1 h).2.elim (fun c => absurd c (by show ¬ (jV (List.drop (Int.toNat 1) keys)).length = 0; omega)) (fun c => absurd c.1 (by show ¬ (jV (List.drop (Int.toNat 1) keys)).length = 1; omega)) | exact iff_of_false (by decide) fun h => absurd ((dB hmv hch hop).1 h).1 (by assumption) | exact iff_of_false (by decide) (mW hmv hch hop), OC⟩)
     ·(try simp only [aF] at h5)
      refine bH (bH (bH (bH (iJ O O (fU O (bP (aJ ?_)))))))
      refine cO (_) kD (Sub.nil _) (by (try dsimp only); exact ⟨by first | exact decide_eq_true_iff.trans ⟨fun h => (dK hmv).2 ⟨by omega, h⟩, fun h => ((dK hmv).1 h).2⟩ | exact iff_of_false (by decide) fun h => absurd ((dK hmv).1 h).1 (by omega) | exact beq_iff_eq.trans ⟨fun h => (gX hmv hch).2 (by omega), fun h => by have := (gX hmv hch).1 h; omega⟩ | exact iff_of_true O ((dB hmv hch hop).2 ⟨by assumption, .inl (by show (jV (List.drop (Int.toNat 1) keys)).length = 0; omega)⟩) | exact decide_eq_true_iff.trans ⟨fun h => (dB hmv hch hop).2 ⟨by assumption, .inr ⟨by show (jV (List.drop (Int.toNat 1) keys)).length = 1; omega, h⟩⟩, fun h => ((dB hmv hch hop).1 h).2.elim (fun c => absurd c (by show ¬ (jV (List.drop (Int.toNat 1) keys)).length = 0; omega)) (fun c => c.2)⟩ | exact iff_of_false (by decide) fun h => ((dB hmv hch hop).1 h).2.elim (fun c => absurd c (by show ¬ (jV (List.drop (Int.toNat 1) keys)).length = 0; omega)) (fun c => absurd c.1 (by show ¬ (jV (List.drop (Int.toNat 1) keys)).length = 1; omega)) | exact iff_of_false (by decide) fun h => absurd ((dB hmv hch hop).1 h).1 (by assumption) | exact iff_of_false (by decide) (mW hmv hch hop), OC⟩)
    ·(try simp only [aF] at h4)
     have hmv : ¬ n.toList = qB.toList := h4
     refine jW [(1, _), (5, _), (15, _)] (fun (_ : Unit) => [(27, .bool (decide (n.toList = zY.toList ∨ n.toList = BU.toList)))]) (fun (_ : Unit) W => V w0 W F) uF ?_ ?_
     ·rintro _ w6 HJ
      dsimp only [List.cons_append, List.nil_append]
      refine bG O (fun h6 => ?_) (fun h6 => ?_)
      ·(try simp only [aF] at h6)
       have hch := h6
       refine aB (bQ O (Z (iF (hr _ (HJ)) ay O) (Z (dO O O) (fU O (bP (aJ ?_))))))
       refine cO (_) kD (Sub.nil _) (by (try dsimp only); exact ⟨by first | exact decide_eq_true_iff.trans ⟨fun h => (dK hmv).2 ⟨by omega, h⟩, fun h => ((dK hmv).1 h).2⟩ | exact iff_of_false (by decide) fun h => absurd ((dK hmv).1 h).1 (by omega) | exact beq_iff_eq.trans ⟨fun h => (gX hmv hch).2 (by omega), fun h => by have := (gX hmv hch).1 h; omega⟩ | exact iff_of_true O ((dB hmv hch hop).2 ⟨by assumption, .inl (by show (jV (List.drop (Int.toNat 1) keys)).length = 0; omega)⟩) | exact decide_eq_true_iff.trans ⟨fun h => (dB hmv hch hop).2 ⟨by assumption, .inr ⟨by show (jV (List.drop (Int.toNat 1) keys)).length = 1; omega, h⟩⟩, fun h => ((dB hmv hch hop).1 h).2.elim (fun c => absurd c (by show ¬ (jV (List.drop (Int.toNat 1) keys)).length = 0; omega)) (fun c => c.2)⟩ | exact iff_of_false (by decide) fun h => ((dB hmv hch hop).1 h).2.elim (fun c => absurd c (by show ¬ (jV (List.drop (Int.toNat 1) keys)).length = 0; omega)) (fun c => absurd c.1 (by show ¬ (jV (List.drop (Int.toNat 1) keys)).length = 1; omega)) | exact iff_of_false (by decide) fun h => absurd ((dB hmv hch hop).1 h).1 (by assumption) | exact iff_of_false (by decide) (mW hmv hch hop), HJ⟩)
      ·(try simp only [aF] at h6)
       have hch := h6
       refine jW [(1, _), (5, _)] (fun (_ : Unit) => [(33, .bool (decide (n.toList = xu.toList ∨ n.toList = zZ.toList ∨ n.toList = BX.toList)))]) (fun (_ : Unit) W => V w0 W F) oO ?_ ?_
       ·rintro _ w7 HK
        dsimp only [List.cons_append, List.nil_append]
        refine bG O (fun h7 => ?_) (fun h7 => ?_)
        ·(try simp only [aF] at h7)
         have hop := h7
         refine bT O ?_
         obtain ⟨bv, ov, cv, ev⟩ := eX.nX (hr _ (HK)) (by omega)
         cases ev
         refine Z (dw ay bK O O (by omega)) ?_
         refine Z (dR (bV bf O) O (by first | exact eX.jT (hr _ (HK)) (by omega) | exact eX.rP (hr _ (HK)) (by omega) | exact eX.rO (hr _ (HK)) (by omega))) ?_
         refine eG O func50 (Du (s := Ya) (by decide)) ?_
         rintro _ _ ⟨rfl, rfl⟩
         refine iV O (fun h8 => ?_) (fun h8 => ?_)
         ·(try simp only [aF] at h8)
          refine bT O (Z (oQ (hr _ (HK)) ay bK O O O (by omega)) ?_)
          refine eG O func51 (KU HK (fun W HW => eX.from (hr _ (HW)) (by omega))) ?_
          rintro _ w9 ⟨kv9, rfl, Tf, H9⟩
          refine bQ O (uD O O (uD O O (fU O (gB O (aB (bQ O (Z (iF (Tf _ (H9)) ay O) (Z (dO O O) (jL O (fun h9 => ?_) (fun h9 => ?_))))))))))
          ·(try simp only [aF] at h9)
           refine bH (bH (bH (bH (kS (kS (kS (kS (bH (jw O O (fU O (bP (aJ ?_))))))))))))
           refine cO (_) kD (Sub.nil _) (by (try dsimp only); exact ⟨by first | exact decide_eq_true_iff.trans ⟨fun h => (dK hmv).2 ⟨by omega, h⟩, fun h => ((dK hmv).1 h).2⟩ | exact iff_of_false (by decide) fun h => absurd ((dK hmv).1 h).1 (by omega) | exact beq_iff_eq.trans ⟨fun h => (gX hmv hch).2 (by omega), fun h => by have := (gX hmv hch).1 h; omega⟩ | exact iff_of_true O ((dB hmv hch hop).2 ⟨by assumption, .inl (by show (jV (List.drop (Int.toNat 1) keys)).length = 0; omega)⟩) | exact decide_eq_true_iff.trans ⟨fun h => (dB hmv hch hop).2 ⟨by assumption, .inr ⟨by show (jV (List.drop (Int.toNat 1) keys)).length = 1; omega, h⟩⟩, fun h => ((dB hmv hch hop).1 h).2.elim (fun c => absurd c (by show ¬ (jV (List.drop (Int.toNat 1) keys)).length = 0; omega)) (fun c => c.2)⟩ | exact iff_of_false (by decide) fun h => ((dB hmv hch hop).1 h).2.elim (fun c => absurd c (by show ¬ (jV (List.drop (Int.toNat 1) keys)).length = 0; omega)) (fun c => absurd c.1 (by show ¬ (jV (List.drop (Int.toNat 1) keys)).length = 1; omega)) | exact iff_of_false (by decide) fun h => absurd ((dB hmv hch hop).1 h).1 (by assumption) | exact iff_of_false (by decide) (mW hmv hch hop), H9⟩)
          ·(try simp only [aF] at h9)
           refine bC (bQ O (bC (Z (iF (Tf _ (H9)) ay O) (bC (Z (dO O O) (bC (jL O (fun h10 => ?_) (fun h10 => ?_))))))))
           ·(try simp only [aF] at h10)
            refine bC (bQ O (bC ?_))
            obtain ⟨aeS, aeT, aeU, adn⟩ := eX.nX (Tf _ (H9)) (by omega)
            cases adn
            refine Z (dw ay bK O O (by omega)) (bC ?_)
            refine Z (dR (bV bf O) O (by first | exact eX.jT (Tf _ (H9)) (by omega) | exact eX.rP (Tf _ (H9)) (by omega) | exact eX.rO (Tf _ (H9)) (by omega))) ?_
            refine bC (eG O func50 (Du (s := Aa) (by decide)) ?_)
            rintro _ _ ⟨rfl, rfl⟩
            refine bC (jw O O (iJ O O (fU O (bP (aJ ?_)))))
            refine cO (_) kD (Sub.nil _) (by (try dsimp only); exact ⟨by first | exact decide_eq_true_iff.trans ⟨fun h => (dK hmv).2 ⟨by omega, h⟩, fun h => ((dK hmv).1 h).2⟩ | exact iff_of_false (by decide) fun h => absurd ((dK hmv).1 h).1 (by omega) | exact beq_iff_eq.trans ⟨fun h => (gX hmv hch).2 (by omega), fun h => by have := (gX hmv hch).1 h; omega⟩ | exact iff_of_true O ((dB hmv hch hop).2 ⟨by assumption, .inl (by show (jV (List.drop (Int.toNat 1) keys)).length = 0; omega)⟩) | exact decide_eq_true_iff.trans ⟨fun h => (dB hmv hch hop).2 ⟨by assumption, .inr ⟨by show (jV (List.drop (Int.toNat 1) keys)).length = 1; omega, h⟩⟩, fun h => ((dB hmv hch hop).1 h).2.elim (fun c => absurd c (by show ¬ (jV (List.drop (Int.toNat 1) keys)).length = 0; omega)) (fun c => c.2)⟩ | exact iff_of_false (by decide) fun h => ((dB hmv hch hop).1 h).2.elim (fun c => absurd c (by show ¬ (jV (List.drop (Int.toNat 1) keys)).length = 0; omega)) (fun c => absurd c.1 (by show ¬ (jV (List.drop (Int.toNat 1) keys)).length = 1; omega)) | exact iff_of_false (by decide) fun h => absurd ((dB hmv hch hop).1 h).1 (by assumption) | exact iff_of_false (by decide) (mW hmv hch hop), H9⟩)
           ·(try simp only [aF] at h10)
            refine bH (bH (bH (bH (bC (iJ O O (iJ O O (fU O (bP (aJ ?_)))))))))
            refine cO (_) kD (Sub.nil _) (by (try dsimp only); exact ⟨by first | exact decide_eq_true_iff.trans ⟨fun h => (dK hmv).2 ⟨by omega, h⟩, fun h => ((dK hmv).1 h).2⟩ | exact iff_of_false (by decide) fun h => absurd ((dK hmv).1 h).1 (by omega) | exact beq_iff_eq.trans ⟨fun h => (gX hmv hch).2 (by omega), fun h => by have := (gX hmv hch).1 h; omega⟩ | exact iff_of_true O ((dB hmv hch hop).2 ⟨by assumption, .inl (by show (jV (List.drop (Int.toNat 1) keys)).length = 0; omega)⟩) | exact decide_eq_true_iff.trans ⟨fun h => (dB hmv hch hop).2 ⟨by assumption, .inr ⟨by show (jV (List.drop (Int.toNat 1) keys)).length = 1; omega, h⟩⟩, fun h => ((dB hmv hch hop).1 h).2.elim (fun c => absurd c (by show ¬ (jV (List.drop (Int.toNat 1) keys)).length = 0; omega)) (fun c => c.2)⟩ | exact iff_of_false (by decide) fun h => ((dB hmv hch hop).1 h).2.elim (fun c => absurd c (by show ¬ (jV (List.drop (Int.toNat 1) keys)).length = 0; omega)) (fun c => absurd c.1 (by show ¬ (jV (List.drop (Int.toNat 1) keys)).length = 1; omega)) | exact iff_of_false (by decide) fun h => absurd ((dB hmv hch hop).1 h).1 (by assumption) | exact iff_of_false (by decide) (mW hmv hch hop), H9⟩)
         ·(try simp only [aF] at h8)
          refine bU (aJ ?_)
          refine cO (_) kD (Sub.nil _) (by (try dsimp only); exact ⟨by first | exact decide_eq_true_iff.trans ⟨fun h => (dK hmv).2 ⟨by omega, h⟩, fun h => ((dK hmv).1 h).2⟩ | exact iff_of_false (by decide) fun h => absurd ((dK hmv).1 h).1 (by omega) | exact beq_iff_eq.trans ⟨fun h => (gX hmv hch).2 (by omega), fun h => by have := (gX hmv hch).1 h; omega⟩ | exact iff_of_true O ((dB hmv hch hop).2 ⟨by assumption, .inl (by show (jV (List.drop (Int.toNat 1) keys)).length = 0; omega)⟩) | exact decide_eq_true_iff.trans ⟨fun h => (dB hmv hch hop).2 ⟨by assumption, .inr ⟨by show (jV (List.drop (Int.toNat 1) keys)).length = 1; omega, h⟩⟩, fun h => ((dB hmv hch hop).1 h).2.elim (fun c => absurd c (by show ¬ (jV (List.drop (Int.toNat 1) keys)).length = 0; omega)) (fun c => c.2)⟩ | exact iff_of_false (by decide) fun h => ((dB hmv hch hop).1 h).2.elim (fun c => absurd c (by show ¬ (jV (List.drop (Int.toNat 1) keys)).length = 0; omega)) (fun c => absurd c.1 (by show ¬ (jV (List.drop (Int.toNat 1) keys)).length = 1; omega)) | exact iff_of_false (by decide) fun h => absurd ((dB hmv hch hop).1 h).1 (by assumption) | exact iff_of_false (by decide) (mW hmv hch hop), HK⟩)
        ·(try simp only [aF] at h7)
         have hop := h7
         refine bU (aJ ?_)
         refine cO (_) kD (Sub.nil _) (by (try dsimp only); exact ⟨by first | exact decide_eq_true_iff.trans ⟨fun h => (dK hmv).2 ⟨by omega, h⟩, fun h => ((dK hmv).1 h).2⟩ | exact iff_of_false (by decide) fun h => absurd ((dK hmv).1 h).1 (by omega) | exact beq_iff_eq.trans ⟨fun h => (gX hmv hch).2 (by omega), fun h => by have := (gX hmv hch).1 h; omega⟩ | exact iff_of_true O ((dB hmv hch hop).2 ⟨by assumption, .inl (by show (jV (List.drop (Int.toNat 1) keys)).length = 0; omega)⟩) | exact decide_eq_true_iff.trans ⟨fun h => (dB hmv hch hop).2 ⟨by assumption, .inr ⟨by show (jV (List.drop (Int.toNat 1) keys)).length = 1; omega, h⟩⟩, fun h => ((dB hmv hch hop).1 h).2.elim (fun c => absurd c (by show ¬ (jV (List.drop (Int.toNat 1) keys)).length = 0; omega)) (fun c => c.2)⟩ | exact iff_of_false (by decide) fun h => ((dB hmv hch hop).1 h).2.elim (fun c => absurd c (by show ¬ (jV (List.drop (Int.toNat 1) keys)).length = 0; omega)) (fun c => absurd c.1 (by show ¬ (jV (List.drop (Int.toNat 1) keys)).length = 1; omega)) | exact iff_of_false (by decide) fun h => absurd ((dB hmv hch hop).1 h).1 (by assumption) | exact iff_of_false (by decide) (mW hmv hch hop), HK⟩)
       ·skip
        refine iy (Z (eF O O) (gB O (bG O (fun h11 => ?_) (fun h11 => ?_))))
        ·(try simp only [aF] at h11)
         have hop := h11
         refine bU ?_
         refine cO (()) ?_ ?_ ?_
         ·exact (Sub.iY O (by first | exact kZ (beq_iff_eq.2 (by assumption)) (.inl (by assumption)) | exact kZ (beq_iff_eq.2 (by assumption)) (.inr (.inl (by assumption))) | exact JH (by assumption) (by assumption) beq_iff_eq) (Sub.nil _))
         ·exact oO
         ·(try dsimp only)
          first | done | exact HJ
        ·(try simp only [aF] at h11)
         have hop := h11
         refine iy (Z (eF O O) (gB O (bG O (fun h12 => ?_) (fun h12 => ?_))))
         ·(try simp only [aF] at h12)
          have hop := h12
          refine bU ?_
          refine cO (()) ?_ ?_ ?_
          ·exact (Sub.iY O (by first | exact kZ (beq_iff_eq.2 (by assumption)) (.inl (by assumption)) | exact kZ (beq_iff_eq.2 (by assumption)) (.inr (.inl (by assumption))) | exact JH (by assumption) (by assumption) beq_iff_eq) (Sub.nil _))
          ·exact oO
          ·(try dsimp only)
           first | done | exact HJ
         ·(try simp only [aF] at h12)
          have hop := h12
          refine aB (Z (eF O O) (fU O (bP ?_)))
          refine cO (()) ?_ ?_ ?_
          ·exact (Sub.iY O (by first | exact kZ (beq_iff_eq.2 (by assumption)) (.inl (by assumption)) | exact kZ (beq_iff_eq.2 (by assumption)) (.inr (.inl (by assumption))) | exact JH (by assumption) (by assumption) beq_iff_eq) (Sub.nil _))
          ·exact oO
          ·(try dsimp only)
           first | done | exact HJ
     ·skip
      refine iy (Z (eF O O) (gB O (bG O (fun h13 => ?_) (fun h13 => ?_))))
      ·(try simp only [aF] at h13)
       have hch := h13
       refine bU ?_
       refine cO (()) ?_ ?_ ?_
       ·exact (Sub.iY O (by first | exact kZ (beq_iff_eq.2 (by assumption)) (.inl (by assumption)) | exact Rf (by assumption) beq_iff_eq) (Sub.nil _))
       ·exact uF
       ·(try dsimp only)
        first | done | exact OC
      ·(try simp only [aF] at h13)
       have hch := h13
       refine aB (Z (eF O O) (fU O (bP ?_)))
       refine cO (()) ?_ ?_ ?_
       ·exact (Sub.iY O (by first | exact kZ (beq_iff_eq.2 (by assumption)) (.inl (by assumption)) | exact Rf (by assumption) beq_iff_eq) (Sub.nil _))
       ·exact uF
       ·(try dsimp only)
        first | done | exact OC
theorem PY (H : V w0 w F) (hr : jM w0 F .i32 v keys) : gQ prog 17 #[.string n, v] w fun u w' => u = .int .i64 (nJ n keys) ∧ V w0 w' F := by
 have Ug : keys.length ≤ 9223372036854775807 := by have := (hr _ H).open; obtain ⟨a, c, e, h3, h4, _⟩ := this; omega
 refine nH func17 ntmps17 ?_
 refine jk O (aO (bT O (eG O func52 (PX H) ?_)))
 rintro _ w1 ⟨b1, rfl, hb1, H1⟩
 refine Z (lS O) (iV O (fun h1 => ?_) (fun h1 => ?_))
 ·(try simp only [aF] at h1)
  have hkn : ¬ wG n := fun hc => by have h9 := hb1.2 hc; rw [h1] at h9; exact absurd h9 (by decide)
  refine jd O (aG (dG ku O ?_))
  exact ⟨by rw [JG hkn], H1⟩
 ·(try simp only [aF] at h1)
  have hkn : wG n := hb1.1 h1
  refine fV (aO (bT O (Z (iF (hr _ (H1)) ay O) (Z (dO O O) (iV O (fun h2 => ?_) (fun h2 => ?_))))))
  ·(try simp only [aF] at h2)
   refine jd O (aG (dG ku O ?_))
   exact ⟨by rw [Nu hkn (by omega)], H1⟩
  ·(try simp only [aF] at h2)
   refine fV (aO (aO ?_))
   have hk0 : ¬ keys.length = 0 := by omega
   refine aB (bQ O (iK (aZ (iy (Z (eF O O) (gB O (bG O (fun h3 => ?_) (fun h3 => ?_))))))))
   ·(try simp only [aF] at h3)
    have hmv : n.toList = qB.toList := h3
    refine bT O (Z (iF (hr _ (H1)) ay O) (Z (dO O O) (jL O (fun h4 => ?_) (fun h4 => ?_))))
    ·(try simp only [aF] at h4)
     refine bC (bQ O (bC ?_))
     obtain ⟨bv, ov, cv, ev⟩ := eX.nX (hr _ (H1)) (by omega)
     cases ev
     refine Z (dw ay bK O O (by omega)) (bC ?_)
     refine Z (dR (bV bf O) O (by first | exact eX.jT (hr _ (H1)) (by omega) | exact eX.rP (hr _ (H1)) (by omega) | exact eX.rO (hr _ (H1)) (by omega))) ?_
     refine bC (eG O func53 (KW (s := Aa) H1 (by kernel_rfl) (by decide)) ?_)
     rintro _ w2 ⟨rfl, H2⟩
     refine jw O O (iV O (fun h5 => ?_) (fun h5 => ?_))
     ·(try simp only [aF] at h5)
      refine jd O (aS (aG (dG ku O ?_)))
      exact ⟨by rw [yE hkn ((dK hmv).2 ⟨by omega, by assumption⟩)], H2⟩
     ·(try simp only [aF] at h5)
      refine bU (aJ (aW (jd O (dG ku O ?_))))
      have hnm : ¬ rJ n keys := by first | exact mW hmv hch hop | exact fun h => absurd ((dK hmv).1 h).2 (by assumption) | exact fun h => absurd ((dK hmv).1 h).1 (by omega) | exact fun h => absurd ((gX hmv hch).1 h) (by omega) | exact fun h => ((dB hmv hch hop).1 h).2.elim (fun c => absurd c (by omega)) (fun c => absurd c.2 (by assumption)) | exact fun h => ((dB hmv hch hop).1 h).2.elim (fun c => absurd c (by omega)) (fun c => absurd c.1 (by omega))
      exact ⟨by rw [qC hkn hk0 hnm], H2⟩
    ·(try simp only [aF] at h4)
     refine bH (bH (bH (bH (iJ O O (iK (pW (bU (aJ (aW (jd O (dG ku O ?_)))))))))))
     have hnm : ¬ rJ n keys := by first | exact mW hmv hch hop | exact fun h => absurd ((dK hmv).1 h).2 (by assumption) | exact fun h => absurd ((dK hmv).1 h).1 (by omega) | exact fun h => absurd ((gX hmv hch).1 h) (by omega) | exact fun h => ((dB hmv hch hop).1 h).2.elim (fun c => absurd c (by omega)) (fun c => absurd c.2 (by assumption)) | exact fun h => ((dB hmv hch hop).1 h).2.elim (fun c => absurd c (by omega)) (fun c => absurd c.1 (by omega))
     exact ⟨by rw [qC hkn hk0 hnm], H1⟩
   ·(try simp only [aF] at h3)
    have hmv : ¬ n.toList = qB.toList := h3
    refine jW [(1, _), (13, _)] (fun (_ : Unit) => [(25, .bool (decide (n.toList = zY.toList ∨ n.toList = BU.toList)))]) (fun (_ : Unit) W => V w0 W F) oO ?_ ?_
    ·rintro _ w3 HJ
     dsimp only [List.cons_append, List.nil_append]
     refine bG O (fun h6 => ?_) (fun h6 => ?_)
     ·(try simp only [aF] at h6)
      have hch := h6
      refine bT O (Z (iF (hr _ (HJ)) ay O) (Z (dO O O) (iV O (fun h7 => ?_) (fun h7 => ?_))))
      ·(try simp only [aF] at h7)
       refine jd O (aS (aG (dG ku O ?_)))
       exact ⟨by rw [yE hkn ((gX hmv hch).2 (by omega))], HJ⟩
      ·(try simp only [aF] at h7)
       refine bU (aJ (aW (jd O (dG ku O ?_))))
       have hnm : ¬ rJ n keys := by first | exact mW hmv hch hop | exact fun h => absurd ((dK hmv).1 h).2 (by assumption) | exact fun h => absurd ((dK hmv).1 h).1 (by omega) | exact fun h => absurd ((gX hmv hch).1 h) (by omega) | exact fun h => ((dB hmv hch hop).1 h).2.elim (fun c => absurd c (by omega)) (fun c => absurd c.2 (by assumption)) | exact fun h => ((dB hmv hch hop).1 h).2.elim (fun c => absurd c (by omega)) (fun c => absurd c.1 (by omega))
       exact ⟨by rw [qC hkn hk0 hnm], HJ⟩
     ·(try simp only [aF] at h6)
      have hch := h6
      refine jW [(1, _)] (fun (_ : Unit) => [(31, .bool (decide (n.toList = xu.toList ∨ n.toList = zZ.toList ∨ n.toList = BX.toList)))]) (fun (_ : Unit) W => V w0 W F) kD ?_ ?_
      ·rintro _ w4 HK
       dsimp only [List.cons_append, List.nil_append]
       refine bG O (fun h8 => ?_) (fun h8 => ?_)
       ·(try simp only [aF] at h8)
        have hop := h8
        refine aO (bT O ?_)
        obtain ⟨bv, ov, cv, ev⟩ := eX.nX (hr _ (HK)) (by omega)
        cases ev
        refine Z (dw ay bK O O (by omega)) ?_
        refine Z (dR (bV bf O) O (by first | exact eX.jT (hr _ (HK)) (by omega) | exact eX.rP (hr _ (HK)) (by omega) | exact eX.rO (hr _ (HK)) (by omega))) ?_
        refine eG O func53 (KW (s := Ya) HK (by kernel_rfl) (by decide)) ?_
        rintro _ w5 ⟨rfl, H5⟩
        refine Z (lS O) (iV O (fun h9 => ?_) (fun h9 => ?_))
        ·(try simp only [aF] at h9)
         refine jd O (aG (aS (aG (dG ku O ?_))))
         exact ⟨by rw [qC hkn hk0 (fun h => absurd ((dB hmv hch hop).1 h).1 (by assumption))], H5⟩
        ·(try simp only [aF] at h9)
         refine fV (bT O (eG O func54 (SY H5 (fun W HW => hr _ (HW)) (by omega)) ?_))
         rintro _ w6 ⟨kv6, rfl, Ti, H6⟩
         refine bQ O (uD O O (uD O O (fU O (gB O (bT O (Z (iF (Ti _ (H6)) ay O) (Z (dO O O) (jL O (fun h10 => ?_) (fun h10 => ?_)))))))))
         ·(try simp only [aF] at h10)
          refine bH (bH (bH (bH (kS (kS (kS (kS (bH (jw O O (iK (Iz (jd O (aS (aG (dG ku O ?_)))))))))))))))
          exact ⟨by rw [yE hkn ((dB hmv hch hop).2 ⟨by assumption, by first | exact .inl (by omega) | exact .inr ⟨by omega, by assumption⟩⟩)], H6⟩
         ·(try simp only [aF] at h10)
          refine bC (bQ O (bC (Z (iF (Ti _ (H6)) ay O) (bC (Z (dO O O) (bC (jL O (fun h11 => ?_) (fun h11 => ?_))))))))
          ·(try simp only [aF] at h11)
           refine bC (bQ O (bC ?_))
           obtain ⟨aeV, aeW, aeX, ado⟩ := eX.nX (Ti _ (H6)) (by omega)
           cases ado
           refine Z (dw ay bK O O (by omega)) (bC ?_)
           refine Z (dR (bV bf O) O (by first | exact eX.jT (Ti _ (H6)) (by omega) | exact eX.rP (Ti _ (H6)) (by omega) | exact eX.rO (Ti _ (H6)) (by omega))) ?_
           refine bC (eG O func53 (KW (s := Aa) H6 (by kernel_rfl) (by decide)) ?_)
           rintro _ w7 ⟨rfl, H7⟩
           refine bC (jw O O (iJ O O (iV O (fun h12 => ?_) (fun h12 => ?_))))
           ·(try simp only [aF] at h12)
            refine jd O (aS (aG (dG ku O ?_)))
            exact ⟨by rw [yE hkn ((dB hmv hch hop).2 ⟨by assumption, by first | exact .inl (by omega) | exact .inr ⟨by omega, by assumption⟩⟩)], H7⟩
           ·(try simp only [aF] at h12)
            refine bU (aJ (aW (jd O (dG ku O ?_))))
            have hnm : ¬ rJ n keys := by first | exact mW hmv hch hop | exact fun h => absurd ((dK hmv).1 h).2 (by assumption) | exact fun h => absurd ((dK hmv).1 h).1 (by omega) | exact fun h => absurd ((gX hmv hch).1 h) (by omega) | exact fun h => ((dB hmv hch hop).1 h).2.elim (fun c => absurd c (by omega)) (fun c => absurd c.2 (by assumption)) | exact fun h => ((dB hmv hch hop).1 h).2.elim (fun c => absurd c (by omega)) (fun c => absurd c.1 (by omega))
            exact ⟨by rw [qC hkn hk0 hnm], H7⟩
          ·(try simp only [aF] at h11)
           refine bH (bH (bH (bH (bC (iJ O O (iJ O O (iK (pW (bU (aJ (aW (jd O (dG ku O ?_)))))))))))))
           have hnm : ¬ rJ n keys := by first | exact mW hmv hch hop | exact fun h => absurd ((dK hmv).1 h).2 (by assumption) | exact fun h => absurd ((dK hmv).1 h).1 (by omega) | exact fun h => absurd ((gX hmv hch).1 h) (by omega) | exact fun h => ((dB hmv hch hop).1 h).2.elim (fun c => absurd c (by omega)) (fun c => absurd c.2 (by assumption)) | exact fun h => ((dB hmv hch hop).1 h).2.elim (fun c => absurd c (by omega)) (fun c => absurd c.1 (by omega))
           exact ⟨by rw [qC hkn hk0 hnm], H6⟩
       ·(try simp only [aF] at h8)
        have hop := h8
        refine bU (aJ (aW (jd O (dG ku O ?_))))
        have hnm : ¬ rJ n keys := by first | exact mW hmv hch hop | exact fun h => absurd ((dK hmv).1 h).2 (by assumption) | exact fun h => absurd ((dK hmv).1 h).1 (by omega) | exact fun h => absurd ((gX hmv hch).1 h) (by omega) | exact fun h => ((dB hmv hch hop).1 h).2.elim (fun c => absurd c (by omega)) (fun c => absurd c.2 (by assumption)) | exact fun h => ((dB hmv hch hop).1 h).2.elim (fun c => absurd c (by omega)) (fun c => absurd c.1 (by omega))
        exact ⟨by rw [qC hkn hk0 hnm], HK⟩
      ·skip
       refine iy (Z (eF O O) (gB O (bG O (fun h13 => ?_) (fun h13 => ?_))))
       ·(try simp only [aF] at h13)
        have hop := h13
        refine bU ?_
        refine cO (()) ?_ ?_ ?_
        ·exact (Sub.iY O (by first | exact kZ (beq_iff_eq.2 (by assumption)) (.inl (by assumption)) | exact kZ (beq_iff_eq.2 (by assumption)) (.inr (.inl (by assumption))) | exact JH (by assumption) (by assumption) beq_iff_eq) (Sub.nil _))
        ·exact kD
        ·(try dsimp only)
         first | done | exact HJ
       ·(try simp only [aF] at h13)
        have hop := h13
        refine iy (Z (eF O O) (gB O (bG O (fun h14 => ?_) (fun h14 => ?_))))
        ·(try simp only [aF] at h14)
         have hop := h14
         refine bU ?_
         refine cO (()) ?_ ?_ ?_
         ·exact (Sub.iY O (by first | exact kZ (beq_iff_eq.2 (by assumption)) (.inl (by assumption)) | exact kZ (beq_iff_eq.2 (by assumption)) (.inr (.inl (by assumption))) | exact JH (by assumption) (by assumption) beq_iff_eq) (Sub.nil _))
         ·exact kD
         ·(try dsimp only)
          first | done | exact HJ
        ·(try simp only [aF] at h14)
         have hop := h14
         refine aB (Z (eF O O) (fU O (bP ?_)))
         refine cO (()) ?_ ?_ ?_
         ·exact (Sub.iY O (by first | exact kZ (beq_iff_eq.2 (by assumption)) (.inl (by assumption)) | exact kZ (beq_iff_eq.2 (by assumption)) (.inr (.inl (by assumption))) | exact JH (by assumption) (by assumption) beq_iff_eq) (Sub.nil _))
         ·exact kD
         ·(try dsimp only)
          first | done | exact HJ
    ·skip
     refine iy (Z (eF O O) (gB O (bG O (fun h15 => ?_) (fun h15 => ?_))))
     ·(try simp only [aF] at h15)
      have hch := h15
      refine bU ?_
      refine cO (()) ?_ ?_ ?_
      ·exact (Sub.iY O (by first | exact kZ (beq_iff_eq.2 (by assumption)) (.inl (by assumption)) | exact Rf (by assumption) beq_iff_eq) (Sub.nil _))
      ·exact oO
      ·(try dsimp only)
       first | done | exact H1
     ·(try simp only [aF] at h15)
      have hch := h15
      refine aB (Z (eF O O) (fU O (bP ?_)))
      refine cO (()) ?_ ?_ ?_
      ·exact (Sub.iY O (by first | exact kZ (beq_iff_eq.2 (by assumption)) (.inl (by assumption)) | exact Rf (by assumption) beq_iff_eq) (Sub.nil _))
      ·exact oO
      ·(try dsimp only)
       first | done | exact H1
end
end Go.Proofs.YtpdeedplgmbopaaGreatDoor
end
