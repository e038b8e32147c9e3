import Derived.Test.YtpdeedplgmbopaaGreatDoorZ4
import Derived.Test.YtpdeedplgmbopaaGreatDoorZ14
import Derived.Test.YtpdeedplgmbopaaGreatDoorZ2
set_option linter.unusedSimpArgs false
set_option linter.unusedVariables false
/- Texts of mine, joined, their names in short: EdS2 EdS3 FieldVal. -/
section
namespace Go.Proofs.YtpdeedplgmbopaaGreatDoor
open Go.RowKit
open _root_.Go.Proofs.Tryz
theorem NU {D : List Int} {P : Int → Nat} {k : Int} (h : (He D P k).isSome = true) : k ∈ D := by
  unfold He at h
  split at h
  · assumption
  · cases h
theorem Ld {D : List Int} {P : Int → Nat} {k : Int} (h : (He D P k).isSome = false) : k ∉ D := by
  unfold He at h
  split at h
  · cases h
  · assumption
def Rw (x : Int × ByteArray) : List Value := [.int .i64 x.1, .string x.2]
theorem NV {hl : List pO} {tx : Int → Option ByteArray} {place : Int} {i : Nat} (h : Az hl tx place i = true) : pR hl tx place (i + 1) = pR hl tx place i ++ [((i : Int), jq hl tx i)] := by
  unfold pR; rw [List.range_succ, List.filter_append, List.map_append]; simp [List.filter, h]
theorem Hu {hl : List pO} {tx : Int → Option ByteArray} {place : Int} {i : Nat} (h : Az hl tx place i = false) : pR hl tx place (i + 1) = pR hl tx place i := by
  unfold pR; rw [List.range_succ, List.filter_append, List.map_append]; simp [List.filter, h]
theorem uh (hl : List pO) (tx : Int → Option ByteArray) (place : Int) (i : Nat) : (pR hl tx place i).length ≤ i := by
  unfold pR; rw [List.length_map]
  exact Nat.le_trans (List.length_filter_le _ _) (by simp)
def xA (E : List (List Int)) (a : Nat) : List (List Int) := E.drop a ++ E.take a
def Wn (n a i : Nat) : Nat := if i = 0 then a else (a + (i - 1)) % n
theorem Tz {n a i : Nat} : D7 n (Wn n a i) (min (i : Int) 1) = Wn n a (i + 1) := by
  cases i with
  | zero =>
    show (((a : Int) + min ((0 : Nat) : Int) 1) % (n : Int)).toNat = (a + (0 + 1 - 1)) % n
    rw [show min ((0 : Nat) : Int) 1 = 0 by omega, Int.add_zero, show ((a : Int) % (n : Int)) = ((a % n : Nat) : Int) from rfl, Int.toNat_natCast]
    rfl
  | succ j =>
    show (((((a + (j + 1 - 1)) % n : Nat) : Int) + min ((j + 1 : Nat) : Int) 1) % (n : Int)).toNat = (a + (j + 1 + 1 - 1)) % n
    rw [show min ((j + 1 : Nat) : Int) 1 = ((1 : Nat) : Int) by omega, show ((((a + (j + 1 - 1)) % n : Nat) : Int) + ((1 : Nat) : Int)) % (n : Int) = ((((a + (j + 1 - 1)) % n + 1) % n : Nat) : Int) from rfl, Int.toNat_natCast, Nat.mod_add_mod]
    congr 1
theorem TA {E : List (List Int)} {a i : Nat} (h : i < E.length) (ha : a < E.length) : (xA E a).getD i [] = E.getD (Wn E.length a (i + 1)) [] := by
  unfold xA Wn
  rw [if_neg (by omega), Nat.add_sub_cancel, List.getD_eq_getElem?_getD, List.getD_eq_getElem?_getD]
  by_cases hi : i < E.length - a
  · rw [List.getElem?_append_left (by simpa using hi), List.getElem?_drop, Nat.mod_eq_of_lt (by omega)]
  · rw [List.getElem?_append_right (by simpa using hi), List.length_drop, List.getElem?_take, if_pos (by omega)]
    have : (a + i) % E.length = i - (E.length - a) := by
      rw [show a + i = (i - (E.length - a)) + E.length by omega, Nat.add_mod_right, Nat.mod_eq_of_lt (by omega)]
    rw [this]
theorem Hw {α : Type _} {l : List α} {k : Nat} {d : α} (h : k < l.length) : l.take (k + 1) = l.take k ++ [l.getD k d] := by rw [List.take_succ_eq_append_getElem h, List.getD_eq_getElem?_getD, List.getElem?_eq_getElem h]; rfl
theorem JM (E : List (List Int)) (a : Nat) : (xA E a).length = E.length := by unfold xA; simp; omega
section
variable {w0 w : World} {F : HP} {e p ph pw pt pr pm pb : Nat} {s : dJ} {k x place : Int} {hl : List pO} {base most cls : Int} {tx : Int → Option ByteArray} {v pv : Value} {U : Int → List (List iU)} {put : List iU} {xs : List Value} {inn run whole : Bool} {E : List (List Int)} {a : Nat} {L : List Int} {pnt mk : Int}
theorem Af {x0 x1 x2 x3 x4 x5 x6 x7 x8 x9 x10 x12 uO x14 x15 x16 x17 x18 x19 x20 x21 vI x23 x24 x25 wo x27 x28 x29 x30 x31 x32 wX : Value} (H : V w0 w (dM e (.cells (x0 :: x1 :: x2 :: x3 :: x4 :: x5 :: x6 :: x7 :: x8 :: x9 :: x10 :: .pointer (some ⟨ph, 0, none⟩) :: x12 :: uO :: x14 :: x15 :: x16 :: x17 :: x18 :: x19 :: x20 :: x21 :: vI :: x23 :: x24 :: x25 :: wo :: x27 :: x28 :: x29 :: x30 :: x31 :: x32 :: wX :: []).toArray 82 (0, 0)) • F)) : gQ prog 65 #[.pointer (some ⟨e, 0, none⟩)] w fun v w' => v = .bool false ∧ w = w' := by
  refine iC func65 ntmps65 ?_
  refine jk O (bT O (Z (iT kH O O) (jL O (fun h1 => ?_) (fun h1 => ?_))))
  · (try simp only [aF] at h1)
    exfalso; first | contradiction | omega
  · (try simp only [aF] at h1)
    refine bC (bQ O (bC (dL O (bC (bF 11 ah O sizeOf78 O (bC (gq jO O (H).get.2 O (bC (Z (iT jO O O) (iJ O O (fF O (dG results65 O ?_))))))))))))
    exact ⟨O, O⟩
theorem qE {x0 x1 x4 x5 x6 x7 x8 x9 x11 x12 uO x14 x15 x17 x18 x19 x20 x21 vI x23 x24 x25 wo x27 x29 x30 x31 : Value} (H : V w0 w (dM e (.cells (x0 :: x1 :: .pointer (some ⟨pw, 0, none⟩) :: .map (some pm) :: x4 :: x5 :: x6 :: x7 :: x8 :: x9 :: .bool run :: x11 :: x12 :: uO :: x14 :: x15 :: .bool inn :: x17 :: x18 :: x19 :: x20 :: x21 :: vI :: x23 :: x24 :: x25 :: wo :: x27 :: .int .i64 cls :: x29 :: x30 :: x31 :: .bool whole :: pv :: []).toArray 82 (0, 0)) • dM pw (.cells #[.int .i64 k, .map (some pt)] 122 (0, 0)) • wR pm U • Row 189 3 pv put.length xs • F)) (hU : (U k).length ≤ 16384) :
    gQ prog 67 #[.pointer (some ⟨e, 0, none⟩)] w fun v' w' => v' = .int .i64 (qx (U k) inn put (cls == 3 && whole) run) ∧
      V w0 w' (dM e (.cells (x0 :: x1 :: .pointer (some ⟨pw, 0, none⟩) :: .map (some pm) :: x4 :: x5 :: x6 :: x7 :: x8 :: x9 :: .bool run :: x11 :: x12 :: uO :: x14 :: x15 :: .bool inn :: x17 :: x18 :: x19 :: x20 :: x21 :: vI :: x23 :: x24 :: x25 :: wo :: x27 :: .int .i64 cls :: x29 :: x30 :: x31 :: .bool whole :: pv :: []).toArray 82 (0, 0)) • dM pw (.cells #[.int .i64 k, .map (some pt)] 122 (0, 0)) • wR pm U • Row 189 3 pv put.length xs • F) := by
  refine iC func67 ntmps67 ?_
  refine jk O (jk O ?_)
  refine jW [(0, _)] (fun (_ : Unit) => [(3, .int .i64 ((U k).length : Int))]) (fun (_ : Unit) W => V w0 W (dM e (.cells (x0 :: x1 :: .pointer (some ⟨pw, 0, none⟩) :: .map (some pm) :: x4 :: x5 :: x6 :: x7 :: x8 :: x9 :: .bool run :: x11 :: x12 :: uO :: x14 :: x15 :: .bool inn :: x17 :: x18 :: x19 :: x20 :: x21 :: vI :: x23 :: x24 :: x25 :: wo :: x27 :: .int .i64 cls :: x29 :: x30 :: x31 :: .bool whole :: pv :: []).toArray 82 (0, 0)) • dM pw (.cells #[.int .i64 k, .map (some pt)] 122 (0, 0)) • wR pm U • Row 189 3 pv put.length xs • F)) kD ?_ ?_
  · rintro _ w1 HJ
    dsimp only [List.cons_append, List.nil_append]
    refine aO (bT O (dL O (bF 16 ah O aQ O (gq bM O (HJ).get.2 O (jL O (fun h1 => ?_) (fun h1 => ?_))))))
    · (try simp only [aF] at h1)
      have hin := h1
      refine bC (bQ O (bC (dL O (bC (bF 33 ah O bJ O (bC (gq aV O (HJ).get.2 O (bC (Z (iW ((HJ.f4).aT) aV O) (bC (Z (jc O O) (jw O O (jL O (fun h2 => ?_) (fun h2 => ?_))))))))))))))
      · (try simp only [aF] at h2)
        have hno : put.isEmpty = false := by rw [oJ]; exact decide_eq_false (by omega)
        refine bC (bQ O (bC (dL O (bC (bF 28 ah O aj O (bC (gq aN O (HJ).get.2 O (bC (Z (dO O O) (bC (jL O (fun h3 => ?_) (fun h3 => ?_))))))))))))
        · (try simp only [aF] at h3)
          have hcl := h3
          refine bC (bQ O (bC (dL O (bC (bF 32 ah O aQ O (bC (gq bM O (HJ).get.2 O (bC (jw O O (bC (jL O (fun h4 => ?_) (fun h4 => ?_))))))))))))
          · (try simp only [aF] at h4)
            have hwh := h4
            refine bC (bQ O (bC (dL O (bC (bF 0 ah O aU O (bC (bF 10 aH O aQ O (bC (gq bM O (HJ).get.2 O (bC (jw O O (bC (Z (lS O) (jw O O (iV O (fun h5 => ?_) (fun h5 => ?_))))))))))))))))
            · (try simp only [aF] at h5)
              have hrn := h5
              refine aB (bQ O (Z (fK O O (by omega)) (gB O (bT O (fF O (dG results67 O ?_))))))
              refine ⟨?_, HJ.f4.f4.f4.f4⟩
              congr 1
              unfold qx
              first
                | exact absurd hrn (by decide)
                | (simp [hin]; done)
                | (simp [hin, hno]; done)
                | (simp [hin, hno, hcl]; done)
                | (simp [hin, hno, hcl, hwh]; done)
                | (simp [hin, hno, hcl, hwh, hrn]; done)
            · (try simp only [aF] at h5)
              have hrn := h5
              refine fV (bT O (fF O (dG results67 O ?_)))
              refine ⟨?_, HJ.f4.f4.f4.f4⟩
              congr 1
              unfold qx
              first
                | exact absurd hrn (by decide)
                | (simp [hin]; done)
                | (simp [hin, hno]; done)
                | (simp [hin, hno, hcl]; done)
                | (simp [hin, hno, hcl, hwh]; done)
                | (simp [hin, hno, hcl, hwh, hrn]; done)
          · (try simp only [aF] at h4)
            have hwh := h4
            refine bH (bH (bH (bH (bH (bC (iJ O O (bC (Z (lS O) (jw O O (iV O (fun h6 => ?_) (fun h6 => ?_)))))))))))
            · (try simp only [aF] at h6)
              have hrn := h6
              refine aB (bQ O (Z (fK O O (by omega)) (gB O (bT O (fF O (dG results67 O ?_))))))
              refine ⟨?_, HJ.f4.f4.f4.f4⟩
              congr 1
              unfold qx
              first
                | exact absurd hrn (by decide)
                | (simp [hin]; done)
                | (simp [hin, hno]; done)
                | (simp [hin, hno, hcl]; done)
                | (simp [hin, hno, hcl, hwh]; done)
                | (simp [hin, hno, hcl, hwh, hrn]; done)
            · (try simp only [aF] at h6)
              have hrn := h6
              refine fV (bT O (fF O (dG results67 O ?_)))
              refine ⟨?_, HJ.f4.f4.f4.f4⟩
              congr 1
              unfold qx
              first
                | exact absurd hrn (by decide)
                | (simp [hin]; done)
                | (simp [hin, hno]; done)
                | (simp [hin, hno, hcl]; done)
                | (simp [hin, hno, hcl, hwh]; done)
                | (simp [hin, hno, hcl, hwh, hrn]; done)
        · (try simp only [aF] at h3)
          have hcl := h3
          refine bH (bH (bH (bH (bC (iJ O O (bC (bQ O (bH (bH (bH (bH (bH (bC (iJ O O (bC (Z (lS O) (jw O O (iV O (fun h7 => ?_) (fun h7 => ?_)))))))))))))))))))
          · (try simp only [aF] at h7)
            have hrn := h7
            refine aB (bQ O (Z (fK O O (by omega)) (gB O (bT O (fF O (dG results67 O ?_))))))
            refine ⟨?_, HJ.f4.f4.f4.f4⟩
            congr 1
            unfold qx
            first
              | exact absurd hrn (by decide)
              | (simp [hin]; done)
              | (simp [hin, hno]; done)
              | (simp [hin, hno, hcl]; done)
              | (simp [hin, hno, hcl, hwh]; done)
              | (simp [hin, hno, hcl, hwh, hrn]; done)
          · (try simp only [aF] at h7)
            have hrn := h7
            refine fV (bT O (fF O (dG results67 O ?_)))
            refine ⟨?_, HJ.f4.f4.f4.f4⟩
            congr 1
            unfold qx
            first
              | exact absurd hrn (by decide)
              | (simp [hin]; done)
              | (simp [hin, hno]; done)
              | (simp [hin, hno, hcl]; done)
              | (simp [hin, hno, hcl, hwh]; done)
              | (simp [hin, hno, hcl, hwh, hrn]; done)
      · (try simp only [aF] at h2)
        have hno : put.isEmpty = true := by rw [oJ]; exact decide_eq_true (by omega)
        refine bH (bH (bH (bH (bH (bH (kS (kS (kS (kS (bH (bH (kS (kS (kS (kS (kS (bH (bH (iJ O O (iK (pW (fV (bT O (fF O (dG results67 O ?_)))))))))))))))))))))))))
        refine ⟨?_, HJ.f4.f4.f4.f4⟩
        congr 1
        unfold qx
        first
          | exact absurd hrn (by decide)
          | (simp [hin]; done)
          | (simp [hin, hno]; done)
          | (simp [hin, hno, hcl]; done)
          | (simp [hin, hno, hcl, hwh]; done)
          | (simp [hin, hno, hcl, hwh, hrn]; done)
    · (try simp only [aF] at h1)
      have hin := h1
      refine bH (bH (bH (bH (bH (bH (iJ O O (bQ O (bH (bH (bH (bH (bH (bH (kS (kS (kS (kS (bH (bH (kS (kS (kS (kS (kS (bH (bH (iJ O O (iK (pW (fV (bT O (fF O ?_))))))))))))))))))))))))))))))))
      refine dG results67 O ?_
      refine ⟨?_, HJ.f4.f4.f4.f4⟩
      congr 1
      unfold qx
      first
        | exact absurd hrn (by decide)
        | (simp [hin]; done)
        | (simp [hin, hno]; done)
        | (simp [hin, hno, hcl]; done)
        | (simp [hin, hno, hcl, hwh]; done)
        | (simp [hin, hno, hcl, hwh, hrn]; done)
  · skip
    refine aO ?_
    obtain ⟨D, P, hD1, hD2, HU⟩ := (H.f3).X0
    have Qi := HU.drew
    have lU := V.kp (Qi.f5.f5.f5.f5.f5)
    refine yj [4, 9, 12, 13] lU O (jE 0 O lU O (kJ 1 O lU O (gU 2 O lU 0 ah O aU O (gU 3 O lU 3 aH O sizeOf75 O (jQ 4 O lU (fun W hW => kC kG O ((Kp.h hW).f3).get.2 O) (jE 5 O lU O (kJ 6 O lU O (gU 7 O lU 0 ah O aU O (gU 8 O lU 2 aH O sizeOf74 O (jQ 9 O lU (fun W hW => kC kF O ((Kp.h hW).f3).get.2 O) (kJ 10 O lU O (gU 11 O lU 0 fB O aj O (jQ 12 O lU (fun W hW => kC aN O ((Kp.h hW).f4).get.2 O) (jQ 13 O lU (fun W hW => DY (MW ((Kp.h hW)) kG aN zeroValue184 O O) (Rh D P k)) (jC 14 O lU (fun _ => dQ O) (qR (aW (bT O (Z (OI underlying184 O O) (iV O (fun h8 => ?_) (fun h8 => ?_)))))))))))))))))))))
    · (try simp only [aF] at h8)
      have hmem := NU h8
      rw [NC hmem]
      have HF := Qi.f2
      rw [qP hmem] at HF
      have HF2 := HF.flat
      refine aB (bQ O (eG O func120 (KF HF2) ?_))
      rintro _ w2 ⟨rfl, H2⟩
      have SE := H2.f2.f2
      have QO := V.of_eq SE (by rw [← bZ, ← qP hmem])
      have ZP := QO.f2
      have ZQ := V.AB hD1 hD2 ZP
      refine fU O (bP ?_)
      refine cO (()) ?_ ?_ ?_
      · exact (Sub.iY O (by first | (rw [hD2 _ hnm]; rfl) | (simp; done)) (Sub.nil _))
      · exact kD
      · (try dsimp only)
        first | done | exact ZQ.f4.f2.f4.f4
    · (try simp only [aF] at h8)
      have hnm := Ld h8
      have U6 := Qi.f2.f2
      have U7 := V.AB hD1 hD2 U6
      refine bU ?_
      refine cO (()) ?_ ?_ ?_
      · exact (Sub.iY O (by first | (rw [hD2 _ hnm]; rfl) | (simp; done)) (Sub.nil _))
      · exact kD
      · (try dsimp only)
        first | done | exact U7.f4.f2.f4.f4
theorem y5 {x0 x2 x3 x4 x5 x6 x7 x8 x9 x10 x12 uO x14 x15 x16 x17 x18 x19 x20 x21 vI x23 x24 x25 wo x27 x28 x29 x30 x31 x32 wX : Value} (H : V w0 w (dM e (.cells (x0 :: .pointer (some ⟨pr, 0, none⟩) :: x2 :: x3 :: x4 :: x5 :: x6 :: x7 :: x8 :: x9 :: x10 :: .pointer (some ⟨ph, 0, none⟩) :: x12 :: uO :: x14 :: x15 :: x16 :: x17 :: x18 :: x19 :: x20 :: x21 :: vI :: x23 :: x24 :: x25 :: wo :: x27 :: x28 :: x29 :: x30 :: x31 :: x32 :: wX :: []).toArray 82 (0, 0)) • iG pr E a • F)) : gQ prog 33 #[.pointer (some ⟨e, 0, none⟩)] w fun v' w' =>
  ∃ us, V w0 w' (Row 22 1 v' E.length us • Fb 21 .i32 us (xA E a) • dM e (.cells (x0 :: .pointer (some ⟨pr, 0, none⟩) :: x2 :: x3 :: x4 :: x5 :: x6 :: x7 :: x8 :: x9 :: x10 :: .pointer (some ⟨ph, 0, none⟩) :: x12 :: uO :: x14 :: x15 :: x16 :: x17 :: x18 :: x19 :: x20 :: x21 :: vI :: x23 :: x24 :: x25 :: wo :: x27 :: x28 :: x29 :: x30 :: x31 :: x32 :: wX :: []).toArray 82 (0, 0)) • iG pr E a • F) := by
 obtain ⟨hE1, hE2, hE3⟩ := O7 H.swap
 refine iC func33 ntmps33 ?_
 refine jk O (aO (bT O (eG O func65 (Af H) ?_)))
 rintro _ _ ⟨rfl, rfl⟩
 refine iK (pW (fV (jk O (bT O (dL O (bF 0 ah O aU O (bF 1 aH O sizeOf73 O (gq tH O (H).get.2 O (eG O func85 (zL H.f2) ?_)))))))))
 rintro _ w2 ⟨pc2, rfl, H2⟩
 refine vZ O (bT O (eG O func86 (KC H2) ?_))
 rintro _ _ ⟨rfl, rfl⟩
 refine bQ O (iK (aZ ?_))
 obtain ⟨R4, hR4, HR4⟩ := V.aa0 (H2)
 refine fC [(4, _), (17, _)] (fun (⟨i, u⟩ : Nat × Value) => [(3, u), (18, .int .i64 (i : Int))]) (fun (⟨i, u⟩ : Nat × Value) W => i ≤ E.length ∧ ∃ us, V w0 W (Row 22 1 u i us • Fb 21 .i32 us ((xA E a).take i) • iG pc2 E (Wn E.length a i) • R4)) (fun (⟨i, u⟩ : Nat × Value) => E.length - i) ((0, .slice none 0 0)) oO oO ⟨by omega, [], HR4.Wj.iP none⟩ ?_
 rintro ⟨i, u⟩ w5 ⟨hi, us, HL⟩
 dsimp only [List.cons_append, List.nil_append]
 refine iy (Z (gZ O O) (pJ (bG O (fun h1 => ?_) (fun h1 => ?_))))
 ·(try simp only [aF] at h1)
  refine fV (aO (aZ (bT O (gB O (bT O (bQ O (Z (zC O O) (eG O func87 (EY HL.f3) ?_))))))))
  rintro _ w6 ⟨u6, rfl, H6⟩
  have hne : ¬ E.length = 0 := by omega
  have HX := H6
  simp only [if_neg hne] at HX
  refine bQ O (uD O O (uD O O (fU O (gB O (aB (jF O O (jy (jH (vs := [_]) HX iM dN zeroValue22 O O O (by decide) (aX (by first | rfl | exact Rd.one ((HX).aT)) bD)) ?_)))))))
  rintro l7 w7 H7
  refine jy (fZ H7.f4 iM Zm O O O ((H7).aT) (aX (by first | rfl | exact Rd.one ((H7.f2).aT)) bD) (by omega) (by omega)) ?_
  rintro l8 w8 H8
  have Hd9 := H8.f2.right
  refine fU O (bP (aJ (aW (aB (Z (fK O O (by omega)) (bQ O (bP ?_)))))))
  have HS := (Hd9.f3.f2.f3.f4).AU.f2
  refine dH ((i + 1, l8)) ?_ ?_ ?_ ?_
  ·exact oO
  ·exact oO
  ·(try dsimp only)
   first | done | exact ⟨by omega, _, by rw [Hw (d := []) (by rw [JM]; omega), TA (by omega) (by omega), ← Tz]; exact HS⟩
  ·(try dsimp only); omega
 ·(try simp only [aF] at h1)
  refine dn (aI ?_)
  obtain rfl : i = E.length := by omega
  have HK := HL
  rw [List.take_of_length_le (by rw [JM]; exact Nat.le_refl _)] at HK
  subst hR4
  refine aI (aY (aW (bT O (fF O (dG results33 O ?_)))))
  exact ⟨_, HK.f3.right.f3.f4.f4.f4⟩
end
def Qj (s : dJ) (u ks sv : Value) : List Value := [u, .int .i64 s.c.pt, .int .i64 s.c.mark, .int .i64 s.c.mode, .bool s.c.over, .bool s.given, .bool s.minus, .int .i64 s.arg, .int .i64 s.zk, .int .i64 s.Ue, .int .i64 s.Uf, ks, .int .i64 s.c.place, sv, .int .i64 s.Vh, .int .i64 s.c.res, .int .i64 s.qO]
section
variable {w0 w : World} {F : HP} {e p ph pw pt pr pm pb : Nat} {s : dJ} {k x place : Int} {hl : List pO} {base most cls : Int} {tx : Int → Option ByteArray} {v pv : Value} {U : Int → List (List iU)} {L : List Int} {pnt mk : Int}
theorem EP {x1 x2 x3 x4 x5 x6 x7 x8 x9 x10 x12 uO x14 x15 x16 x17 x18 x19 x20 x21 vI x23 x24 x25 wo x27 x28 x29 x30 x31 x32 wX : Value} (H : V w0 w (dM e (.cells (.pointer (some ⟨pb, 0, none⟩) :: x1 :: x2 :: x3 :: x4 :: x5 :: x6 :: x7 :: x8 :: x9 :: x10 :: .pointer (some ⟨ph, 0, none⟩) :: x12 :: uO :: x14 :: x15 :: x16 :: x17 :: x18 :: x19 :: x20 :: x21 :: vI :: x23 :: x24 :: x25 :: wo :: x27 :: x28 :: x29 :: x30 :: x31 :: x32 :: wX :: []).toArray 82 (0, 0)) • jg pb L pnt mk • F)) : gQ prog 28 #[.pointer (some ⟨e, 0, none⟩)] w fun v' w' =>
  ∃ u, v' = .agg (rZ u pnt mk) ∧ V w0 w' (kT 21 .i32 u L • dM e (.cells (.pointer (some ⟨pb, 0, none⟩) :: x1 :: x2 :: x3 :: x4 :: x5 :: x6 :: x7 :: x8 :: x9 :: x10 :: .pointer (some ⟨ph, 0, none⟩) :: x12 :: uO :: x14 :: x15 :: x16 :: x17 :: x18 :: x19 :: x20 :: x21 :: vI :: x23 :: x24 :: x25 :: wo :: x27 :: x28 :: x29 :: x30 :: x31 :: x32 :: wX :: []).toArray 82 (0, 0)) • jg pb L pnt mk • F) := by
 refine iC func28 ntmps28 ?_
 refine iy (jy (fM (l := [_, _, _]) H zeroValue46 O) ?_)
 rintro _ w1 ⟨b1, rfl, H1⟩
 refine pJ (bT O (eG O func65 (Af H1.f2) ?_))
 rintro _ _ ⟨rfl, rfl⟩
 refine iK (pW (fV (bT O (dL O (bF 0 ah O aU O (bF 0 aH O vK O (gq qo O (H1.f2).get.2 O (eG O func79 (CZ H1.f3) ?_))))))))
 rintro _ w3 ⟨u3, rfl, H3⟩
 refine aK (bW 0 (l' := [_, _, _]) (us := [_, _, _]) H3.f3 sizeOf46 O O O (aX (by first | rfl | exact Rd.one ((H3).aT)) (aA (aA bD))) O O) ?_
 rintro _ w4 H4
 refine YV ?_
 refine pY (.inl O) (J8 results28 O jo O (by rw [UC]; rfl) (H4).get.2) ?_
 exact ⟨_, O, H4.right.f2.f3.f3⟩
theorem vF {x0 x1 x3 x4 x5 x6 x7 x8 x9 x10 x12 uO x14 x15 x16 x17 x18 x19 x20 x21 vI x23 x24 x25 wo x27 x28 x29 x30 x31 x32 wX : Value} (H : V w0 w (dM e (.cells (x0 :: x1 :: .pointer (some ⟨pw, 0, none⟩) :: x3 :: x4 :: x5 :: x6 :: x7 :: x8 :: x9 :: x10 :: .pointer (some ⟨ph, 0, none⟩) :: x12 :: uO :: x14 :: x15 :: x16 :: x17 :: x18 :: x19 :: x20 :: x21 :: vI :: x23 :: x24 :: x25 :: wo :: x27 :: x28 :: x29 :: x30 :: x31 :: x32 :: wX :: []).toArray 82 (0, 0)) • dM pw (.cells #[.int .i64 place, .map (some pt)] 122 (0, 0)) • fJ qI pt (rU tx) • gJ ph hl base most • F)) :
    gQ prog 66 #[.pointer (some ⟨e, 0, none⟩)] w fun v' w' => V w0 w' (Row 133 2 v' (yU hl tx place).length ((yU hl tx place).flatMap Rw) •
      dM e (.cells (x0 :: x1 :: .pointer (some ⟨pw, 0, none⟩) :: x3 :: x4 :: x5 :: x6 :: x7 :: x8 :: x9 :: x10 :: .pointer (some ⟨ph, 0, none⟩) :: x12 :: uO :: x14 :: x15 :: x16 :: x17 :: x18 :: x19 :: x20 :: x21 :: vI :: x23 :: x24 :: x25 :: wo :: x27 :: x28 :: x29 :: x30 :: x31 :: x32 :: wX :: []).toArray 82 (0, 0)) • dM pw (.cells #[.int .i64 place, .map (some pt)] 122 (0, 0)) • fJ qI pt (rU tx) • gJ ph hl base most • F) := by
  have hb : hl.length ≤ 4096 := by obtain ⟨v, h, _⟩ := H.r4.hist; exact h.1
  refine iC func66 ntmps66 ?_
  refine jk O (jk O (bT O (dL O (bF 11 ah O sizeOf78 O (gq jO O (H).get.2 O (eG O func117 (og H.f4) ?_))))))
  rintro _ w1 ⟨rfl, H1⟩
  refine vZ O (bT O (bQ O (iK (aZ ?_))))
  refine fC [(0, _), (4, _), (11, _)] (fun (⟨i, u⟩ : Nat × Value) => [(3, u), (12, .int .i64 (i : Int))]) (fun (⟨i, u⟩ : Nat × Value) W => i ≤ hl.length ∧ V w0 W (Row 133 2 u (pR hl tx place i).length ((pR hl tx place i).flatMap Rw) • dM e (.cells (x0 :: x1 :: .pointer (some ⟨pw, 0, none⟩) :: x3 :: x4 :: x5 :: x6 :: x7 :: x8 :: x9 :: x10 :: .pointer (some ⟨ph, 0, none⟩) :: x12 :: uO :: x14 :: x15 :: x16 :: x17 :: x18 :: x19 :: x20 :: x21 :: vI :: x23 :: x24 :: x25 :: wo :: x27 :: x28 :: x29 :: x30 :: x31 :: x32 :: wX :: []).toArray 82 (0, 0)) • dM pw (.cells #[.int .i64 place, .map (some pt)] 122 (0, 0)) • fJ qI pt (rU tx) • gJ ph hl base most • F)) (fun (⟨i, u⟩ : Nat × Value) => hl.length - i) ((0, .slice none 0 0)) uF oO ⟨by omega, H1.f4.f4.f4.iP none⟩ ?_
  rintro ⟨i, u⟩ w2 ⟨hi, HL⟩
  dsimp only [List.cons_append, List.nil_append]
  refine iy (Z (gZ O O) (pJ (bG O (fun h1 => ?_) (fun h1 => ?_))))
  · (try simp only [aF] at h1)
    refine fV (aO (aZ (bT O (vZ O ?_))))
    have hLen := uh hl tx place i
    refine aB (jF O O (dL O (bF 0 ah O aU O (bF 2 aH O sizeOf74 O (gq kF O (HL.f2).get.2 O (dL O (bF 0 fB O aj O (gq aN O (HL.f3).get.2 O (Z (iZ O O) (jL O (fun h2 => ?_) (fun h2 => ?_)))))))))))
    · (try simp only [aF] at h2)
      have hpl := h2
      refine bC (bQ O (bC (bQ O (bC (eG O func118 (yg HL.f5.f5.f5.f5) ?_)))))
      rintro _ w3 ⟨rfl, H3⟩
      refine bC (bQ O (bC (bQ O (bC (eG O func119 (DF H3.f4.f2) ?_)))))
      rintro _ w4 ⟨rfl, H4⟩
      refine bC (Z (DZ O O) (jw O O (iV O (fun h3 => ?_) (fun h3 => ?_))))
      · (try simp only [aF] at h3)
        have hsv := NV (hl := hl) (tx := tx) (place := place) (i := i) (by unfold Az; rw [decide_eq_true hpl]; simpa using h3)
        refine aB (jF O O (jF O O (eG O func118 (yg H4.f2.f4.f4.f4) ?_)))
        rintro _ w5 ⟨rfl, H5⟩
        refine Z (dW (zl := [.int .i64 0, .string .empty]) (pl := [(0, 1), (1, 1)]) [_, _] underlying133 zeroValue133 O (fun w => by kernel_rfl) O (.on (.on .nil)) O) ?_
        refine jy (vH H5 underlying48 sizeOf133 zeroValue133 O O O (by decide) (by decide)) ?_
        rintro l6 w6 H6
        refine jy (fZ H6.f6 underlying48 Wp O O O ((H6).aT) (aA (aA bD)) (by omega) (by omega)) ?_
        rintro l7 w7 H7
        have Hd8 := H7.f2.right
        refine fU O (bP (aJ (aW (aB (Z (fK O O (by omega)) (bQ O (bP ?_)))))))
        have hLen := uh hl tx place i
        refine dH ((i + 1, l7)) ?_ ?_ ?_ ?_
        · exact oO
        · exact uF
        · (try dsimp only)
          first | done | exact ⟨by omega, by first | (rw [hsv, List.length_append, List.flatMap_append]; exact Hd8.f5.f5.f5.f5.f5) | (rw [hsv]; exact Hd8.f5.f5.f5.f5.f5)⟩
        · (try dsimp only); omega
      · (try simp only [aF] at h3)
        have hsv := Hu (hl := hl) (tx := tx) (place := place) (i := i) (by unfold Az; rw [decide_eq_true hpl]; simpa using h3)
        refine bU (aJ (aW (aB (Z (fK O O (by omega)) (bQ O (bP ?_))))))
        have hLen := uh hl tx place i
        refine dH ((i + 1, u)) ?_ ?_ ?_ ?_
        · exact oO
        · exact uF
        · (try dsimp only)
          first | done | exact ⟨by omega, by first | (rw [hsv, List.length_append, List.flatMap_append]; exact H4.f2.f4.f4.f4.f5) | (rw [hsv]; exact H4.f2.f4.f4.f4.f5)⟩
        · (try dsimp only); omega
    · (try simp only [aF] at h2)
      have hsv := Hu (hl := hl) (tx := tx) (place := place) (i := i) (by unfold Az; rw [decide_eq_false (by simpa using h2)]; rfl)
      refine bH (bH (bH (bH (bH (bH (bH (iJ O O (iK (pW (bU (aJ (aW (aB (Z (fK O O (by omega)) (bQ O (bP ?_))))))))))))))))
      have hLen := uh hl tx place i
      refine dH ((i + 1, u)) ?_ ?_ ?_ ?_
      · exact oO
      · exact uF
      · (try dsimp only)
        first | done | exact ⟨by omega, by first | (rw [hsv, List.length_append, List.flatMap_append]; exact HL.f5.f5.f5.f5.f5) | (rw [hsv]; exact HL.f5.f5.f5.f5.f5)⟩
      · (try dsimp only); omega
  · (try simp only [aF] at h1)
    refine dn (aI ?_)
    obtain rfl : i = hl.length := by omega
    refine aI (aY (aW (aO (aO ?_))))
    have hLen := uh hl tx place hl.length
    refine aB (nG O O (bF 0 ah O aU O (bF 2 aH O sizeOf74 O (gq kF O (HL.f2).get.2 O (dL O (bF 0 fB O aj O (gq aN O (HL.f3).get.2 O (bQ O (Z (iZ O O) (iV O (fun h4 => ?_) (fun h4 => ?_)))))))))))
    · (try simp only [aF] at h4)
      have hsv : yU hl tx place = pR hl tx place hl.length ++ [((hl.length : Int), jq hl tx hl.length)] := by unfold yU; rw [if_pos h4]
      refine aB (jF O O (jF O O (eG O func118 (yg HL.f5.f5.f5.f5) ?_)))
      rintro _ w9 ⟨rfl, H9⟩
      refine Z (dW (zl := [.int .i64 0, .string .empty]) (pl := [(0, 1), (1, 1)]) [_, _] underlying133 zeroValue133 O (fun w => by kernel_rfl) O (.on (.on .nil)) O) ?_
      refine jy (vH H9 underlying48 sizeOf133 zeroValue133 O O O (by decide) (by decide)) ?_
      rintro l10 w10 ql
      refine jy (fZ ql.f6 underlying48 Wp O O O ((ql).aT) (aA (aA bD)) (by omega) (by omega)) ?_
      rintro l11 EI rE
      have IJ := rE.f2.right
      refine gB O (bT O (fF O (dG results66 O ?_)))
      first
        | (rw [hsv, List.length_append, List.flatMap_append]; exact IJ.f5.f5.f5.f5.f5)
        | (rw [hsv]; exact IJ.f5.f5.f5.f5.f5)
    · (try simp only [aF] at h4)
      have hsv : yU hl tx place = pR hl tx place hl.length := by unfold yU; rw [if_neg (by simpa using h4), List.append_nil]
      refine fV (bT O (fF O (dG results66 O ?_)))
      first
        | (rw [hsv, List.length_append, List.flatMap_append]; exact HL.f5.f5.f5.f5.f5)
        | (rw [hsv]; exact HL.f5.f5.f5.f5.f5)
theorem TB {u0 u1 u2 u3 u4 u5 u6 u7 u8 u9 ua : Value} (hin : s.inn = true) (H : V w0 w (uS s.inn s.was [u0, u1, u2, u3, u4, u5, u6, u7, u8, u9, ua] • F)) : u6 = .int .i64 s.was.last ∧ u7 = .int .i64 s.was.fr ∧ u8 = .int .i64 s.was.to := by
  rw [hin] at H
  obtain ⟨qb, qr, qw, qt, qm, hu, -⟩ := H.was
  simp only [Nj, List.cons.injEq, and_true] at hu
  exact ⟨hu.2.2.2.2.2.2.1, hu.2.2.2.2.2.2.2.1, hu.2.2.2.2.2.2.2.2.1⟩
set_option maxHeartbeats 1000000 in
theorem Le (H : V w0 w (gG e s • F)) : gQ prog 23 #[.pointer (some ⟨e, 0, none⟩)] w fun v w' => ∃ u ks us sv, v = .agg (Qj s u ks sv).toArray ∧
  V w0 w' (kT 21 .i32 u s.c.L • Row 22 1 ks s.c.E.length us • Fb 21 .i32 us (xA s.c.E s.c.at_) • Row 133 2 sv s.saved.length (s.saved.flatMap Rw) • gG e s • F) := by
 refine iC func23 ntmps23 ?_
 obtain ⟨xO, xP, xQ, xR, xU, xW, xX, xY, uK, sG, sH, sJ, sK, sN, sO, sQ, sS, sU, sV, sW, iw, dI, lg, iL⟩ := (H).Gz
 have hU : (s.c.un s.c.place).length ≤ 16384 := by
  obtain ⟨D, P, hD1, hD2, HU⟩ := (iL.f6).X0
  by_cases hm : s.c.place ∈ D
  ·have HF := HU.swap
   rw [qP hm] at HF
   obtain ⟨_, _, _, _, k1, _⟩ := HF.flat.yw
   have := k1.len; simpa using this
  ·rw [hD2 _ hm]; decide
 refine iy (jy (fM (l := [_, _, _, _, _, _, _, _, _, _, _, _, _, _, _, _, _]) iL je O) ?_)
 rintro _ w2 ⟨b2, rfl, H2⟩
 refine pJ (bT O (eG O func65 (Af H2.f2) ?_))
 rintro _ _ ⟨rfl, rfl⟩
 refine iK (pW (fV ?_))
 refine jW [(0, _)] (fun (⟨r, q, u, ks, sv, us⟩ : Nat × Nat × Value × Value × Value × List Value) => [(2, .pointer (some ⟨r, 0, none⟩)), (3, .pointer (some ⟨q, 0, none⟩))]) (fun (⟨r, q, u, ks, sv, us⟩ : Nat × Nat × Value × Value × Value × List Value) W => V w0 W (dM q (.cells (u :: .int .i64 s.c.pt :: .int .i64 s.c.mark :: .int .i64 s.c.mode :: .bool s.c.over :: .bool s.given :: .bool s.minus :: .int .i64 s.arg :: .int .i64 s.c.last :: .int .i64 s.c.fr :: .int .i64 s.c.to :: ks :: .int .i64 s.c.place :: sv :: .int .i64 s.Vh :: .int .i64 s.c.res :: .int .i64 s.qO :: []).toArray 50 (0, 0)) • kT 21 .i32 u s.c.L • Row 22 1 ks s.c.E.length us • Fb 21 .i32 us (xA s.c.E s.c.at_) • Row 133 2 sv s.saved.length (s.saved.flatMap Rw) • dM e (.cells (.pointer (some ⟨xO, 0, none⟩) :: .pointer (some ⟨xP, 0, none⟩) :: .pointer (some ⟨xQ, 0, none⟩) :: .map (some xU) :: .int .i64 s.c.mode :: .bool s.c.over :: .int .i64 s.c.last :: .int .i64 s.c.fr :: .int .i64 s.c.to :: .int .i64 s.c.res :: .bool s.c.run :: .pointer (some ⟨xW, 0, none⟩) :: .pointer (some ⟨xX, 0, none⟩) :: .bool s.given :: .bool s.minus :: .int .i64 s.arg :: .bool s.inn :: sG :: sH :: sJ :: sK :: sN :: sO :: sQ :: sS :: sU :: sV :: sW :: .int .i64 s.cls :: .bool s.killed :: .bool s.lH :: .bool s.argues :: .bool s.whole :: xY :: []).toArray 82 (0, 0)) • jg xO s.c.L s.c.pt s.c.mark • iG xP s.c.E s.c.at_ • dM xQ (.cells #[.int .i64 s.c.place, .map (some xR)] 122 (0, 0)) • fJ qI xR (rU s.c.tx) • wR xU s.c.un • gJ xW s.hl s.base s.most • dM xX (.cells #[.int .i64 s.qO] 161 (0, 0)) • Row 189 3 xY s.put.length (uK.flatMap dV.enc) • kK uK • uS s.inn s.was [sG, sH, sJ, sK, sN, sO, sQ, sS, sU, sV, sW] • dM r (.cells (.slice none 0 0 :: .int .i64 0 :: .int .i64 0 :: .int .i64 0 :: .bool false :: .bool false :: .bool false :: .int .i64 0 :: .int .i64 0 :: .int .i64 0 :: .int .i64 0 :: .slice none 0 0 :: .int .i64 0 :: .slice none 0 0 :: .int .i64 0 :: .int .i64 0 :: .int .i64 0 :: []).toArray 50 (0, 0)) • F)) kD ?_ ?_
 ·rintro ⟨r, q, u, ks, sv, us⟩ w4 HJ
  dsimp only [List.cons_append, List.nil_append]
  refine aO (bT O (dL O (bF 16 ah O aQ O (gq bM O (HJ.f6).get.2 O (iV O (fun h1 => ?_) (fun h1 => ?_))))))
  ·(try simp only [aF] at h1)
   have hin := h1
   obtain ⟨rfl, rfl, rfl⟩ := TB hin HJ.f16
   have ab8 := HJ.drew
   have uj := V.kp (ab8.right.f16.f16.f16.f16.f16.f16.f16.f16.f16.f16.f16.f16.f16.f16.f16.f16)
   refine yj [4, 9, 14] uj O (jE 0 O uj O (kJ 1 O uj O (gU 2 O uj 17 ah O aU O (gU 3 O uj 6 aH O aj O (jQ 4 O uj (fun W hW => kC aN O ((Kp.h hW).f5).get.2 O) (jE 5 O uj O (kJ 6 O uj O (gU 7 O uj 17 ah O aU O (gU 8 O uj 7 aH O aj O (jQ 9 O uj (fun W hW => kC aN O ((Kp.h hW).f5).get.2 O) (jE 10 O uj O (kJ 11 O uj O (gU 12 O uj 17 ah O aU O (gU 13 O uj 8 aH O aj O (jQ 14 O uj (fun W hW => kC aN O ((Kp.h hW).f5).get.2 O) (gU 15 O uj 8 iq O aj O ?_))))))))))))))))
   refine fQ 16 O (by kernel_rfl) (ZI 8 ab8 aj) ?_
   rintro _ w5 H5
   have BM := V.kp (H5.right.f16.f16.f16.f16.f16.f16.f16.f16.f16.f16.f16.f16.f16.f16.f16.f16)
   refine dX BM (fun W hW => (Kp.h hW).f16.f16.f16.f16.f16.f16.f16.f16.f16.f16.f16.f16.f16.f16.f16.f16) ?_
   refine gU 17 O BM 9 iq O aj O ?_
   refine fQ 18 O (by kernel_rfl) (ZI 9 H5 aj) ?_
   rintro _ w6 H6
   have IQ := V.kp (H6.f17.f17.f17.f17.f17.f17.f17.f17.f17.f17.f17.f17.f17.f17.f17.f17.f17)
   refine dX IQ (fun W hW => (Kp.h hW).right.f16.f16.f16.f16.f16.f16.f16.f16.f16.f16.f16.f16.f16.f16.f16.f16) ?_
   refine gU 19 O IQ 10 iq O aj O ?_
   refine fQ 20 O (by kernel_rfl) (ZI 10 H6 aj) ?_
   rintro _ w7 H7
   have II := V.kp (H7.f17.f17.f17.f17.f17.f17.f17.f17.f17.f17.f17.f17.f17.f17.f17.f17.f17)
   refine gV II (by kernel_rfl) ?_
   refine qR (aW (iy (Z (fD iq O sizeOf50 O O (H7).get.2) (aK (bW 0 (l' := [_, _, _, _, _, _, _, _, _, _, _, _, _, _, _, _, _]) (us := [_, _, _, _, _, _, _, _, _, _, _, _, _, _, _, _, _]) H7.f17 sizeOf50 O O O (aX (by first | rfl | exact Rd.one ((H7.f2).aT)) (aA (aA (aA (aA (aA (aA (aA (aA (aA (aA (aX (by first | rfl | exact Rd.one ((H7.f3).aT)) (aA (aX (by first | rfl | exact Rd.one ((H7.f5).aT)) (aA (aA (aA bD))))))))))))))))) O O) ?_))))
   rintro _ w8 H8
   refine YV ?_
   refine pY (.inl O) (J8 results23 O iq O (by rw [Zn]; rfl) (H8).get.2) ?_
   have Vb := H8.f17.f17.f17.f17.f17.f17.f17.f17.f17.f17.f17
   have Vd := V.iI (s := s) iw dI Vb
   refine ⟨u, ks, us, sv, ?_, Vd.f2.right.f2.right.f5.f5.f5.f5⟩
   unfold Qj dJ.zk dJ.Ue dJ.Uf
   rw [hin]
   rfl
  ·(try simp only [aF] at h1)
   have hin := h1
   refine fV (iy (Z (fD iq O sizeOf50 O O (HJ).get.2) (aK (bW 0 (l' := [_, _, _, _, _, _, _, _, _, _, _, _, _, _, _, _, _]) (us := [_, _, _, _, _, _, _, _, _, _, _, _, _, _, _, _, _]) HJ.f17 sizeOf50 O O O (aX (by first | rfl | exact Rd.one ((HJ.f2).aT)) (aA (aA (aA (aA (aA (aA (aA (aA (aA (aA (aX (by first | rfl | exact Rd.one ((HJ.f3).aT)) (aA (aX (by first | rfl | exact Rd.one ((HJ.f5).aT)) (aA (aA (aA bD))))))))))))))))) O O) ?_)))
   rintro _ w12 uG
   refine YV ?_
   refine pY (.inl O) (J8 results23 O iq O (by rw [Zn]; rfl) (uG).get.2) ?_
   have aad := uG.f17.f17.f17.f17.f17.f17.f17.f17.f17.f17.f17
   have aae := V.iI (s := s) iw dI aad
   refine ⟨u, ks, us, sv, ?_, aae.f2.right.f2.right.f5.f5.f5.f5⟩
   unfold Qj dJ.zk dJ.Ue dJ.Uf
   rw [hin]
   rfl
 ·skip
  have Wq := H2.drew
  have dZ := V.kp (Wq.f7.right.f7.right.f10.f10.f10.f10.f10.f10.f10.f10.f10.f10)
  refine yj [6, 11, 15, 19, 23, 28, 33, 38, 45, 48, 57, 61] dZ O (jE 0 O dZ O (jE 2 O dZ O (kJ 3 O dZ O (gU 4 O dZ 0 ah O aU O (gU 5 O dZ 4 aH O aj O (jQ 6 O dZ (fun W hW => kC aN O ((Kp.h hW).f2).get.2 O) (jE 7 O dZ O (kJ 8 O dZ O (gU 9 O dZ 0 ah O aU O (gU 10 O dZ 5 aH O aQ O (jQ 11 O dZ (fun W hW => kC bM O ((Kp.h hW).f2).get.2 O) (jE 12 O dZ O (kJ 13 O dZ O (gU 14 O dZ 13 ah O aQ O (jQ 15 O dZ (fun W hW => kC bM O ((Kp.h hW).f2).get.2 O) (jE 16 O dZ O (kJ 17 O dZ O (gU 18 O dZ 14 ah O aQ O (jQ 19 O dZ (fun W hW => kC bM O ((Kp.h hW).f2).get.2 O) (jE 20 O dZ O (kJ 21 O dZ O (gU 22 O dZ 15 ah O aj O (jQ 23 O dZ (fun W hW => kC aN O ((Kp.h hW).f2).get.2 O) (jE 24 O dZ O (kJ 25 O dZ O (gU 26 O dZ 0 ah O aU O (gU 27 O dZ 6 aH O aj O (jQ 28 O dZ (fun W hW => kC aN O ((Kp.h hW).f2).get.2 O) (jE 29 O dZ O (kJ 30 O dZ O (gU 31 O dZ 0 ah O aU O (gU 32 O dZ 7 aH O aj O (jQ 33 O dZ (fun W hW => kC aN O ((Kp.h hW).f2).get.2 O) (jE 34 O dZ O (kJ 35 O dZ O (gU 36 O dZ 0 ah O aU O (gU 37 O dZ 8 aH O aj O (jQ 38 O dZ (fun W hW => kC aN O ((Kp.h hW).f2).get.2 O) (jE 39 O dZ O ?_)))))))))))))))))))))))))))))))))))))))
  refine jE 41 O dZ O (kJ 42 O dZ O (gU 43 O dZ 0 ah O aU O (gU 44 O dZ 2 aH O sizeOf74 O (jQ 45 O dZ (fun W hW => kC kF O ((Kp.h hW).f2).get.2 O) (kJ 46 O dZ O (gU 47 O dZ 0 fB O aj O (jQ 48 O dZ (fun W hW => kC aN O ((Kp.h hW).f5).get.2 O) (jE 49 O dZ O (jE 51 O dZ O (jE 53 O dZ O (kJ 54 O dZ O (gU 55 O dZ 0 ah O aU O (gU 56 O dZ 9 aH O aj O (jQ 57 O dZ (fun W hW => kC aN O ((Kp.h hW).f2).get.2 O) (jE 58 O dZ O (kJ 59 O dZ O (gU 60 O dZ 12 ah O sizeOf79 O (jQ 61 O dZ (fun W hW => kC underlying79 O ((Kp.h hW).f2).get.2 O) ?_))))))))))))))))))
  refine xC (i := 1) (j := 64) (by kernel_rfl) ?_ ?_
  ·skip
   refine jP 1 O (by kernel_rfl) (uz (vV O func28 O O) (EP Wq.f3.f3)) (mg O) ?_
   rintro _ w16 ⟨u16, rfl, yL⟩
   have Dj := V.kp (yL.f8.right.f8.right.f11.f11.f11.f11.f11.f11.f11.f11.f11.f11.f11)
   refine dX Dj (fun W hW => (Kp.h hW).right.f10.f10.f10.f10.f10.f10.f10.f9.f9.f10) ?_
   refine xC (i := 40) (j := 64) (by kernel_rfl) ?_ ?_
   ·skip
    refine jP 40 O (by kernel_rfl) (uz (vV O func33 O O) (y5 yL.f5.f3)) (mg O) ?_
    rintro u17 Zc ⟨ae9, Iu⟩
    have EH := V.kp (Iu.f10.right.f10.right.f13.f13.f13.f13.f13.f13.f13.f13.f13.f13.f13.f13.f13)
    refine dX EH (fun W hW => (Kp.h hW).right.right.f11.f11.f11.f11.f11.f11.f8.f11.f11.f10.f11) ?_
    refine xC (i := 50) (j := 64) (by kernel_rfl) ?_ ?_
    ·skip
     refine jP 50 O (by kernel_rfl) (uz (vV O func66 O O) (vF Iu.f11.f10.f10.f6)) (mg O) ?_
     rintro u18 XG CW
     have UR := V.kp (CW.f12.right.f15.f15.f15.f15.f15.f15.f15.f15.f15.f15.f15.f15.f15.f15.f15)
     refine dX UR (fun W hW => (Kp.h hW).right.f4.right.f13.f13.f13.f13.f7.f7.f13.f13.f13.f13.f11.f13.f13) ?_
     refine xC (i := 52) (j := 64) (by kernel_rfl) ?_ ?_
     ·skip
      refine jP 52 O (by kernel_rfl) (uz (vV O func67 O O) (qE CW.f14.f13.f5.f5 hU)) (mg O) ?_
      rintro _ w19 ⟨rfl, Ec⟩
      have Vo := V.kp (Ec.f16.f16.f16.f16.f16.f16.f16.f16.f16.f16.f16.f16.f16.f16.f16.f16)
      refine dX Vo (fun W hW => (Kp.h hW).f3.right.f15.f15.f5.f15.f15.f15.f15.f15.f15.f15.f15.f15.f14.f14.f15) ?_
      refine xC (i := 62) (j := 64) (by kernel_rfl) ?_ ?_
      ·skip
       refine jP 62 O (by kernel_rfl) (uz (vV O func68 O O) (ng Ec.f14)) (mg O) ?_
       rintro _ _ ⟨rfl, rfl⟩
       have Dl := V.kp (Ec.f16.f16.f16.f16.f16.f16.f16.f16.f16.f16.f16.f16.f16.f16.f16.f16)
       refine dX Dl (fun W hW => (Kp.h hW).f16.f16.f16.f16.f16.f16.f16.f16.f16.f16.f16.f16.f16.f16.f16.f16) ?_
       refine jC 63 O Dl (fun _ => dW (zl := [.slice none 0 0, .int .i64 0, .int .i64 0, .int .i64 0, .bool false, .bool false, .bool false, .int .i64 0, .int .i64 0, .int .i64 0, .int .i64 0, .slice none 0 0, .int .i64 0, .slice none 0 0, .int .i64 0, .int .i64 0, .int .i64 0]) (pl := [(0, 3), (3, 1), (4, 1), (5, 1), (6, 1), (7, 1), (8, 1), (9, 1), (10, 1), (11, 1), (12, 1), (13, 1), (14, 1), (15, 1), (16, 1)]) [_, _, _, _, _, _, _, _, _, _, _, _, _, _, _, _, _] iq je O (fun w => by kernel_rfl) O (.agg (us := [_, _, _]) (zs := [.slice none 0 0, .int .i64 0, .int .i64 0]) O O (.on (.on (.on (.on (.on (.on (.on (.on (.one (Rd.one ((Ec.f8).aT)) (.on (.one (Rd.one ((Ec.f5).aT)) (.on (.on (.on .nil))))))))))))))) O) ?_
       refine oC 64 O (fM (l := [_, _, _, _, _, _, _, _, _, _, _, _, _, _, _, _, _]) Ec je O) ?_
       rintro _ w21 ⟨b21, rfl, IK⟩
       have Ws := V.kp (IK.f17.f17.f17.f17.f17.f17.f17.f17.f17.f17.f17.f17.f17.f17.f17.f17.f17)
       refine dX Ws (fun W hW => (Kp.h hW).right.f16.f16.f16.f16.f16.f16.f16.f16.f16.f16.f16.f16.f16.f16.f16.f16) ?_
       refine fQ 65 O (by kernel_rfl) (bW 0 (l' := [_, _, _, _, _, _, _, _, _, _, _, _, _, _, _, _, _]) (us := [_, _, _, _, _, _, _, _, _, _, _, _, _, _, _, _, _]) IK sizeOf50 O O O (aX (by first | rfl | exact Rd.one ((IK.f12).aT)) (aA (aA (aA (aA (aA (aA (aA (aA (aA (aA (aX (by first | rfl | exact Rd.one ((IK.f9).aT)) (aA (aX (by first | rfl | exact Rd.one ((IK.f6).aT)) (aA (aA (aA bD))))))))))))))))) O O) ?_
       rintro _ w22 O4
       have Na := V.kp (O4.f17.f17.f17.f17.f17.f17.f17.f17.f17.f17.f17.f17.f17.f17.f17.f17.f17)
       refine gV Na (by kernel_rfl) ?_
       refine qR ?_
       refine cO (_, _, _, _, _, _) oO kD (by (try dsimp only); exact O4.f14.f17.f17.f8.f17.f12.f10.f12.f11.f15.f17.f13.f14.f16.f16.f17.f17)
      ·skip
       refine jP 64 O (by kernel_rfl) (fM (l := [_, _, _, _, _, _, _, _, _, _, _, _, _, _, _, _, _]) Ec je O) (mg O) ?_
       rintro _ w23 ⟨b23, rfl, IL⟩
       have JA := V.kp (IL.f17.f17.f17.f17.f17.f17.f17.f17.f17.f17.f17.f17.f17.f17.f17.f17.f17)
       refine dX JA (fun W hW => (Kp.h hW).right.f16.f16.f16.f16.f16.f16.f16.f16.f16.f16.f16.f16.f16.f16.f16.f16) ?_
       refine oC 62 O (yJ O func68 (ng IL.f15)) ?_
       rintro _ _ ⟨rfl, rfl⟩
       have Hf := V.kp (IL.f17.f17.f17.f17.f17.f17.f17.f17.f17.f17.f17.f17.f17.f17.f17.f17.f17)
       refine dX Hf (fun W hW => (Kp.h hW).f17.f17.f17.f17.f17.f17.f17.f17.f17.f17.f17.f17.f17.f17.f17.f17.f17) ?_
       refine jC 63 O Hf (fun _ => dW (zl := [.slice none 0 0, .int .i64 0, .int .i64 0, .int .i64 0, .bool false, .bool false, .bool false, .int .i64 0, .int .i64 0, .int .i64 0, .int .i64 0, .slice none 0 0, .int .i64 0, .slice none 0 0, .int .i64 0, .int .i64 0, .int .i64 0]) (pl := [(0, 3), (3, 1), (4, 1), (5, 1), (6, 1), (7, 1), (8, 1), (9, 1), (10, 1), (11, 1), (12, 1), (13, 1), (14, 1), (15, 1), (16, 1)]) [_, _, _, _, _, _, _, _, _, _, _, _, _, _, _, _, _] iq je O (fun w => by kernel_rfl) O (.agg (us := [_, _, _]) (zs := [.slice none 0 0, .int .i64 0, .int .i64 0]) O O (.on (.on (.on (.on (.on (.on (.on (.on (.one (Rd.one ((IL.f9).aT)) (.on (.one (Rd.one ((IL.f6).aT)) (.on (.on (.on .nil))))))))))))))) O) ?_
       refine fQ 65 O (by kernel_rfl) (bW 0 (l' := [_, _, _, _, _, _, _, _, _, _, _, _, _, _, _, _, _]) (us := [_, _, _, _, _, _, _, _, _, _, _, _, _, _, _, _, _]) IL sizeOf50 O O O (aX (by first | rfl | exact Rd.one ((IL.f12).aT)) (aA (aA (aA (aA (aA (aA (aA (aA (aA (aA (aX (by first | rfl | exact Rd.one ((IL.f9).aT)) (aA (aX (by first | rfl | exact Rd.one ((IL.f6).aT)) (aA (aA (aA bD))))))))))))))))) O O) ?_
       rintro _ w25 Uh
       have VQ := V.kp (Uh.f17.f17.f17.f17.f17.f17.f17.f17.f17.f17.f17.f17.f17.f17.f17.f17.f17)
       refine gV VQ (by kernel_rfl) ?_
       refine qR ?_
       refine cO (_, _, _, _, _, _) oO kD (by (try dsimp only); exact Uh.f14.f17.f17.f8.f17.f12.f10.f12.f11.f15.f17.f13.f14.f16.f16.f17.f17)
     ·skip
      refine jP 64 O (by kernel_rfl) (fM (l := [_, _, _, _, _, _, _, _, _, _, _, _, _, _, _, _, _]) CW je O) (mg O) ?_
      rintro _ w26 ⟨b26, rfl, VR⟩
      have ab9 := V.kp (VR.f13.right.f16.f16.f16.f16.f16.f16.f16.f16.f16.f16.f16.f16.f16.f16.f16.f16)
      refine dX ab9 (fun W hW => (Kp.h hW).right.f15.f15.f15.f15.f15.f15.f15.f15.f15.f15.f15.f15.f15.f15.f15) ?_
      refine oC 52 O (yJ O func67 (qE VR.f15.f14.f6.f6 hU)) ?_
      rintro _ w27 ⟨rfl, NH⟩
      have aca := V.kp (NH.f17.f17.f17.f17.f17.f17.f17.f17.f17.f17.f17.f17.f17.f17.f17.f17.f17)
      refine dX aca (fun W hW => (Kp.h hW).f3.right.f16.f16.f5.f16.f16.f16.f16.f16.f16.f16.f16.f16.f14.f14.f16.f16) ?_
      refine oC 62 O (yJ O func68 (ng NH.f15)) ?_
      rintro _ _ ⟨rfl, rfl⟩
      have Zo := V.kp (NH.f17.f17.f17.f17.f17.f17.f17.f17.f17.f17.f17.f17.f17.f17.f17.f17.f17)
      refine dX Zo (fun W hW => (Kp.h hW).f17.f17.f17.f17.f17.f17.f17.f17.f17.f17.f17.f17.f17.f17.f17.f17.f17) ?_
      refine jC 63 O Zo (fun _ => dW (zl := [.slice none 0 0, .int .i64 0, .int .i64 0, .int .i64 0, .bool false, .bool false, .bool false, .int .i64 0, .int .i64 0, .int .i64 0, .int .i64 0, .slice none 0 0, .int .i64 0, .slice none 0 0, .int .i64 0, .int .i64 0, .int .i64 0]) (pl := [(0, 3), (3, 1), (4, 1), (5, 1), (6, 1), (7, 1), (8, 1), (9, 1), (10, 1), (11, 1), (12, 1), (13, 1), (14, 1), (15, 1), (16, 1)]) [_, _, _, _, _, _, _, _, _, _, _, _, _, _, _, _, _] iq je O (fun w => by kernel_rfl) O (.agg (us := [_, _, _]) (zs := [.slice none 0 0, .int .i64 0, .int .i64 0]) O O (.on (.on (.on (.on (.on (.on (.on (.on (.one (Rd.one ((NH.f9).aT)) (.on (.one (Rd.one ((NH.f6).aT)) (.on (.on (.on .nil))))))))))))))) O) ?_
      refine fQ 65 O (by kernel_rfl) (bW 0 (l' := [_, _, _, _, _, _, _, _, _, _, _, _, _, _, _, _, _]) (us := [_, _, _, _, _, _, _, _, _, _, _, _, _, _, _, _, _]) NH.f5 sizeOf50 O O O (aX (by first | rfl | exact Rd.one ((NH.f12).aT)) (aA (aA (aA (aA (aA (aA (aA (aA (aA (aA (aX (by first | rfl | exact Rd.one ((NH.f9).aT)) (aA (aX (by first | rfl | exact Rd.one ((NH.f6).aT)) (aA (aA (aA bD))))))))))))))))) O O) ?_
      rintro _ w29 Yi
      have acb := V.kp (Yi.f17.f17.f17.f17.f17.f17.f17.f17.f17.f17.f17.f17.f17.f17.f17.f17.f17)
      refine gV acb (by kernel_rfl) ?_
      refine qR ?_
      refine cO (_, _, _, _, _, _) oO kD (by (try dsimp only); exact Yi.f14.f17.f17.f8.f17.f12.f10.f12.f11.f15.f17.f13.f14.f16.f16.f17.f17)
    ·skip
     refine jP 64 O (by kernel_rfl) (fM (l := [_, _, _, _, _, _, _, _, _, _, _, _, _, _, _, _, _]) Iu je O) (mg O) ?_
     rintro _ w30 ⟨b30, rfl, Vr⟩
     have acd := V.kp (Vr.f11.right.f11.right.f14.f14.f14.f14.f14.f14.f14.f14.f14.f14.f14.f14.f14.f14)
     refine dX acd (fun W hW => (Kp.h hW).right.f13.f13.f13.f13.f13.f13.f13.f13.f13.f13.f13.f13.f13) ?_
     refine oC 50 O (yJ O func66 (vF Vr.f12.f11.f11.f7)) ?_
     rintro u31 w31 SN
     have VT := V.kp (SN.f13.right.f16.f16.f16.f16.f16.f16.f16.f16.f16.f16.f16.f16.f16.f16.f16.f16)
     refine dX VT (fun W hW => (Kp.h hW).right.f4.right.f14.f14.f14.f14.f7.f7.f14.f14.f14.f14.f11.f14.f14.f14) ?_
     refine oC 52 O (yJ O func67 (qE SN.f15.f14.f5.f5 hU)) ?_
     rintro _ w32 ⟨rfl, NI⟩
     have Rj := V.kp (NI.f17.f17.f17.f17.f17.f17.f17.f17.f17.f17.f17.f17.f17.f17.f17.f17.f17)
     refine dX Rj (fun W hW => (Kp.h hW).f3.right.f16.f16.f5.f16.f16.f16.f16.f16.f16.f16.f16.f16.f16.f15.f15.f16) ?_
     refine oC 62 O (yJ O func68 (ng NI.f15)) ?_
     rintro _ _ ⟨rfl, rfl⟩
     have Rk := V.kp (NI.f17.f17.f17.f17.f17.f17.f17.f17.f17.f17.f17.f17.f17.f17.f17.f17.f17)
     refine dX Rk (fun W hW => (Kp.h hW).f17.f17.f17.f17.f17.f17.f17.f17.f17.f17.f17.f17.f17.f17.f17.f17.f17) ?_
     refine jC 63 O Rk (fun _ => dW (zl := [.slice none 0 0, .int .i64 0, .int .i64 0, .int .i64 0, .bool false, .bool false, .bool false, .int .i64 0, .int .i64 0, .int .i64 0, .int .i64 0, .slice none 0 0, .int .i64 0, .slice none 0 0, .int .i64 0, .int .i64 0, .int .i64 0]) (pl := [(0, 3), (3, 1), (4, 1), (5, 1), (6, 1), (7, 1), (8, 1), (9, 1), (10, 1), (11, 1), (12, 1), (13, 1), (14, 1), (15, 1), (16, 1)]) [_, _, _, _, _, _, _, _, _, _, _, _, _, _, _, _, _] iq je O (fun w => by kernel_rfl) O (.agg (us := [_, _, _]) (zs := [.slice none 0 0, .int .i64 0, .int .i64 0]) O O (.on (.on (.on (.on (.on (.on (.on (.on (.one (Rd.one ((NI.f9).aT)) (.on (.one (Rd.one ((NI.f5).aT)) (.on (.on (.on .nil))))))))))))))) O) ?_
     refine fQ 65 O (by kernel_rfl) (bW 0 (l' := [_, _, _, _, _, _, _, _, _, _, _, _, _, _, _, _, _]) (us := [_, _, _, _, _, _, _, _, _, _, _, _, _, _, _, _, _]) NI.f8 sizeOf50 O O O (aX (by first | rfl | exact Rd.one ((NI.f12).aT)) (aA (aA (aA (aA (aA (aA (aA (aA (aA (aA (aX (by first | rfl | exact Rd.one ((NI.f9).aT)) (aA (aX (by first | rfl | exact Rd.one ((NI.f5).aT)) (aA (aA (aA bD))))))))))))))))) O O) ?_
     rintro _ w34 VU
     have JI := V.kp (VU.f17.f17.f17.f17.f17.f17.f17.f17.f17.f17.f17.f17.f17.f17.f17.f17.f17)
     refine gV JI (by kernel_rfl) ?_
     refine qR ?_
     refine cO (_, _, _, _, _, _) oO kD (by (try dsimp only); exact VU.f14.f17.f17.f8.f17.f12.f10.f12.f11.f15.f17.f13.f14.f16.f16.f17.f17)
   ·skip
    refine jP 64 O (by kernel_rfl) (fM (l := [_, _, _, _, _, _, _, _, _, _, _, _, _, _, _, _, _]) yL je O) (mg O) ?_
    rintro _ w35 ⟨b35, rfl, H35⟩
    have VW := V.kp (H35.f9.right.f9.right.f12.f12.f12.f12.f12.f12.f12.f12.f12.f12.f12.f12)
    refine dX VW (fun W hW => (Kp.h hW).right.f11.f11.f11.f11.f11.f11.f11.f11.f11.f11.f11) ?_
    refine oC 40 O (yJ O func33 (y5 H35.f6.f4)) ?_
    rintro u36 w36 ⟨afa, H36⟩
    have ace := V.kp (H36.f11.right.f11.right.f14.f14.f14.f14.f14.f14.f14.f14.f14.f14.f14.f14.f14.f14)
    refine dX ace (fun W hW => (Kp.h hW).right.right.f12.f12.f12.f12.f12.f12.f8.f12.f12.f10.f12.f12) ?_
    refine oC 50 O (yJ O func66 (vF H36.f12.f11.f11.f6)) ?_
    rintro u37 w37 H37
    have acf := V.kp (H37.f13.right.f16.f16.f16.f16.f16.f16.f16.f16.f16.f16.f16.f16.f16.f16.f16.f16)
    refine dX acf (fun W hW => (Kp.h hW).right.f4.right.f14.f14.f14.f14.f7.f7.f14.f14.f14.f14.f14.f12.f14.f14) ?_
    refine oC 52 O (yJ O func67 (qE H37.f15.f14.f5.f5 hU)) ?_
    rintro _ w38 ⟨rfl, Qa⟩
    have acg := V.kp (Qa.f17.f17.f17.f17.f17.f17.f17.f17.f17.f17.f17.f17.f17.f17.f17.f17.f17)
    refine dX acg (fun W hW => (Kp.h hW).f3.right.f16.f16.f5.f16.f16.f16.f16.f16.f16.f16.f16.f16.f16.f15.f15.f16) ?_
    refine oC 62 O (yJ O func68 (ng Qa.f15)) ?_
    rintro _ _ ⟨rfl, rfl⟩
    have NR := V.kp (Qa.f17.f17.f17.f17.f17.f17.f17.f17.f17.f17.f17.f17.f17.f17.f17.f17.f17)
    refine dX NR (fun W hW => (Kp.h hW).f17.f17.f17.f17.f17.f17.f17.f17.f17.f17.f17.f17.f17.f17.f17.f17.f17) ?_
    refine jC 63 O NR (fun _ => dW (zl := [.slice none 0 0, .int .i64 0, .int .i64 0, .int .i64 0, .bool false, .bool false, .bool false, .int .i64 0, .int .i64 0, .int .i64 0, .int .i64 0, .slice none 0 0, .int .i64 0, .slice none 0 0, .int .i64 0, .int .i64 0, .int .i64 0]) (pl := [(0, 3), (3, 1), (4, 1), (5, 1), (6, 1), (7, 1), (8, 1), (9, 1), (10, 1), (11, 1), (12, 1), (13, 1), (14, 1), (15, 1), (16, 1)]) [_, _, _, _, _, _, _, _, _, _, _, _, _, _, _, _, _] iq je O (fun w => by kernel_rfl) O (.agg (us := [_, _, _]) (zs := [.slice none 0 0, .int .i64 0, .int .i64 0]) O O (.on (.on (.on (.on (.on (.on (.on (.on (.one (Rd.one ((Qa.f8).aT)) (.on (.one (Rd.one ((Qa.f5).aT)) (.on (.on (.on .nil))))))))))))))) O) ?_
    refine fQ 65 O (by kernel_rfl) (bW 0 (l' := [_, _, _, _, _, _, _, _, _, _, _, _, _, _, _, _, _]) (us := [_, _, _, _, _, _, _, _, _, _, _, _, _, _, _, _, _]) Qa.f11 sizeOf50 O O O (aX (by first | rfl | exact Rd.one ((Qa.f12).aT)) (aA (aA (aA (aA (aA (aA (aA (aA (aA (aA (aX (by first | rfl | exact Rd.one ((Qa.f8).aT)) (aA (aX (by first | rfl | exact Rd.one ((Qa.f5).aT)) (aA (aA (aA bD))))))))))))))))) O O) ?_
    rintro _ w40 H40
    have ach := V.kp (H40.f17.f17.f17.f17.f17.f17.f17.f17.f17.f17.f17.f17.f17.f17.f17.f17.f17)
    refine gV ach (by kernel_rfl) ?_
    refine qR ?_
    refine cO (_, _, _, _, _, _) oO kD (by (try dsimp only); exact H40.f14.f17.f17.f8.f17.f12.f10.f12.f11.f15.f17.f13.f14.f16.f16.f17.f17)
  ·skip
   refine jP 64 O (by kernel_rfl) (fM (l := [_, _, _, _, _, _, _, _, _, _, _, _, _, _, _, _, _]) Wq je O) (mg O) ?_
   rintro _ w41 ⟨b41, rfl, Yd⟩
   have VX := V.kp (Yd.f8.right.f8.right.f11.f11.f11.f11.f11.f11.f11.f11.f11.f11.f11)
   refine dX VX (fun W hW => (Kp.h hW).right.f10.f10.f10.f10.f10.f10.f10.f10.f10.f10) ?_
   refine oC 1 O (yJ O func28 (EP Yd.f4.f4)) ?_
   rintro _ w42 ⟨u42, rfl, H42⟩
   have JJ := V.kp (H42.f9.right.f9.right.f12.f12.f12.f12.f12.f12.f12.f12.f12.f12.f12.f12)
   refine dX JJ (fun W hW => (Kp.h hW).right.f11.f11.f11.f11.f11.f11.f11.f9.f9.f11.f11) ?_
   refine oC 40 O (yJ O func33 (y5 H42.f6.f3)) ?_
   rintro u43 w43 ⟨afb, H43⟩
   have VY := V.kp (H43.f11.right.f11.right.f14.f14.f14.f14.f14.f14.f14.f14.f14.f14.f14.f14.f14.f14)
   refine dX VY (fun W hW => (Kp.h hW).right.right.f12.f12.f12.f12.f12.f12.f8.f12.f12.f12.f11.f12) ?_
   refine oC 50 O (yJ O func66 (vF H43.f12.f11.f11.f6)) ?_
   rintro u44 w44 Zg
   have aci := V.kp (Zg.f13.right.f16.f16.f16.f16.f16.f16.f16.f16.f16.f16.f16.f16.f16.f16.f16.f16)
   refine dX aci (fun W hW => (Kp.h hW).right.f4.right.f14.f14.f14.f14.f7.f7.f14.f14.f14.f14.f14.f12.f14.f14) ?_
   refine oC 52 O (yJ O func67 (qE Zg.f15.f14.f5.f5 hU)) ?_
   rintro _ w45 ⟨rfl, OD⟩
   have acj := V.kp (OD.f17.f17.f17.f17.f17.f17.f17.f17.f17.f17.f17.f17.f17.f17.f17.f17.f17)
   refine dX acj (fun W hW => (Kp.h hW).f3.right.f16.f16.f5.f16.f16.f16.f16.f16.f16.f16.f16.f16.f16.f15.f15.f16) ?_
   refine oC 62 O (yJ O func68 (ng OD.f15)) ?_
   rintro _ _ ⟨rfl, rfl⟩
   have Zp := V.kp (OD.f17.f17.f17.f17.f17.f17.f17.f17.f17.f17.f17.f17.f17.f17.f17.f17.f17)
   refine dX Zp (fun W hW => (Kp.h hW).f17.f17.f17.f17.f17.f17.f17.f17.f17.f17.f17.f17.f17.f17.f17.f17.f17) ?_
   refine jC 63 O Zp (fun _ => dW (zl := [.slice none 0 0, .int .i64 0, .int .i64 0, .int .i64 0, .bool false, .bool false, .bool false, .int .i64 0, .int .i64 0, .int .i64 0, .int .i64 0, .slice none 0 0, .int .i64 0, .slice none 0 0, .int .i64 0, .int .i64 0, .int .i64 0]) (pl := [(0, 3), (3, 1), (4, 1), (5, 1), (6, 1), (7, 1), (8, 1), (9, 1), (10, 1), (11, 1), (12, 1), (13, 1), (14, 1), (15, 1), (16, 1)]) [_, _, _, _, _, _, _, _, _, _, _, _, _, _, _, _, _] iq je O (fun w => by kernel_rfl) O (.agg (us := [_, _, _]) (zs := [.slice none 0 0, .int .i64 0, .int .i64 0]) O O (.on (.on (.on (.on (.on (.on (.on (.on (.one (Rd.one ((OD.f8).aT)) (.on (.one (Rd.one ((OD.f5).aT)) (.on (.on (.on .nil))))))))))))))) O) ?_
   refine fQ 65 O (by kernel_rfl) (bW 0 (l' := [_, _, _, _, _, _, _, _, _, _, _, _, _, _, _, _, _]) (us := [_, _, _, _, _, _, _, _, _, _, _, _, _, _, _, _, _]) OD.f13 sizeOf50 O O O (aX (by first | rfl | exact Rd.one ((OD.f11).aT)) (aA (aA (aA (aA (aA (aA (aA (aA (aA (aA (aX (by first | rfl | exact Rd.one ((OD.f8).aT)) (aA (aX (by first | rfl | exact Rd.one ((OD.f5).aT)) (aA (aA (aA bD))))))))))))))))) O O) ?_
   rintro _ w47 H47
   have ack := V.kp (H47.f17.f17.f17.f17.f17.f17.f17.f17.f17.f17.f17.f17.f17.f17.f17.f17.f17)
   refine gV ack (by kernel_rfl) ?_
   refine qR ?_
   refine cO (_, _, _, _, _, _) oO kD (by (try dsimp only); exact H47.f14.f17.f17.f8.f17.f12.f10.f12.f11.f15.f17.f13.f14.f16.f16.f17.f17)
end
end Go.Proofs.YtpdeedplgmbopaaGreatDoor
end
section
namespace Go.Proofs.YtpdeedplgmbopaaGreatDoor
open Go.RowKit
theorem ER {P : Program} {L : List (Nat × Value)} {w : World} {ty t : TypeId} {fs : Array Field} {f : Field} {i : Nat} {x : Operand} {cs : Array Value} {u : Value} (off : Nat) (ht : P.underlying t = some (.struct fs)) (hf : fs[i]? = some f) (ho : f.offset = off) (hp : pG P f.type = true) (hx : ev L x = some (.agg cs)) (hc : cs[off]? = some u) :
    Val P L (.field t x i) ty w u w := fun ρ hρ _ _ _ _ => by
  simp [execOp, hρ _ _ hx, Instr.field, run_underlying ht, hf, part, asAgg, CQ hp, ho, hc]
end Go.Proofs.YtpdeedplgmbopaaGreatDoor
end
