import Derived.Test.YtpdeedplgmbopaaGreatDoorZ4
import Derived.Test.YtpdeedplgmbopaaGreatDoorZ14
import Derived.Test.YtpdeedplgmbopaaGreatDoorZ2
set_option linter.unusedSimpArgs false
set_option linter.unusedVariables false
/- Texts of mine, joined, their names in short: EdS2 EdS3 FieldVal. -/
section
namespace Go.Proofs.YtpdeedplgmbopaaGreatDoor
open Go.RowKit
open _root_.Go.Proofs.Tryz
theorem NT {D : List Int} {P : Int → Nat} {k : Int} (h : (GV D P k).isSome = true) : k ∈ D := by
  unfold GV at h
  split at h
  · assumption
  · cases h
theorem KW {D : List Int} {P : Int → Nat} {k : Int} (h : (GV D P k).isSome = false) : k ∉ D := by
  unfold GV at h
  split at h
  · cases h
  · assumption
def Rq (x : Int × ByteArray) : List Value := [.int .i64 x.1, .string x.2]
theorem NU {hl : List pR} {tx : Int → Option ByteArray} {place : Int} {i : Nat} (h : Au hl tx place i = true) : pU hl tx place (i + 1) = pU hl tx place i ++ [((i : Int), jl hl tx i)] := by
  unfold pU; rw [List.range_succ, List.filter_append, List.map_append]; simp [List.filter, h]
theorem Hf {hl : List pR} {tx : Int → Option ByteArray} {place : Int} {i : Nat} (h : Au hl tx place i = false) : pU hl tx place (i + 1) = pU hl tx place i := by
  unfold pU; rw [List.range_succ, List.filter_append, List.map_append]; simp [List.filter, h]
theorem um (hl : List pR) (tx : Int → Option ByteArray) (place : Int) (i : Nat) : (pU hl tx place i).length ≤ i := by
  unfold pU; rw [List.length_map]
  exact Nat.le_trans (List.length_filter_le _ _) (by simp)
def xC (E : List (List Int)) (a : Nat) : List (List Int) := E.drop a ++ E.take a
def Wh (n a i : Nat) : Nat := if i = 0 then a else (a + (i - 1)) % n
theorem Tn {n a i : Nat} : DY n (Wh n a i) (min (i : Int) 1) = Wh n a (i + 1) := by
  cases i with
  | zero =>
    show (((a : Int) + min ((0 : Nat) : Int) 1) % (n : Int)).toNat = (a + (0 + 1 - 1)) % n
    rw [show min ((0 : Nat) : Int) 1 = 0 by omega, Int.add_zero, show ((a : Int) % (n : Int)) = ((a % n : Nat) : Int) from rfl, Int.toNat_natCast]
    rfl
  | succ j =>
    show (((((a + (j + 1 - 1)) % n : Nat) : Int) + min ((j + 1 : Nat) : Int) 1) % (n : Int)).toNat = (a + (j + 1 + 1 - 1)) % n
    rw [show min ((j + 1 : Nat) : Int) 1 = ((1 : Nat) : Int) by omega, show ((((a + (j + 1 - 1)) % n : Nat) : Int) + ((1 : Nat) : Int)) % (n : Int) = ((((a + (j + 1 - 1)) % n + 1) % n : Nat) : Int) from rfl, Int.toNat_natCast, Nat.mod_add_mod]
    congr 1
theorem Tq {E : List (List Int)} {a i : Nat} (h : i < E.length) (ha : a < E.length) : (xC E a).getD i [] = E.getD (Wh E.length a (i + 1)) [] := by
  unfold xC Wh
  rw [if_neg (by omega), Nat.add_sub_cancel, List.getD_eq_getElem?_getD, List.getD_eq_getElem?_getD]
  by_cases hi : i < E.length - a
  · rw [List.getElem?_append_left (by simpa using hi), List.getElem?_drop, Nat.mod_eq_of_lt (by omega)]
  · rw [List.getElem?_append_right (by simpa using hi), List.length_drop, List.getElem?_take, if_pos (by omega)]
    have : (a + i) % E.length = i - (E.length - a) := by
      rw [show a + i = (i - (E.length - a)) + E.length by omega, Nat.add_mod_right, Nat.mod_eq_of_lt (by omega)]
    rw [this]
theorem Hg {α : Type _} {l : List α} {k : Nat} {d : α} (h : k < l.length) : l.take (k + 1) = l.take k ++ [l.getD k d] := by rw [List.take_succ_eq_append_getElem h, List.getD_eq_getElem?_getD, List.getElem?_eq_getElem h]; rfl
theorem JH (E : List (List Int)) (a : Nat) : (xC E a).length = E.length := by unfold xC; simp; omega
section
variable {w0 w : World} {F : HP} {e p ph pw pt pr pm pb : Nat} {s : dG} {k x place : Int} {hl : List pR} {base most cls : Int} {tx : Int → Option ByteArray} {v pv : Value} {U : Int → List (List iT)} {put : List iT} {xs : List Value} {inn run whole : Bool} {E : List (List Int)} {a : Nat} {L : List Int} {pnt mk : Int}
theorem Ae {x0 x1 x2 x3 x4 x5 x6 x7 x8 x9 x10 x12 uS x14 x15 x16 x17 x18 x19 x20 x21 vJ x23 x24 x25 wz x27 x28 x29 x30 x31 x32 wZ : Value} (H : V w0 w (dL e (.cells (x0 :: x1 :: x2 :: x3 :: x4 :: x5 :: x6 :: x7 :: x8 :: x9 :: x10 :: .pointer (some ⟨ph, 0, none⟩) :: x12 :: uS :: x14 :: x15 :: x16 :: x17 :: x18 :: x19 :: x20 :: x21 :: vJ :: x23 :: x24 :: x25 :: wz :: x27 :: x28 :: x29 :: x30 :: x31 :: x32 :: wZ :: []).toArray 82 (0, 0)) • F)) : gJ prog 65 #[.pointer (some ⟨e, 0, none⟩)] w fun v w' => v = .bool false ∧ w = w' := by
  refine iG func65 ntmps65 ?_
  refine jr O (bT O (aV (iR kH O O) (jF O (fun h1 => ?_) (fun h1 => ?_))))
  · (try simp only [Z] at h1)
    exfalso; first | contradiction | omega
  · (try simp only [Z] at h1)
    refine bC (bP O (bC (dJ O (bC (bD 11 ah O sizeOf78 O (bC (fZ jM O (H).get.2 O (bC (aV (iR jM O O) (iL O O (fC O (dH results65 O ?_))))))))))))
    exact ⟨O, O⟩
theorem qB {x0 x1 x4 x5 x6 x7 x8 x9 x11 x12 uS x14 x15 x17 x18 x19 x20 x21 vJ x23 x24 x25 wz x27 x29 x30 x31 : Value} (H : V w0 w (dL e (.cells (x0 :: x1 :: .pointer (some ⟨pw, 0, none⟩) :: .map (some pm) :: x4 :: x5 :: x6 :: x7 :: x8 :: x9 :: .bool run :: x11 :: x12 :: uS :: x14 :: x15 :: .bool inn :: x17 :: x18 :: x19 :: x20 :: x21 :: vJ :: x23 :: x24 :: x25 :: wz :: x27 :: .int .i64 cls :: x29 :: x30 :: x31 :: .bool whole :: pv :: []).toArray 82 (0, 0)) • dL pw (.cells #[.int .i64 k, .map (some pt)] 122 (0, 0)) • wV pm U • Row 189 3 pv put.length xs • F)) (hU : (U k).length ≤ 16384) :
    gJ prog 67 #[.pointer (some ⟨e, 0, none⟩)] w fun v' w' => v' = .int .i64 (qx (U k) inn put (cls == 3 && whole) run) ∧
      V w0 w' (dL e (.cells (x0 :: x1 :: .pointer (some ⟨pw, 0, none⟩) :: .map (some pm) :: x4 :: x5 :: x6 :: x7 :: x8 :: x9 :: .bool run :: x11 :: x12 :: uS :: x14 :: x15 :: .bool inn :: x17 :: x18 :: x19 :: x20 :: x21 :: vJ :: x23 :: x24 :: x25 :: wz :: x27 :: .int .i64 cls :: x29 :: x30 :: x31 :: .bool whole :: pv :: []).toArray 82 (0, 0)) • dL pw (.cells #[.int .i64 k, .map (some pt)] 122 (0, 0)) • wV pm U • Row 189 3 pv put.length xs • F) := by
  refine iG func67 ntmps67 ?_
  refine jr O (jr O ?_)
  refine kS [(0, _)] (fun (_ : Unit) => [(3, .int .i64 ((U k).length : Int))]) (fun (_ : Unit) W => V w0 W (dL e (.cells (x0 :: x1 :: .pointer (some ⟨pw, 0, none⟩) :: .map (some pm) :: x4 :: x5 :: x6 :: x7 :: x8 :: x9 :: .bool run :: x11 :: x12 :: uS :: x14 :: x15 :: .bool inn :: x17 :: x18 :: x19 :: x20 :: x21 :: vJ :: x23 :: x24 :: x25 :: wz :: x27 :: .int .i64 cls :: x29 :: x30 :: x31 :: .bool whole :: pv :: []).toArray 82 (0, 0)) • dL pw (.cells #[.int .i64 k, .map (some pt)] 122 (0, 0)) • wV pm U • Row 189 3 pv put.length xs • F)) lG ?_ ?_
  · rintro _ w1 HJ
    dsimp only [List.cons_append, List.nil_append]
    refine aP (bT O (dJ O (bD 16 ah O aO O (fZ bK O (HJ).get.2 O (jF O (fun h1 => ?_) (fun h1 => ?_))))))
    · (try simp only [Z] at h1)
      have hin := h1
      refine bC (bP O (bC (dJ O (bC (bD 33 ah O bH O (bC (fZ aU O (HJ).get.2 O (bC (aV (jw ((HJ.f4).aS) aU O) (bC (aV (iV O O) (jE O O (jF O (fun h2 => ?_) (fun h2 => ?_))))))))))))))
      · (try simp only [Z] at h2)
        have hno : put.isEmpty = false := by rw [oI]; exact decide_eq_false (by omega)
        refine bC (bP O (bC (dJ O (bC (bD 28 ah O aj O (bC (fZ aK O (HJ).get.2 O (bC (aV (dR O O) (bC (jF O (fun h3 => ?_) (fun h3 => ?_))))))))))))
        · (try simp only [Z] at h3)
          have hcl := h3
          refine bC (bP O (bC (dJ O (bC (bD 32 ah O aO O (bC (fZ bK O (HJ).get.2 O (bC (jE O O (bC (jF O (fun h4 => ?_) (fun h4 => ?_))))))))))))
          · (try simp only [Z] at h4)
            have hwh := h4
            refine bC (bP O (bC (dJ O (bC (bD 0 ah O aQ O (bC (bD 10 aG O aO O (bC (fZ bK O (HJ).get.2 O (bC (jE O O (bC (aV (kT O) (jE O O (je O (fun h5 => ?_) (fun h5 => ?_))))))))))))))))
            · (try simp only [Z] at h5)
              have hrn := h5
              refine aC (bP O (aV (fQ O O (by omega)) (gI O (bT O (fC O (dH results67 O ?_))))))
              refine ⟨?_, HJ.f4.f4.f4.f4⟩
              congr 1
              unfold qx
              first
                | exact absurd hrn (by decide)
                | (simp [hin]; done)
                | (simp [hin, hno]; done)
                | (simp [hin, hno, hcl]; done)
                | (simp [hin, hno, hcl, hwh]; done)
                | (simp [hin, hno, hcl, hwh, hrn]; done)
            · (try simp only [Z] at h5)
              have hrn := h5
              refine gq (bT O (fC O (dH results67 O ?_)))
              refine ⟨?_, HJ.f4.f4.f4.f4⟩
              congr 1
              unfold qx
              first
                | exact absurd hrn (by decide)
                | (simp [hin]; done)
                | (simp [hin, hno]; done)
                | (simp [hin, hno, hcl]; done)
                | (simp [hin, hno, hcl, hwh]; done)
                | (simp [hin, hno, hcl, hwh, hrn]; done)
          · (try simp only [Z] at h4)
            have hwh := h4
            refine bJ (bJ (bJ (bJ (bJ (bC (iL O O (bC (aV (kT O) (jE O O (je O (fun h6 => ?_) (fun h6 => ?_)))))))))))
            · (try simp only [Z] at h6)
              have hrn := h6
              refine aC (bP O (aV (fQ O O (by omega)) (gI O (bT O (fC O (dH results67 O ?_))))))
              refine ⟨?_, HJ.f4.f4.f4.f4⟩
              congr 1
              unfold qx
              first
                | exact absurd hrn (by decide)
                | (simp [hin]; done)
                | (simp [hin, hno]; done)
                | (simp [hin, hno, hcl]; done)
                | (simp [hin, hno, hcl, hwh]; done)
                | (simp [hin, hno, hcl, hwh, hrn]; done)
            · (try simp only [Z] at h6)
              have hrn := h6
              refine gq (bT O (fC O (dH results67 O ?_)))
              refine ⟨?_, HJ.f4.f4.f4.f4⟩
              congr 1
              unfold qx
              first
                | exact absurd hrn (by decide)
                | (simp [hin]; done)
                | (simp [hin, hno]; done)
                | (simp [hin, hno, hcl]; done)
                | (simp [hin, hno, hcl, hwh]; done)
                | (simp [hin, hno, hcl, hwh, hrn]; done)
        · (try simp only [Z] at h3)
          have hcl := h3
          refine bJ (bJ (bJ (bJ (bC (iL O O (bC (bP O (bJ (bJ (bJ (bJ (bJ (bC (iL O O (bC (aV (kT O) (jE O O (je O (fun h7 => ?_) (fun h7 => ?_)))))))))))))))))))
          · (try simp only [Z] at h7)
            have hrn := h7
            refine aC (bP O (aV (fQ O O (by omega)) (gI O (bT O (fC O (dH results67 O ?_))))))
            refine ⟨?_, HJ.f4.f4.f4.f4⟩
            congr 1
            unfold qx
            first
              | exact absurd hrn (by decide)
              | (simp [hin]; done)
              | (simp [hin, hno]; done)
              | (simp [hin, hno, hcl]; done)
              | (simp [hin, hno, hcl, hwh]; done)
              | (simp [hin, hno, hcl, hwh, hrn]; done)
          · (try simp only [Z] at h7)
            have hrn := h7
            refine gq (bT O (fC O (dH results67 O ?_)))
            refine ⟨?_, HJ.f4.f4.f4.f4⟩
            congr 1
            unfold qx
            first
              | exact absurd hrn (by decide)
              | (simp [hin]; done)
              | (simp [hin, hno]; done)
              | (simp [hin, hno, hcl]; done)
              | (simp [hin, hno, hcl, hwh]; done)
              | (simp [hin, hno, hcl, hwh, hrn]; done)
      · (try simp only [Z] at h2)
        have hno : put.isEmpty = true := by rw [oI]; exact decide_eq_true (by omega)
        refine bJ (bJ (bJ (bJ (bJ (bJ (mW (mW (mW (mW (bJ (bJ (mW (mW (mW (mW (mW (bJ (bJ (iL O O (iJ (qF (gq (bT O (fC O (dH results67 O ?_)))))))))))))))))))))))))
        refine ⟨?_, HJ.f4.f4.f4.f4⟩
        congr 1
        unfold qx
        first
          | exact absurd hrn (by decide)
          | (simp [hin]; done)
          | (simp [hin, hno]; done)
          | (simp [hin, hno, hcl]; done)
          | (simp [hin, hno, hcl, hwh]; done)
          | (simp [hin, hno, hcl, hwh, hrn]; done)
    · (try simp only [Z] at h1)
      have hin := h1
      refine bJ (bJ (bJ (bJ (bJ (bJ (iL O O (bP O (bJ (bJ (bJ (bJ (bJ (bJ (mW (mW (mW (mW (bJ (bJ (mW (mW (mW (mW (mW (bJ (bJ (iL O O (iJ (qF (gq (bT O (fC O ?_))))))))))))))))))))))))))))))))
      refine dH results67 O ?_
      refine ⟨?_, HJ.f4.f4.f4.f4⟩
      congr 1
      unfold qx
      first
        | exact absurd hrn (by decide)
        | (simp [hin]; done)
        | (simp [hin, hno]; done)
        | (simp [hin, hno, hcl]; done)
        | (simp [hin, hno, hcl, hwh]; done)
        | (simp [hin, hno, hcl, hwh, hrn]; done)
  · skip
    refine aP ?_
    obtain ⟨D, P, hD1, hD2, HU⟩ := (H.f3).XZ
    have Qe := HU.drew
    have lV := V.kp (Qe.f5.f5.f5.f5.f5)
    refine yw [4, 9, 12, 13] lV O (jB 0 O lV O (kJ 1 O lV O (gU 2 O lV 0 ah O aQ O (gU 3 O lV 3 aG O sizeOf75 O (jT 4 O lV (fun W hW => kC kF O ((Kp.h hW).f3).get.2 O) (jB 5 O lV O (kJ 6 O lV O (gU 7 O lV 0 ah O aQ O (gU 8 O lV 2 aG O sizeOf74 O (jT 9 O lV (fun W hW => kC kE O ((Kp.h hW).f3).get.2 O) (kJ 10 O lV O (gU 11 O lV 0 eX O aj O (jT 12 O lV (fun W hW => kC aK O ((Kp.h hW).f4).get.2 O) (jT 13 O lV (fun W hW => LJ (MS ((Kp.h hW)) kF aK zeroValue184 O O) (Q8 D P k)) (ji 14 O lV (fun _ => dN O) (qU (aX (bT O (aV (OI underlying184 O O) (je O (fun h8 => ?_) (fun h8 => ?_)))))))))))))))))))))
    · (try simp only [Z] at h8)
      have hmem := NT h8
      rw [Nz hmem]
      have HF := Qe.f2
      rw [qP hmem] at HF
      have HF2 := HF.flat
      refine aC (bP O (dY O func120 (Ky HF2) ?_))
      rintro _ w2 ⟨rfl, H2⟩
      have SC := H2.f2.f2
      have QK := V.of_eq SC (by rw [← bW, ← qP hmem])
      have ZP := QK.f2
      have ZQ := V.Az hD1 hD2 ZP
      refine fV O (bM ?_)
      refine dn (()) ?_ ?_ ?_
      · exact (Sub.jC O (by first | (rw [hD2 _ hnm]; rfl) | (simp; done)) (Sub.nil _))
      · exact lG
      · (try dsimp only)
        first | done | exact ZQ.f4.f2.f4.f4
    · (try simp only [Z] at h8)
      have hnm := KW h8
      have U1 := Qe.f2.f2
      have U2 := V.Az hD1 hD2 U1
      refine bZ ?_
      refine dn (()) ?_ ?_ ?_
      · exact (Sub.jC O (by first | (rw [hD2 _ hnm]; rfl) | (simp; done)) (Sub.nil _))
      · exact lG
      · (try dsimp only)
        first | done | exact U2.f4.f2.f4.f4
theorem y9 {x0 x2 x3 x4 x5 x6 x7 x8 x9 x10 x12 uS x14 x15 x16 x17 x18 x19 x20 x21 vJ x23 x24 x25 wz x27 x28 x29 x30 x31 x32 wZ : Value} (H : V w0 w (dL e (.cells (x0 :: .pointer (some ⟨pr, 0, none⟩) :: x2 :: x3 :: x4 :: x5 :: x6 :: x7 :: x8 :: x9 :: x10 :: .pointer (some ⟨ph, 0, none⟩) :: x12 :: uS :: x14 :: x15 :: x16 :: x17 :: x18 :: x19 :: x20 :: x21 :: vJ :: x23 :: x24 :: x25 :: wz :: x27 :: x28 :: x29 :: x30 :: x31 :: x32 :: wZ :: []).toArray 82 (0, 0)) • iD pr E a • F)) : gJ prog 33 #[.pointer (some ⟨e, 0, none⟩)] w fun v' w' =>
  ∃ us, V w0 w' (Row 22 1 v' E.length us • E8 21 .i32 us (xC E a) • dL e (.cells (x0 :: .pointer (some ⟨pr, 0, none⟩) :: x2 :: x3 :: x4 :: x5 :: x6 :: x7 :: x8 :: x9 :: x10 :: .pointer (some ⟨ph, 0, none⟩) :: x12 :: uS :: x14 :: x15 :: x16 :: x17 :: x18 :: x19 :: x20 :: x21 :: vJ :: x23 :: x24 :: x25 :: wz :: x27 :: x28 :: x29 :: x30 :: x31 :: x32 :: wZ :: []).toArray 82 (0, 0)) • iD pr E a • F) := by
 obtain ⟨hE1, hE2, hE3⟩ := O5 H.swap
 refine iG func33 ntmps33 ?_
 refine jr O (aP (bT O (dY O func65 (Ae H) ?_)))
 rintro _ _ ⟨rfl, rfl⟩
 refine iJ (qF (gq (jr O (bT O (dJ O (bD 0 ah O aQ O (bD 1 aG O sizeOf73 O (fZ tq O (H).get.2 O (dY O func85 (zN H.f2) ?_)))))))))
 rintro _ w2 ⟨pc2, rfl, H2⟩
 refine wu O (bT O (dY O func86 (Ku H2) ?_))
 rintro _ _ ⟨rfl, rfl⟩
 refine bP O (iJ (aY ?_))
 obtain ⟨R4, hR4, HR4⟩ := V.aa3 (H2)
 refine fF [(4, _), (17, _)] (fun (⟨i, u⟩ : Nat × Value) => [(3, u), (18, .int .i64 (i : Int))]) (fun (⟨i, u⟩ : Nat × Value) W => i ≤ E.length ∧ ∃ us, V w0 W (Row 22 1 u i us • E8 21 .i32 us ((xC E a).take i) • iD pc2 E (Wh E.length a i) • R4)) (fun (⟨i, u⟩ : Nat × Value) => E.length - i) ((0, .slice none 0 0)) qG qG ⟨by omega, [], HR4.V9.iO none⟩ ?_
 rintro ⟨i, u⟩ w5 ⟨hi, us, HL⟩
 dsimp only [List.cons_append, List.nil_append]
 refine iH (aV (gY O O) (pK (bI O (fun h1 => ?_) (fun h1 => ?_))))
 ·(try simp only [Z] at h1)
  refine gq (aP (aY (bT O (gI O (bT O (bP O (aV (CB O O) (dY O func87 (EW HL.f3) ?_))))))))
  rintro _ w6 ⟨u6, rfl, H6⟩
  have hne : ¬ E.length = 0 := by omega
  have HX := H6
  simp only [if_neg hne] at HX
  refine bP O (qQ O O (qQ O O (fV O (gI O (aC (jG O O (jv (jR (vs := [_]) HX iK dM zeroValue22 O O O (by decide) (aW (by first | rfl | exact Rd.one ((HX).aS)) bF)) ?_)))))))
  rintro l7 w7 H7
  refine jv (fU H7.f4 iK Zl O O O ((H7).aS) (aW (by first | rfl | exact Rd.one ((H7.f2).aS)) bF) (by omega) (by omega)) ?_
  rintro l8 w8 H8
  have Hd9 := H8.f2.right
  refine fV O (bM (aJ (aX (aC (aV (fQ O O (by omega)) (bP O (bM ?_)))))))
  have HS := (Hd9.f3.f2.f3.f4).AO.f2
  refine dK ((i + 1, l8)) ?_ ?_ ?_ ?_
  ·exact qG
  ·exact qG
  ·(try dsimp only)
   first | done | exact ⟨by omega, _, by rw [Hg (d := []) (by rw [JH]; omega), Tq (by omega) (by omega), ← Tn]; exact HS⟩
  ·(try dsimp only); omega
 ·(try simp only [Z] at h1)
  refine dB (aI ?_)
  obtain rfl : i = E.length := by omega
  have HK := HL
  rw [List.take_of_length_le (by rw [JH]; exact Nat.le_refl _)] at HK
  subst hR4
  refine aI (bf (aX (bT O (fC O (dH results33 O ?_)))))
  exact ⟨_, HK.f3.right.f3.f4.f4.f4⟩
end
def Qg (s : dG) (u ks sv : Value) : List Value := [u, .int .i64 s.c.pt, .int .i64 s.c.mark, .int .i64 s.c.mode, .bool s.c.over, .bool s.given, .bool s.minus, .int .i64 s.arg, .int .i64 s.zu, .int .i64 s.TY, .int .i64 s.Ua, ks, .int .i64 s.c.place, sv, .int .i64 s.Vb, .int .i64 s.c.res, .int .i64 s.qO]
section
variable {w0 w : World} {F : HP} {e p ph pw pt pr pm pb : Nat} {s : dG} {k x place : Int} {hl : List pR} {base most cls : Int} {tx : Int → Option ByteArray} {v pv : Value} {U : Int → List (List iT)} {L : List Int} {pnt mk : Int}
theorem EN {x1 x2 x3 x4 x5 x6 x7 x8 x9 x10 x12 uS x14 x15 x16 x17 x18 x19 x20 x21 vJ x23 x24 x25 wz x27 x28 x29 x30 x31 x32 wZ : Value} (H : V w0 w (dL e (.cells (.pointer (some ⟨pb, 0, none⟩) :: x1 :: x2 :: x3 :: x4 :: x5 :: x6 :: x7 :: x8 :: x9 :: x10 :: .pointer (some ⟨ph, 0, none⟩) :: x12 :: uS :: x14 :: x15 :: x16 :: x17 :: x18 :: x19 :: x20 :: x21 :: vJ :: x23 :: x24 :: x25 :: wz :: x27 :: x28 :: x29 :: x30 :: x31 :: x32 :: wZ :: []).toArray 82 (0, 0)) • iZ pb L pnt mk • F)) : gJ prog 28 #[.pointer (some ⟨e, 0, none⟩)] w fun v' w' =>
  ∃ u, v' = .agg (rW u pnt mk) ∧ V w0 w' (kW 21 .i32 u L • dL e (.cells (.pointer (some ⟨pb, 0, none⟩) :: x1 :: x2 :: x3 :: x4 :: x5 :: x6 :: x7 :: x8 :: x9 :: x10 :: .pointer (some ⟨ph, 0, none⟩) :: x12 :: uS :: x14 :: x15 :: x16 :: x17 :: x18 :: x19 :: x20 :: x21 :: vJ :: x23 :: x24 :: x25 :: wz :: x27 :: x28 :: x29 :: x30 :: x31 :: x32 :: wZ :: []).toArray 82 (0, 0)) • iZ pb L pnt mk • F) := by
 refine iG func28 ntmps28 ?_
 refine iH (jv (fJ (l := [_, _, _]) H zeroValue46 O) ?_)
 rintro _ w1 ⟨b1, rfl, H1⟩
 refine pK (bT O (dY O func65 (Ae H1.f2) ?_))
 rintro _ _ ⟨rfl, rfl⟩
 refine iJ (qF (gq (bT O (dJ O (bD 0 ah O aQ O (bD 0 aG O vM O (fZ qo O (H1.f2).get.2 O (dY O func79 (CY H1.f3) ?_))))))))
 rintro _ w3 ⟨u3, rfl, H3⟩
 refine aH (bU 0 (l' := [_, _, _]) (us := [_, _, _]) H3.f3 sizeOf46 O O O (aW (by first | rfl | exact Rd.one ((H3).aS)) (aA (aA bF))) O O) ?_
 rintro _ w4 H4
 refine YU ?_
 refine pX (.inl O) (J3 results28 O jk O (by rw [Uw]; rfl) (H4).get.2) ?_
 exact ⟨_, O, H4.right.f2.f3.f3⟩
theorem vG {x0 x1 x3 x4 x5 x6 x7 x8 x9 x10 x12 uS x14 x15 x16 x17 x18 x19 x20 x21 vJ x23 x24 x25 wz x27 x28 x29 x30 x31 x32 wZ : Value} (H : V w0 w (dL e (.cells (x0 :: x1 :: .pointer (some ⟨pw, 0, none⟩) :: x3 :: x4 :: x5 :: x6 :: x7 :: x8 :: x9 :: x10 :: .pointer (some ⟨ph, 0, none⟩) :: x12 :: uS :: x14 :: x15 :: x16 :: x17 :: x18 :: x19 :: x20 :: x21 :: vJ :: x23 :: x24 :: x25 :: wz :: x27 :: x28 :: x29 :: x30 :: x31 :: x32 :: wZ :: []).toArray 82 (0, 0)) • dL pw (.cells #[.int .i64 place, .map (some pt)] 122 (0, 0)) • fG qI pt (rP tx) • gK ph hl base most • F)) :
    gJ prog 66 #[.pointer (some ⟨e, 0, none⟩)] w fun v' w' => V w0 w' (Row 133 2 v' (yY hl tx place).length ((yY hl tx place).flatMap Rq) •
      dL e (.cells (x0 :: x1 :: .pointer (some ⟨pw, 0, none⟩) :: x3 :: x4 :: x5 :: x6 :: x7 :: x8 :: x9 :: x10 :: .pointer (some ⟨ph, 0, none⟩) :: x12 :: uS :: x14 :: x15 :: x16 :: x17 :: x18 :: x19 :: x20 :: x21 :: vJ :: x23 :: x24 :: x25 :: wz :: x27 :: x28 :: x29 :: x30 :: x31 :: x32 :: wZ :: []).toArray 82 (0, 0)) • dL pw (.cells #[.int .i64 place, .map (some pt)] 122 (0, 0)) • fG qI pt (rP tx) • gK ph hl base most • F) := by
  have hb : hl.length ≤ 4096 := by obtain ⟨v, h, _⟩ := H.r4.hist; exact h.1
  refine iG func66 ntmps66 ?_
  refine jr O (jr O (bT O (dJ O (bD 11 ah O sizeOf78 O (fZ jM O (H).get.2 O (dY O func117 (nX H.f4) ?_))))))
  rintro _ w1 ⟨rfl, H1⟩
  refine wu O (bT O (bP O (iJ (aY ?_))))
  refine fF [(0, _), (4, _), (11, _)] (fun (⟨i, u⟩ : Nat × Value) => [(3, u), (12, .int .i64 (i : Int))]) (fun (⟨i, u⟩ : Nat × Value) W => i ≤ hl.length ∧ V w0 W (Row 133 2 u (pU hl tx place i).length ((pU hl tx place i).flatMap Rq) • dL e (.cells (x0 :: x1 :: .pointer (some ⟨pw, 0, none⟩) :: x3 :: x4 :: x5 :: x6 :: x7 :: x8 :: x9 :: x10 :: .pointer (some ⟨ph, 0, none⟩) :: x12 :: uS :: x14 :: x15 :: x16 :: x17 :: x18 :: x19 :: x20 :: x21 :: vJ :: x23 :: x24 :: x25 :: wz :: x27 :: x28 :: x29 :: x30 :: x31 :: x32 :: wZ :: []).toArray 82 (0, 0)) • dL pw (.cells #[.int .i64 place, .map (some pt)] 122 (0, 0)) • fG qI pt (rP tx) • gK ph hl base most • F)) (fun (⟨i, u⟩ : Nat × Value) => hl.length - i) ((0, .slice none 0 0)) uH qG ⟨by omega, H1.f4.f4.f4.iO none⟩ ?_
  rintro ⟨i, u⟩ w2 ⟨hi, HL⟩
  dsimp only [List.cons_append, List.nil_append]
  refine iH (aV (gY O O) (pK (bI O (fun h1 => ?_) (fun h1 => ?_))))
  · (try simp only [Z] at h1)
    refine gq (aP (aY (bT O (wu O ?_))))
    have hLen := um hl tx place i
    refine aC (jG O O (dJ O (bD 0 ah O aQ O (bD 2 aG O sizeOf74 O (fZ kE O (HL.f2).get.2 O (dJ O (bD 0 eX O aj O (fZ aK O (HL.f3).get.2 O (aV (iU O O) (jF O (fun h2 => ?_) (fun h2 => ?_)))))))))))
    · (try simp only [Z] at h2)
      have hpl := h2
      refine bC (bP O (bC (bP O (bC (dY O func118 (yj HL.f5.f5.f5.f5) ?_)))))
      rintro _ w3 ⟨rfl, H3⟩
      refine bC (bP O (bC (bP O (bC (dY O func119 (Dx H3.f4.f2) ?_)))))
      rintro _ w4 ⟨rfl, H4⟩
      refine bC (aV (Jj O O) (jE O O (je O (fun h3 => ?_) (fun h3 => ?_))))
      · (try simp only [Z] at h3)
        have hsv := NU (hl := hl) (tx := tx) (place := place) (i := i) (by unfold Au; rw [decide_eq_true hpl]; simpa using h3)
        refine aC (jG O O (jG O O (dY O func118 (yj H4.f2.f4.f4.f4) ?_)))
        rintro _ w5 ⟨rfl, H5⟩
        refine aV (dS (zl := [.int .i64 0, .string .empty]) (pl := [(0, 1), (1, 1)]) [_, _] underlying133 zeroValue133 O (fun w => by kernel_rfl) O (.on (.on .nil)) O) ?_
        refine jv (vI H5 underlying48 sizeOf133 zeroValue133 O O O (by decide) (by decide)) ?_
        rintro l6 w6 H6
        refine jv (fU H6.f6 underlying48 Wi O O O ((H6).aS) (aA (aA bF)) (by omega) (by omega)) ?_
        rintro l7 w7 H7
        have Hd8 := H7.f2.right
        refine fV O (bM (aJ (aX (aC (aV (fQ O O (by omega)) (bP O (bM ?_)))))))
        have hLen := um hl tx place i
        refine dK ((i + 1, l7)) ?_ ?_ ?_ ?_
        · exact qG
        · exact uH
        · (try dsimp only)
          first | done | exact ⟨by omega, by first | (rw [hsv, List.length_append, List.flatMap_append]; exact Hd8.f5.f5.f5.f5.f5) | (rw [hsv]; exact Hd8.f5.f5.f5.f5.f5)⟩
        · (try dsimp only); omega
      · (try simp only [Z] at h3)
        have hsv := Hf (hl := hl) (tx := tx) (place := place) (i := i) (by unfold Au; rw [decide_eq_true hpl]; simpa using h3)
        refine bZ (aJ (aX (aC (aV (fQ O O (by omega)) (bP O (bM ?_))))))
        have hLen := um hl tx place i
        refine dK ((i + 1, u)) ?_ ?_ ?_ ?_
        · exact qG
        · exact uH
        · (try dsimp only)
          first | done | exact ⟨by omega, by first | (rw [hsv, List.length_append, List.flatMap_append]; exact H4.f2.f4.f4.f4.f5) | (rw [hsv]; exact H4.f2.f4.f4.f4.f5)⟩
        · (try dsimp only); omega
    · (try simp only [Z] at h2)
      have hsv := Hf (hl := hl) (tx := tx) (place := place) (i := i) (by unfold Au; rw [decide_eq_false (by simpa using h2)]; rfl)
      refine bJ (bJ (bJ (bJ (bJ (bJ (bJ (iL O O (iJ (qF (bZ (aJ (aX (aC (aV (fQ O O (by omega)) (bP O (bM ?_))))))))))))))))
      have hLen := um hl tx place i
      refine dK ((i + 1, u)) ?_ ?_ ?_ ?_
      · exact qG
      · exact uH
      · (try dsimp only)
        first | done | exact ⟨by omega, by first | (rw [hsv, List.length_append, List.flatMap_append]; exact HL.f5.f5.f5.f5.f5) | (rw [hsv]; exact HL.f5.f5.f5.f5.f5)⟩
      · (try dsimp only); omega
  · (try simp only [Z] at h1)
    refine dB (aI ?_)
    obtain rfl : i = hl.length := by omega
    refine aI (bf (aX (aP (aP ?_))))
    have hLen := um hl tx place hl.length
    refine aC (nD O O (bD 0 ah O aQ O (bD 2 aG O sizeOf74 O (fZ kE O (HL.f2).get.2 O (dJ O (bD 0 eX O aj O (fZ aK O (HL.f3).get.2 O (bP O (aV (iU O O) (je O (fun h4 => ?_) (fun h4 => ?_)))))))))))
    · (try simp only [Z] at h4)
      have hsv : yY hl tx place = pU hl tx place hl.length ++ [((hl.length : Int), jl hl tx hl.length)] := by unfold yY; rw [if_pos h4]
      refine aC (jG O O (jG O O (dY O func118 (yj HL.f5.f5.f5.f5) ?_)))
      rintro _ w9 ⟨rfl, H9⟩
      refine aV (dS (zl := [.int .i64 0, .string .empty]) (pl := [(0, 1), (1, 1)]) [_, _] underlying133 zeroValue133 O (fun w => by kernel_rfl) O (.on (.on .nil)) O) ?_
      refine jv (vI H9 underlying48 sizeOf133 zeroValue133 O O O (by decide) (by decide)) ?_
      rintro l10 w10 ql
      refine jv (fU ql.f6 underlying48 Wi O O O ((ql).aS) (aA (aA bF)) (by omega) (by omega)) ?_
      rintro l11 EH rF
      have IB := rF.f2.right
      refine gI O (bT O (fC O (dH results66 O ?_)))
      first
        | (rw [hsv, List.length_append, List.flatMap_append]; exact IB.f5.f5.f5.f5.f5)
        | (rw [hsv]; exact IB.f5.f5.f5.f5.f5)
    · (try simp only [Z] at h4)
      have hsv : yY hl tx place = pU hl tx place hl.length := by unfold yY; rw [if_neg (by simpa using h4), List.append_nil]
      refine gq (bT O (fC O (dH results66 O ?_)))
      first
        | (rw [hsv, List.length_append, List.flatMap_append]; exact HL.f5.f5.f5.f5.f5)
        | (rw [hsv]; exact HL.f5.f5.f5.f5.f5)
theorem Tt {u0 u1 u2 u3 u4 u5 u6 u7 u8 u9 ua : Value} (hin : s.inn = true) (H : V w0 w (uV s.inn s.was [u0, u1, u2, u3, u4, u5, u6, u7, u8, u9, ua] • F)) : u6 = .int .i64 s.was.last ∧ u7 = .int .i64 s.was.fr ∧ u8 = .int .i64 s.was.to := by
  rw [hin] at H
  obtain ⟨qb, qr, qw, qt, qm, hu, -⟩ := H.was
  simp only [Nc, List.cons.injEq, and_true] at hu
  exact ⟨hu.2.2.2.2.2.2.1, hu.2.2.2.2.2.2.2.1, hu.2.2.2.2.2.2.2.2.1⟩
set_option maxHeartbeats 1000000 in
theorem KX (H : V w0 w (gB e s • F)) : gJ prog 23 #[.pointer (some ⟨e, 0, none⟩)] w fun v w' => ∃ u ks us sv, v = .agg (Qg s u ks sv).toArray ∧
  V w0 w' (kW 21 .i32 u s.c.L • Row 22 1 ks s.c.E.length us • E8 21 .i32 us (xC s.c.E s.c.at_) • Row 133 2 sv s.saved.length (s.saved.flatMap Rq) • gB e s • F) := by
 refine iG func23 ntmps23 ?_
 obtain ⟨xQ, xR, xU, xW, xX, xY, xZ, yc, uN, su, sD, sF, sG, sH, sJ, sK, sN, sO, sQ, sS, iw, dF, lu, iI⟩ := (H).Gu
 have hU : (s.c.un s.c.place).length ≤ 16384 := by
  obtain ⟨D, P, hD1, hD2, HU⟩ := (iI.f6).XZ
  by_cases hm : s.c.place ∈ D
  ·have HF := HU.swap
   rw [qP hm] at HF
   obtain ⟨_, _, _, _, k1, _⟩ := HF.flat.yA
   have := k1.len; simpa using this
  ·rw [hD2 _ hm]; decide
 refine iH (jv (fJ (l := [_, _, _, _, _, _, _, _, _, _, _, _, _, _, _, _, _]) iI iW O) ?_)
 rintro _ w2 ⟨b2, rfl, H2⟩
 refine pK (bT O (dY O func65 (Ae H2.f2) ?_))
 rintro _ _ ⟨rfl, rfl⟩
 refine iJ (qF (gq ?_))
 refine kS [(0, _)] (fun (⟨r, q, u, ks, sv, us⟩ : Nat × Nat × Value × Value × Value × List Value) => [(2, .pointer (some ⟨r, 0, none⟩)), (3, .pointer (some ⟨q, 0, none⟩))]) (fun (⟨r, q, u, ks, sv, us⟩ : Nat × Nat × Value × Value × Value × List Value) W => V w0 W (dL q (.cells (u :: .int .i64 s.c.pt :: .int .i64 s.c.mark :: .int .i64 s.c.mode :: .bool s.c.over :: .bool s.given :: .bool s.minus :: .int .i64 s.arg :: .int .i64 s.c.last :: .int .i64 s.c.fr :: .int .i64 s.c.to :: ks :: .int .i64 s.c.place :: sv :: .int .i64 s.Vb :: .int .i64 s.c.res :: .int .i64 s.qO :: []).toArray 50 (0, 0)) • kW 21 .i32 u s.c.L • Row 22 1 ks s.c.E.length us • E8 21 .i32 us (xC s.c.E s.c.at_) • Row 133 2 sv s.saved.length (s.saved.flatMap Rq) • dL e (.cells (.pointer (some ⟨xQ, 0, none⟩) :: .pointer (some ⟨xR, 0, none⟩) :: .pointer (some ⟨xU, 0, none⟩) :: .map (some xX) :: .int .i64 s.c.mode :: .bool s.c.over :: .int .i64 s.c.last :: .int .i64 s.c.fr :: .int .i64 s.c.to :: .int .i64 s.c.res :: .bool s.c.run :: .pointer (some ⟨xY, 0, none⟩) :: .pointer (some ⟨xZ, 0, none⟩) :: .bool s.given :: .bool s.minus :: .int .i64 s.arg :: .bool s.inn :: su :: sD :: sF :: sG :: sH :: sJ :: sK :: sN :: sO :: sQ :: sS :: .int .i64 s.cls :: .bool s.killed :: .bool s.lI :: .bool s.argues :: .bool s.whole :: yc :: []).toArray 82 (0, 0)) • iZ xQ s.c.L s.c.pt s.c.mark • iD xR s.c.E s.c.at_ • dL xU (.cells #[.int .i64 s.c.place, .map (some xW)] 122 (0, 0)) • fG qI xW (rP s.c.tx) • wV xX s.c.un • gK xY s.hl s.base s.most • dL xZ (.cells #[.int .i64 s.qO] 161 (0, 0)) • Row 189 3 yc s.put.length (uN.flatMap dQ.enc) • kK uN • uV s.inn s.was [su, sD, sF, sG, sH, sJ, sK, sN, sO, sQ, sS] • dL r (.cells (.slice none 0 0 :: .int .i64 0 :: .int .i64 0 :: .int .i64 0 :: .bool false :: .bool false :: .bool false :: .int .i64 0 :: .int .i64 0 :: .int .i64 0 :: .int .i64 0 :: .slice none 0 0 :: .int .i64 0 :: .slice none 0 0 :: .int .i64 0 :: .int .i64 0 :: .int .i64 0 :: []).toArray 50 (0, 0)) • F)) lG ?_ ?_
 ·rintro ⟨r, q, u, ks, sv, us⟩ w4 HJ
  dsimp only [List.cons_append, List.nil_append]
  refine aP (bT O (dJ O (bD 16 ah O aO O (fZ bK O (HJ.f6).get.2 O (je O (fun h1 => ?_) (fun h1 => ?_))))))
  ·(try simp only [Z] at h1)
   have hin := h1
   obtain ⟨rfl, rfl, rfl⟩ := Tt hin HJ.f16
   have acd := HJ.drew
   have uo := V.kp (acd.right.f16.f16.f16.f16.f16.f16.f16.f16.f16.f16.f16.f16.f16.f16.f16.f16)
   refine yw [4, 9, 14] uo O (jB 0 O uo O (kJ 1 O uo O (gU 2 O uo 17 ah O aQ O (gU 3 O uo 6 aG O aj O (jT 4 O uo (fun W hW => kC aK O ((Kp.h hW).f5).get.2 O) (jB 5 O uo O (kJ 6 O uo O (gU 7 O uo 17 ah O aQ O (gU 8 O uo 7 aG O aj O (jT 9 O uo (fun W hW => kC aK O ((Kp.h hW).f5).get.2 O) (jB 10 O uo O (kJ 11 O uo O (gU 12 O uo 17 ah O aQ O (gU 13 O uo 8 aG O aj O (jT 14 O uo (fun W hW => kC aK O ((Kp.h hW).f5).get.2 O) (gU 15 O uo 8 iq O aj O ?_))))))))))))))))
   refine fO 16 O (by kernel_rfl) (ZI 8 acd aj) ?_
   rintro _ w5 H5
   have BH := V.kp (H5.right.f16.f16.f16.f16.f16.f16.f16.f16.f16.f16.f16.f16.f16.f16.f16.f16)
   refine dV BH (fun W hW => (Kp.h hW).f16.f16.f16.f16.f16.f16.f16.f16.f16.f16.f16.f16.f16.f16.f16.f16) ?_
   refine gU 17 O BH 9 iq O aj O ?_
   refine fO 18 O (by kernel_rfl) (ZI 9 H5 aj) ?_
   rintro _ w6 H6
   have IG := V.kp (H6.f17.f17.f17.f17.f17.f17.f17.f17.f17.f17.f17.f17.f17.f17.f17.f17.f17)
   refine dV IG (fun W hW => (Kp.h hW).right.f16.f16.f16.f16.f16.f16.f16.f16.f16.f16.f16.f16.f16.f16.f16.f16) ?_
   refine gU 19 O IG 10 iq O aj O ?_
   refine fO 20 O (by kernel_rfl) (ZI 10 H6 aj) ?_
   rintro _ w7 H7
   have Iz := V.kp (H7.f17.f17.f17.f17.f17.f17.f17.f17.f17.f17.f17.f17.f17.f17.f17.f17.f17)
   refine gV Iz (by kernel_rfl) ?_
   refine qU (aX (iH (aV (eY iq O sizeOf50 O O (H7).get.2) (aH (bU 0 (l' := [_, _, _, _, _, _, _, _, _, _, _, _, _, _, _, _, _]) (us := [_, _, _, _, _, _, _, _, _, _, _, _, _, _, _, _, _]) H7.f17 sizeOf50 O O O (aW (by first | rfl | exact Rd.one ((H7.f2).aS)) (aA (aA (aA (aA (aA (aA (aA (aA (aA (aA (aW (by first | rfl | exact Rd.one ((H7.f3).aS)) (aA (aW (by first | rfl | exact Rd.one ((H7.f5).aS)) (aA (aA (aA bF))))))))))))))))) O O) ?_))))
   rintro _ w8 H8
   refine YU ?_
   refine pX (.inl O) (J3 results23 O iq O (by rw [Zm]; rfl) (H8).get.2) ?_
   have U6 := H8.f17.f17.f17.f17.f17.f17.f17.f17.f17.f17.f17
   have U7 := V.iF (s := s) iw dF U6
   refine ⟨u, ks, us, sv, ?_, U7.f2.right.f2.right.f5.f5.f5.f5⟩
   unfold Qg dG.zu dG.TY dG.Ua
   rw [hin]
   rfl
  ·(try simp only [Z] at h1)
   have hin := h1
   refine gq (iH (aV (eY iq O sizeOf50 O O (HJ).get.2) (aH (bU 0 (l' := [_, _, _, _, _, _, _, _, _, _, _, _, _, _, _, _, _]) (us := [_, _, _, _, _, _, _, _, _, _, _, _, _, _, _, _, _]) HJ.f17 sizeOf50 O O O (aW (by first | rfl | exact Rd.one ((HJ.f2).aS)) (aA (aA (aA (aA (aA (aA (aA (aA (aA (aA (aW (by first | rfl | exact Rd.one ((HJ.f3).aS)) (aA (aW (by first | rfl | exact Rd.one ((HJ.f5).aS)) (aA (aA (aA bF))))))))))))))))) O O) ?_)))
   rintro _ w12 uI
   refine YU ?_
   refine pX (.inl O) (J3 results23 O iq O (by rw [Zm]; rfl) (uI).get.2) ?_
   have aad := uI.f17.f17.f17.f17.f17.f17.f17.f17.f17.f17.f17
   have aae := V.iF (s := s) iw dF aad
   refine ⟨u, ks, us, sv, ?_, aae.f2.right.f2.right.f5.f5.f5.f5⟩
   unfold Qg dG.zu dG.TY dG.Ua
   rw [hin]
   rfl
 ·skip
  have Wj := H2.drew
  have dX := V.kp (Wj.f7.right.f7.right.f10.f10.f10.f10.f10.f10.f10.f10.f10.f10)
  refine yw [6, 11, 15, 19, 23, 28, 33, 38, 45, 48, 57, 61] dX O (jB 0 O dX O (jB 2 O dX O (kJ 3 O dX O (gU 4 O dX 0 ah O aQ O (gU 5 O dX 4 aG O aj O (jT 6 O dX (fun W hW => kC aK O ((Kp.h hW).f2).get.2 O) (jB 7 O dX O (kJ 8 O dX O (gU 9 O dX 0 ah O aQ O (gU 10 O dX 5 aG O aO O (jT 11 O dX (fun W hW => kC bK O ((Kp.h hW).f2).get.2 O) (jB 12 O dX O (kJ 13 O dX O (gU 14 O dX 13 ah O aO O (jT 15 O dX (fun W hW => kC bK O ((Kp.h hW).f2).get.2 O) (jB 16 O dX O (kJ 17 O dX O (gU 18 O dX 14 ah O aO O (jT 19 O dX (fun W hW => kC bK O ((Kp.h hW).f2).get.2 O) (jB 20 O dX O (kJ 21 O dX O (gU 22 O dX 15 ah O aj O (jT 23 O dX (fun W hW => kC aK O ((Kp.h hW).f2).get.2 O) (jB 24 O dX O (kJ 25 O dX O (gU 26 O dX 0 ah O aQ O (gU 27 O dX 6 aG O aj O (jT 28 O dX (fun W hW => kC aK O ((Kp.h hW).f2).get.2 O) (jB 29 O dX O (kJ 30 O dX O (gU 31 O dX 0 ah O aQ O (gU 32 O dX 7 aG O aj O (jT 33 O dX (fun W hW => kC aK O ((Kp.h hW).f2).get.2 O) (jB 34 O dX O (kJ 35 O dX O (gU 36 O dX 0 ah O aQ O (gU 37 O dX 8 aG O aj O (jT 38 O dX (fun W hW => kC aK O ((Kp.h hW).f2).get.2 O) (jB 39 O dX O ?_)))))))))))))))))))))))))))))))))))))))
  refine jB 41 O dX O (kJ 42 O dX O (gU 43 O dX 0 ah O aQ O (gU 44 O dX 2 aG O sizeOf74 O (jT 45 O dX (fun W hW => kC kE O ((Kp.h hW).f2).get.2 O) (kJ 46 O dX O (gU 47 O dX 0 eX O aj O (jT 48 O dX (fun W hW => kC aK O ((Kp.h hW).f5).get.2 O) (jB 49 O dX O (jB 51 O dX O (jB 53 O dX O (kJ 54 O dX O (gU 55 O dX 0 ah O aQ O (gU 56 O dX 9 aG O aj O (jT 57 O dX (fun W hW => kC aK O ((Kp.h hW).f2).get.2 O) (jB 58 O dX O (kJ 59 O dX O (gU 60 O dX 12 ah O sizeOf79 O (jT 61 O dX (fun W hW => kC underlying79 O ((Kp.h hW).f2).get.2 O) ?_))))))))))))))))))
  refine xG (i := 1) (j := 64) (by kernel_rfl) ?_ ?_
  ·skip
   refine jO 1 O (by kernel_rfl) (uF (vW O func28 O O) (EN Wj.f3.f3)) (jW O) ?_
   rintro _ w16 ⟨u16, rfl, yO⟩
   have Di := V.kp (yO.f8.right.f8.right.f11.f11.f11.f11.f11.f11.f11.f11.f11.f11.f11)
   refine dV Di (fun W hW => (Kp.h hW).right.f10.f10.f10.f10.f10.f10.f10.f9.f9.f10) ?_
   refine xG (i := 40) (j := 64) (by kernel_rfl) ?_ ?_
   ·skip
    refine jO 40 O (by kernel_rfl) (uF (vW O func33 O O) (y9 yO.f5.f3)) (jW O) ?_
    rintro u17 Za ⟨aff, Io⟩
    have EG := V.kp (Io.f10.right.f10.right.f13.f13.f13.f13.f13.f13.f13.f13.f13.f13.f13.f13.f13)
    refine dV EG (fun W hW => (Kp.h hW).right.right.f11.f11.f11.f11.f11.f11.f8.f11.f11.f10.f11) ?_
    refine xG (i := 50) (j := 64) (by kernel_rfl) ?_ ?_
    ·skip
     refine jO 50 O (by kernel_rfl) (uF (vW O func66 O O) (vG Io.f11.f10.f10.f6)) (jW O) ?_
     rintro u18 XF CV
     have UL := V.kp (CV.f12.right.f15.f15.f15.f15.f15.f15.f15.f15.f15.f15.f15.f15.f15.f15.f15)
     refine dV UL (fun W hW => (Kp.h hW).right.f4.right.f13.f13.f13.f13.f7.f7.f13.f13.f13.f13.f11.f13.f13) ?_
     refine xG (i := 52) (j := 64) (by kernel_rfl) ?_ ?_
     ·skip
      refine jO 52 O (by kernel_rfl) (uF (vW O func67 O O) (qB CV.f14.f13.f5.f5 hU)) (jW O) ?_
      rintro _ w19 ⟨rfl, D8⟩
      have Vh := V.kp (D8.f16.f16.f16.f16.f16.f16.f16.f16.f16.f16.f16.f16.f16.f16.f16.f16)
      refine dV Vh (fun W hW => (Kp.h hW).f3.right.f15.f15.f5.f15.f15.f15.f15.f15.f15.f15.f15.f15.f14.f14.f15) ?_
      refine xG (i := 62) (j := 64) (by kernel_rfl) ?_ ?_
      ·skip
       refine jO 62 O (by kernel_rfl) (uF (vW O func68 O O) (mZ D8.f14)) (jW O) ?_
       rintro _ _ ⟨rfl, rfl⟩
       have Dk := V.kp (D8.f16.f16.f16.f16.f16.f16.f16.f16.f16.f16.f16.f16.f16.f16.f16.f16)
       refine dV Dk (fun W hW => (Kp.h hW).f16.f16.f16.f16.f16.f16.f16.f16.f16.f16.f16.f16.f16.f16.f16.f16) ?_
       refine ji 63 O Dk (fun _ => dS (zl := [.slice none 0 0, .int .i64 0, .int .i64 0, .int .i64 0, .bool false, .bool false, .bool false, .int .i64 0, .int .i64 0, .int .i64 0, .int .i64 0, .slice none 0 0, .int .i64 0, .slice none 0 0, .int .i64 0, .int .i64 0, .int .i64 0]) (pl := [(0, 3), (3, 1), (4, 1), (5, 1), (6, 1), (7, 1), (8, 1), (9, 1), (10, 1), (11, 1), (12, 1), (13, 1), (14, 1), (15, 1), (16, 1)]) [_, _, _, _, _, _, _, _, _, _, _, _, _, _, _, _, _] iq iW O (fun w => by kernel_rfl) O (.agg (us := [_, _, _]) (zs := [.slice none 0 0, .int .i64 0, .int .i64 0]) O O (.on (.on (.on (.on (.on (.on (.on (.on (.one (Rd.one ((D8.f8).aS)) (.on (.one (Rd.one ((D8.f5).aS)) (.on (.on (.on .nil))))))))))))))) O) ?_
       refine oq 64 O (fJ (l := [_, _, _, _, _, _, _, _, _, _, _, _, _, _, _, _, _]) D8 iW O) ?_
       rintro _ w21 ⟨b21, rfl, IC⟩
       have Wn := V.kp (IC.f17.f17.f17.f17.f17.f17.f17.f17.f17.f17.f17.f17.f17.f17.f17.f17.f17)
       refine dV Wn (fun W hW => (Kp.h hW).right.f16.f16.f16.f16.f16.f16.f16.f16.f16.f16.f16.f16.f16.f16.f16.f16) ?_
       refine fO 65 O (by kernel_rfl) (bU 0 (l' := [_, _, _, _, _, _, _, _, _, _, _, _, _, _, _, _, _]) (us := [_, _, _, _, _, _, _, _, _, _, _, _, _, _, _, _, _]) IC sizeOf50 O O O (aW (by first | rfl | exact Rd.one ((IC.f12).aS)) (aA (aA (aA (aA (aA (aA (aA (aA (aA (aA (aW (by first | rfl | exact Rd.one ((IC.f9).aS)) (aA (aW (by first | rfl | exact Rd.one ((IC.f6).aS)) (aA (aA (aA bF))))))))))))))))) O O) ?_
       rintro _ w22 OY
       have MX := V.kp (OY.f17.f17.f17.f17.f17.f17.f17.f17.f17.f17.f17.f17.f17.f17.f17.f17.f17)
       refine gV MX (by kernel_rfl) ?_
       refine qU ?_
       refine dn (_, _, _, _, _, _) qG lG (by (try dsimp only); exact OY.f14.f17.f17.f8.f17.f12.f10.f12.f11.f15.f17.f13.f14.f16.f16.f17.f17)
      ·skip
       refine jO 64 O (by kernel_rfl) (fJ (l := [_, _, _, _, _, _, _, _, _, _, _, _, _, _, _, _, _]) D8 iW O) (jW O) ?_
       rintro _ w23 ⟨b23, rfl, IE⟩
       have Jw := V.kp (IE.f17.f17.f17.f17.f17.f17.f17.f17.f17.f17.f17.f17.f17.f17.f17.f17.f17)
       refine dV Jw (fun W hW => (Kp.h hW).right.f16.f16.f16.f16.f16.f16.f16.f16.f16.f16.f16.f16.f16.f16.f16.f16) ?_
       refine oq 62 O (yN O func68 (mZ IE.f15)) ?_
       rintro _ _ ⟨rfl, rfl⟩
       have GX := V.kp (IE.f17.f17.f17.f17.f17.f17.f17.f17.f17.f17.f17.f17.f17.f17.f17.f17.f17)
       refine dV GX (fun W hW => (Kp.h hW).f17.f17.f17.f17.f17.f17.f17.f17.f17.f17.f17.f17.f17.f17.f17.f17.f17) ?_
       refine ji 63 O GX (fun _ => dS (zl := [.slice none 0 0, .int .i64 0, .int .i64 0, .int .i64 0, .bool false, .bool false, .bool false, .int .i64 0, .int .i64 0, .int .i64 0, .int .i64 0, .slice none 0 0, .int .i64 0, .slice none 0 0, .int .i64 0, .int .i64 0, .int .i64 0]) (pl := [(0, 3), (3, 1), (4, 1), (5, 1), (6, 1), (7, 1), (8, 1), (9, 1), (10, 1), (11, 1), (12, 1), (13, 1), (14, 1), (15, 1), (16, 1)]) [_, _, _, _, _, _, _, _, _, _, _, _, _, _, _, _, _] iq iW O (fun w => by kernel_rfl) O (.agg (us := [_, _, _]) (zs := [.slice none 0 0, .int .i64 0, .int .i64 0]) O O (.on (.on (.on (.on (.on (.on (.on (.on (.one (Rd.one ((IE.f9).aS)) (.on (.one (Rd.one ((IE.f6).aS)) (.on (.on (.on .nil))))))))))))))) O) ?_
       refine fO 65 O (by kernel_rfl) (bU 0 (l' := [_, _, _, _, _, _, _, _, _, _, _, _, _, _, _, _, _]) (us := [_, _, _, _, _, _, _, _, _, _, _, _, _, _, _, _, _]) IE sizeOf50 O O O (aW (by first | rfl | exact Rd.one ((IE.f12).aS)) (aA (aA (aA (aA (aA (aA (aA (aA (aA (aA (aW (by first | rfl | exact Rd.one ((IE.f9).aS)) (aA (aW (by first | rfl | exact Rd.one ((IE.f6).aS)) (aA (aA (aA bF))))))))))))))))) O O) ?_
       rintro _ w25 Ub
       have VN := V.kp (Ub.f17.f17.f17.f17.f17.f17.f17.f17.f17.f17.f17.f17.f17.f17.f17.f17.f17)
       refine gV VN (by kernel_rfl) ?_
       refine qU ?_
       refine dn (_, _, _, _, _, _) qG lG (by (try dsimp only); exact Ub.f14.f17.f17.f8.f17.f12.f10.f12.f11.f15.f17.f13.f14.f16.f16.f17.f17)
     ·skip
      refine jO 64 O (by kernel_rfl) (fJ (l := [_, _, _, _, _, _, _, _, _, _, _, _, _, _, _, _, _]) CV iW O) (jW O) ?_
      rintro _ w26 ⟨b26, rfl, VO⟩
      have ace := V.kp (VO.f13.right.f16.f16.f16.f16.f16.f16.f16.f16.f16.f16.f16.f16.f16.f16.f16.f16)
      refine dV ace (fun W hW => (Kp.h hW).right.f15.f15.f15.f15.f15.f15.f15.f15.f15.f15.f15.f15.f15.f15.f15) ?_
      refine oq 52 O (yN O func67 (qB VO.f15.f14.f6.f6 hU)) ?_
      rintro _ w27 ⟨rfl, NG⟩
      have acf := V.kp (NG.f17.f17.f17.f17.f17.f17.f17.f17.f17.f17.f17.f17.f17.f17.f17.f17.f17)
      refine dV acf (fun W hW => (Kp.h hW).f3.right.f16.f16.f5.f16.f16.f16.f16.f16.f16.f16.f16.f16.f14.f14.f16.f16) ?_
      refine oq 62 O (yN O func68 (mZ NG.f15)) ?_
      rintro _ _ ⟨rfl, rfl⟩
      have Zn := V.kp (NG.f17.f17.f17.f17.f17.f17.f17.f17.f17.f17.f17.f17.f17.f17.f17.f17.f17)
      refine dV Zn (fun W hW => (Kp.h hW).f17.f17.f17.f17.f17.f17.f17.f17.f17.f17.f17.f17.f17.f17.f17.f17.f17) ?_
      refine ji 63 O Zn (fun _ => dS (zl := [.slice none 0 0, .int .i64 0, .int .i64 0, .int .i64 0, .bool false, .bool false, .bool false, .int .i64 0, .int .i64 0, .int .i64 0, .int .i64 0, .slice none 0 0, .int .i64 0, .slice none 0 0, .int .i64 0, .int .i64 0, .int .i64 0]) (pl := [(0, 3), (3, 1), (4, 1), (5, 1), (6, 1), (7, 1), (8, 1), (9, 1), (10, 1), (11, 1), (12, 1), (13, 1), (14, 1), (15, 1), (16, 1)]) [_, _, _, _, _, _, _, _, _, _, _, _, _, _, _, _, _] iq iW O (fun w => by kernel_rfl) O (.agg (us := [_, _, _]) (zs := [.slice none 0 0, .int .i64 0, .int .i64 0]) O O (.on (.on (.on (.on (.on (.on (.on (.on (.one (Rd.one ((NG.f9).aS)) (.on (.one (Rd.one ((NG.f6).aS)) (.on (.on (.on .nil))))))))))))))) O) ?_
      refine fO 65 O (by kernel_rfl) (bU 0 (l' := [_, _, _, _, _, _, _, _, _, _, _, _, _, _, _, _, _]) (us := [_, _, _, _, _, _, _, _, _, _, _, _, _, _, _, _, _]) NG.f5 sizeOf50 O O O (aW (by first | rfl | exact Rd.one ((NG.f12).aS)) (aA (aA (aA (aA (aA (aA (aA (aA (aA (aA (aW (by first | rfl | exact Rd.one ((NG.f9).aS)) (aA (aW (by first | rfl | exact Rd.one ((NG.f6).aS)) (aA (aA (aA bF))))))))))))))))) O O) ?_
      rintro _ w29 Yg
      have acg := V.kp (Yg.f17.f17.f17.f17.f17.f17.f17.f17.f17.f17.f17.f17.f17.f17.f17.f17.f17)
      refine gV acg (by kernel_rfl) ?_
      refine qU ?_
      refine dn (_, _, _, _, _, _) qG lG (by (try dsimp only); exact Yg.f14.f17.f17.f8.f17.f12.f10.f12.f11.f15.f17.f13.f14.f16.f16.f17.f17)
    ·skip
     refine jO 64 O (by kernel_rfl) (fJ (l := [_, _, _, _, _, _, _, _, _, _, _, _, _, _, _, _, _]) Io iW O) (jW O) ?_
     rintro _ w30 ⟨b30, rfl, Vl⟩
     have ach := V.kp (Vl.f11.right.f11.right.f14.f14.f14.f14.f14.f14.f14.f14.f14.f14.f14.f14.f14.f14)
     refine dV ach (fun W hW => (Kp.h hW).right.f13.f13.f13.f13.f13.f13.f13.f13.f13.f13.f13.f13.f13) ?_
     refine oq 50 O (yN O func66 (vG Vl.f12.f11.f11.f7)) ?_
     rintro u31 w31 SL
     have VP := V.kp (SL.f13.right.f16.f16.f16.f16.f16.f16.f16.f16.f16.f16.f16.f16.f16.f16.f16.f16)
     refine dV VP (fun W hW => (Kp.h hW).right.f4.right.f14.f14.f14.f14.f7.f7.f14.f14.f14.f14.f11.f14.f14.f14) ?_
     refine oq 52 O (yN O func67 (qB SL.f15.f14.f5.f5 hU)) ?_
     rintro _ w32 ⟨rfl, NH⟩
     have Rf := V.kp (NH.f17.f17.f17.f17.f17.f17.f17.f17.f17.f17.f17.f17.f17.f17.f17.f17.f17)
     refine dV Rf (fun W hW => (Kp.h hW).f3.right.f16.f16.f5.f16.f16.f16.f16.f16.f16.f16.f16.f16.f16.f15.f15.f16) ?_
     refine oq 62 O (yN O func68 (mZ NH.f15)) ?_
     rintro _ _ ⟨rfl, rfl⟩
     have Rh := V.kp (NH.f17.f17.f17.f17.f17.f17.f17.f17.f17.f17.f17.f17.f17.f17.f17.f17.f17)
     refine dV Rh (fun W hW => (Kp.h hW).f17.f17.f17.f17.f17.f17.f17.f17.f17.f17.f17.f17.f17.f17.f17.f17.f17) ?_
     refine ji 63 O Rh (fun _ => dS (zl := [.slice none 0 0, .int .i64 0, .int .i64 0, .int .i64 0, .bool false, .bool false, .bool false, .int .i64 0, .int .i64 0, .int .i64 0, .int .i64 0, .slice none 0 0, .int .i64 0, .slice none 0 0, .int .i64 0, .int .i64 0, .int .i64 0]) (pl := [(0, 3), (3, 1), (4, 1), (5, 1), (6, 1), (7, 1), (8, 1), (9, 1), (10, 1), (11, 1), (12, 1), (13, 1), (14, 1), (15, 1), (16, 1)]) [_, _, _, _, _, _, _, _, _, _, _, _, _, _, _, _, _] iq iW O (fun w => by kernel_rfl) O (.agg (us := [_, _, _]) (zs := [.slice none 0 0, .int .i64 0, .int .i64 0]) O O (.on (.on (.on (.on (.on (.on (.on (.on (.one (Rd.one ((NH.f9).aS)) (.on (.one (Rd.one ((NH.f5).aS)) (.on (.on (.on .nil))))))))))))))) O) ?_
     refine fO 65 O (by kernel_rfl) (bU 0 (l' := [_, _, _, _, _, _, _, _, _, _, _, _, _, _, _, _, _]) (us := [_, _, _, _, _, _, _, _, _, _, _, _, _, _, _, _, _]) NH.f8 sizeOf50 O O O (aW (by first | rfl | exact Rd.one ((NH.f12).aS)) (aA (aA (aA (aA (aA (aA (aA (aA (aA (aA (aW (by first | rfl | exact Rd.one ((NH.f9).aS)) (aA (aW (by first | rfl | exact Rd.one ((NH.f5).aS)) (aA (aA (aA bF))))))))))))))))) O O) ?_
     rintro _ w34 VQ
     have JD := V.kp (VQ.f17.f17.f17.f17.f17.f17.f17.f17.f17.f17.f17.f17.f17.f17.f17.f17.f17)
     refine gV JD (by kernel_rfl) ?_
     refine qU ?_
     refine dn (_, _, _, _, _, _) qG lG (by (try dsimp only); exact VQ.f14.f17.f17.f8.f17.f12.f10.f12.f11.f15.f17.f13.f14.f16.f16.f17.f17)
   ·skip
    refine jO 64 O (by kernel_rfl) (fJ (l := [_, _, _, _, _, _, _, _, _, _, _, _, _, _, _, _, _]) yO iW O) (jW O) ?_
    rintro _ w35 ⟨b35, rfl, H35⟩
    have VR := V.kp (H35.f9.right.f9.right.f12.f12.f12.f12.f12.f12.f12.f12.f12.f12.f12.f12)
    refine dV VR (fun W hW => (Kp.h hW).right.f11.f11.f11.f11.f11.f11.f11.f11.f11.f11.f11) ?_
    refine oq 40 O (yN O func33 (y9 H35.f6.f4)) ?_
    rintro u36 w36 ⟨afg, H36⟩
    have aci := V.kp (H36.f11.right.f11.right.f14.f14.f14.f14.f14.f14.f14.f14.f14.f14.f14.f14.f14.f14)
    refine dV aci (fun W hW => (Kp.h hW).right.right.f12.f12.f12.f12.f12.f12.f8.f12.f12.f10.f12.f12) ?_
    refine oq 50 O (yN O func66 (vG H36.f12.f11.f11.f6)) ?_
    rintro u37 w37 H37
    have acj := V.kp (H37.f13.right.f16.f16.f16.f16.f16.f16.f16.f16.f16.f16.f16.f16.f16.f16.f16.f16)
    refine dV acj (fun W hW => (Kp.h hW).right.f4.right.f14.f14.f14.f14.f7.f7.f14.f14.f14.f14.f14.f12.f14.f14) ?_
    refine oq 52 O (yN O func67 (qB H37.f15.f14.f5.f5 hU)) ?_
    rintro _ w38 ⟨rfl, P7⟩
    have ack := V.kp (P7.f17.f17.f17.f17.f17.f17.f17.f17.f17.f17.f17.f17.f17.f17.f17.f17.f17)
    refine dV ack (fun W hW => (Kp.h hW).f3.right.f16.f16.f5.f16.f16.f16.f16.f16.f16.f16.f16.f16.f16.f15.f15.f16) ?_
    refine oq 62 O (yN O func68 (mZ P7.f15)) ?_
    rintro _ _ ⟨rfl, rfl⟩
    have NQ := V.kp (P7.f17.f17.f17.f17.f17.f17.f17.f17.f17.f17.f17.f17.f17.f17.f17.f17.f17)
    refine dV NQ (fun W hW => (Kp.h hW).f17.f17.f17.f17.f17.f17.f17.f17.f17.f17.f17.f17.f17.f17.f17.f17.f17) ?_
    refine ji 63 O NQ (fun _ => dS (zl := [.slice none 0 0, .int .i64 0, .int .i64 0, .int .i64 0, .bool false, .bool false, .bool false, .int .i64 0, .int .i64 0, .int .i64 0, .int .i64 0, .slice none 0 0, .int .i64 0, .slice none 0 0, .int .i64 0, .int .i64 0, .int .i64 0]) (pl := [(0, 3), (3, 1), (4, 1), (5, 1), (6, 1), (7, 1), (8, 1), (9, 1), (10, 1), (11, 1), (12, 1), (13, 1), (14, 1), (15, 1), (16, 1)]) [_, _, _, _, _, _, _, _, _, _, _, _, _, _, _, _, _] iq iW O (fun w => by kernel_rfl) O (.agg (us := [_, _, _]) (zs := [.slice none 0 0, .int .i64 0, .int .i64 0]) O O (.on (.on (.on (.on (.on (.on (.on (.on (.one (Rd.one ((P7.f8).aS)) (.on (.one (Rd.one ((P7.f5).aS)) (.on (.on (.on .nil))))))))))))))) O) ?_
    refine fO 65 O (by kernel_rfl) (bU 0 (l' := [_, _, _, _, _, _, _, _, _, _, _, _, _, _, _, _, _]) (us := [_, _, _, _, _, _, _, _, _, _, _, _, _, _, _, _, _]) P7.f11 sizeOf50 O O O (aW (by first | rfl | exact Rd.one ((P7.f12).aS)) (aA (aA (aA (aA (aA (aA (aA (aA (aA (aA (aW (by first | rfl | exact Rd.one ((P7.f8).aS)) (aA (aW (by first | rfl | exact Rd.one ((P7.f5).aS)) (aA (aA (aA bF))))))))))))))))) O O) ?_
    rintro _ w40 H40
    have acm := V.kp (H40.f17.f17.f17.f17.f17.f17.f17.f17.f17.f17.f17.f17.f17.f17.f17.f17.f17)
    refine gV acm (by kernel_rfl) ?_
    refine qU ?_
    refine dn (_, _, _, _, _, _) qG lG (by (try dsimp only); exact H40.f14.f17.f17.f8.f17.f12.f10.f12.f11.f15.f17.f13.f14.f16.f16.f17.f17)
  ·skip
   refine jO 64 O (by kernel_rfl) (fJ (l := [_, _, _, _, _, _, _, _, _, _, _, _, _, _, _, _, _]) Wj iW O) (jW O) ?_
   rintro _ w41 ⟨b41, rfl, Yb⟩
   have VT := V.kp (Yb.f8.right.f8.right.f11.f11.f11.f11.f11.f11.f11.f11.f11.f11.f11)
   refine dV VT (fun W hW => (Kp.h hW).right.f10.f10.f10.f10.f10.f10.f10.f10.f10.f10) ?_
   refine oq 1 O (yN O func28 (EN Yb.f4.f4)) ?_
   rintro _ w42 ⟨u42, rfl, H42⟩
   have JE := V.kp (H42.f9.right.f9.right.f12.f12.f12.f12.f12.f12.f12.f12.f12.f12.f12.f12)
   refine dV JE (fun W hW => (Kp.h hW).right.f11.f11.f11.f11.f11.f11.f11.f9.f9.f11.f11) ?_
   refine oq 40 O (yN O func33 (y9 H42.f6.f3)) ?_
   rintro u43 w43 ⟨afh, H43⟩
   have VU := V.kp (H43.f11.right.f11.right.f14.f14.f14.f14.f14.f14.f14.f14.f14.f14.f14.f14.f14.f14)
   refine dV VU (fun W hW => (Kp.h hW).right.right.f12.f12.f12.f12.f12.f12.f8.f12.f12.f12.f11.f12) ?_
   refine oq 50 O (yN O func66 (vG H43.f12.f11.f11.f6)) ?_
   rintro u44 w44 Zf
   have acn := V.kp (Zf.f13.right.f16.f16.f16.f16.f16.f16.f16.f16.f16.f16.f16.f16.f16.f16.f16.f16)
   refine dV acn (fun W hW => (Kp.h hW).right.f4.right.f14.f14.f14.f14.f7.f7.f14.f14.f14.f14.f14.f12.f14.f14) ?_
   refine oq 52 O (yN O func67 (qB Zf.f15.f14.f5.f5 hU)) ?_
   rintro _ w45 ⟨rfl, OD⟩
   have aco := V.kp (OD.f17.f17.f17.f17.f17.f17.f17.f17.f17.f17.f17.f17.f17.f17.f17.f17.f17)
   refine dV aco (fun W hW => (Kp.h hW).f3.right.f16.f16.f5.f16.f16.f16.f16.f16.f16.f16.f16.f16.f16.f15.f15.f16) ?_
   refine oq 62 O (yN O func68 (mZ OD.f15)) ?_
   rintro _ _ ⟨rfl, rfl⟩
   have Zo := V.kp (OD.f17.f17.f17.f17.f17.f17.f17.f17.f17.f17.f17.f17.f17.f17.f17.f17.f17)
   refine dV Zo (fun W hW => (Kp.h hW).f17.f17.f17.f17.f17.f17.f17.f17.f17.f17.f17.f17.f17.f17.f17.f17.f17) ?_
   refine ji 63 O Zo (fun _ => dS (zl := [.slice none 0 0, .int .i64 0, .int .i64 0, .int .i64 0, .bool false, .bool false, .bool false, .int .i64 0, .int .i64 0, .int .i64 0, .int .i64 0, .slice none 0 0, .int .i64 0, .slice none 0 0, .int .i64 0, .int .i64 0, .int .i64 0]) (pl := [(0, 3), (3, 1), (4, 1), (5, 1), (6, 1), (7, 1), (8, 1), (9, 1), (10, 1), (11, 1), (12, 1), (13, 1), (14, 1), (15, 1), (16, 1)]) [_, _, _, _, _, _, _, _, _, _, _, _, _, _, _, _, _] iq iW O (fun w => by kernel_rfl) O (.agg (us := [_, _, _]) (zs := [.slice none 0 0, .int .i64 0, .int .i64 0]) O O (.on (.on (.on (.on (.on (.on (.on (.on (.one (Rd.one ((OD.f8).aS)) (.on (.one (Rd.one ((OD.f5).aS)) (.on (.on (.on .nil))))))))))))))) O) ?_
   refine fO 65 O (by kernel_rfl) (bU 0 (l' := [_, _, _, _, _, _, _, _, _, _, _, _, _, _, _, _, _]) (us := [_, _, _, _, _, _, _, _, _, _, _, _, _, _, _, _, _]) OD.f13 sizeOf50 O O O (aW (by first | rfl | exact Rd.one ((OD.f11).aS)) (aA (aA (aA (aA (aA (aA (aA (aA (aA (aA (aW (by first | rfl | exact Rd.one ((OD.f8).aS)) (aA (aW (by first | rfl | exact Rd.one ((OD.f5).aS)) (aA (aA (aA bF))))))))))))))))) O O) ?_
   rintro _ w47 H47
   have acp := V.kp (H47.f17.f17.f17.f17.f17.f17.f17.f17.f17.f17.f17.f17.f17.f17.f17.f17.f17)
   refine gV acp (by kernel_rfl) ?_
   refine qU ?_
   refine dn (_, _, _, _, _, _) qG lG (by (try dsimp only); exact H47.f14.f17.f17.f8.f17.f12.f10.f12.f11.f15.f17.f13.f14.f16.f16.f17.f17)
end
end Go.Proofs.YtpdeedplgmbopaaGreatDoor
end
section
namespace Go.Proofs.YtpdeedplgmbopaaGreatDoor
open Go.RowKit
theorem EO {P : Program} {L : List (Nat × Value)} {w : World} {ty t : TypeId} {fs : Array Field} {f : Field} {i : Nat} {x : Operand} {cs : Array Value} {u : Value} (off : Nat) (ht : P.underlying t = some (.struct fs)) (hf : fs[i]? = some f) (ho : f.offset = off) (hp : pG P f.type = true) (hx : ev L x = some (.agg cs)) (hc : cs[off]? = some u) :
    Val P L (.field t x i) ty w u w := fun ρ hρ _ _ _ _ => by
  simp [execOp, hρ _ _ hx, Instr.field, run_underlying ht, hf, part, asAgg, CJ hp, ho, hc]
end Go.Proofs.YtpdeedplgmbopaaGreatDoor
end
