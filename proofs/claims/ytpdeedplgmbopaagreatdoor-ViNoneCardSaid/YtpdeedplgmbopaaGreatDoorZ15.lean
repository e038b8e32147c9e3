import Derived.Test.YtpdeedplgmbopaaGreatDoorZ4
import Derived.Test.YtpdeedplgmbopaaGreatDoorZ14
import Derived.Test.YtpdeedplgmbopaaGreatDoorZ2
set_option linter.unusedSimpArgs false
set_option linter.unusedVariables false
/- Texts of mine, joined, their names in short: EdS2 EdS3 FieldVal. -/
section
namespace Go.Proofs.YtpdeedplgmbopaaGreatDoor
open Go.RowKit
open _root_.Go.Proofs.Tryz
theorem NJ {D : List Int} {P : Int → Nat} {k : Int} (h : (GR D P k).isSome = true) : k ∈ D := by
  unfold GR at h
  split at h
  · assumption
  · cases h
theorem KR {D : List Int} {P : Int → Nat} {k : Int} (h : (GR D P k).isSome = false) : k ∉ D := by
  unfold GR at h
  split at h
  · cases h
  · assumption
def Ro (x : Int × ByteArray) : List Value := [.int .i64 x.1, .string x.2]
theorem NK {hl : List pz} {tx : Int → Option ByteArray} {place : Int} {i : Nat} (h : Ah hl tx place i = true) : pF hl tx place (i + 1) = pF hl tx place i ++ [((i : Int), jm hl tx i)] := by
  unfold pF; rw [List.range_succ, List.filter_append, List.map_append]; simp [List.filter, h]
theorem G9 {hl : List pz} {tx : Int → Option ByteArray} {place : Int} {i : Nat} (h : Ah hl tx place i = false) : pF hl tx place (i + 1) = pF hl tx place i := by
  unfold pF; rw [List.range_succ, List.filter_append, List.map_append]; simp [List.filter, h]
theorem tN (hl : List pz) (tx : Int → Option ByteArray) (place : Int) (i : Nat) : (pF hl tx place i).length ≤ i := by
  unfold pF; rw [List.length_map]
  exact Nat.le_trans (List.length_filter_le _ _) (by simp)
def wZ (E : List (List Int)) (a : Nat) : List (List Int) := E.drop a ++ E.take a
def Wi (n a i : Nat) : Nat := if i = 0 then a else (a + (i - 1)) % n
theorem Tn {n a i : Nat} : DL n (Wi n a i) (min (i : Int) 1) = Wi n a (i + 1) := by
  cases i with
  | zero =>
    show (((a : Int) + min ((0 : Nat) : Int) 1) % (n : Int)).toNat = (a + (0 + 1 - 1)) % n
    rw [show min ((0 : Nat) : Int) 1 = 0 by omega, Int.add_zero, show ((a : Int) % (n : Int)) = ((a % n : Nat) : Int) from rfl, Int.toNat_natCast]
    rfl
  | succ j =>
    show (((((a + (j + 1 - 1)) % n : Nat) : Int) + min ((j + 1 : Nat) : Int) 1) % (n : Int)).toNat = (a + (j + 1 + 1 - 1)) % n
    rw [show min ((j + 1 : Nat) : Int) 1 = ((1 : Nat) : Int) by omega, show ((((a + (j + 1 - 1)) % n : Nat) : Int) + ((1 : Nat) : Int)) % (n : Int) = ((((a + (j + 1 - 1)) % n + 1) % n : Nat) : Int) from rfl, Int.toNat_natCast, Nat.mod_add_mod]
    congr 1
theorem Tq {E : List (List Int)} {a i : Nat} (h : i < E.length) (ha : a < E.length) : (wZ E a).getD i [] = E.getD (Wi E.length a (i + 1)) [] := by
  unfold wZ Wi
  rw [if_neg (by omega), Nat.add_sub_cancel, List.getD_eq_getElem?_getD, List.getD_eq_getElem?_getD]
  by_cases hi : i < E.length - a
  · rw [List.getElem?_append_left (by simpa using hi), List.getElem?_drop, Nat.mod_eq_of_lt (by omega)]
  · rw [List.getElem?_append_right (by simpa using hi), List.length_drop, List.getElem?_take, if_pos (by omega)]
    have : (a + i) % E.length = i - (E.length - a) := by
      rw [show a + i = (i - (E.length - a)) + E.length by omega, Nat.add_mod_right, Nat.mod_eq_of_lt (by omega)]
    rw [this]
theorem He {α : Type _} {l : List α} {k : Nat} {d : α} (h : k < l.length) : l.take (k + 1) = l.take k ++ [l.getD k d] := by rw [List.take_succ_eq_append_getElem h, List.getD_eq_getElem?_getD, List.getElem?_eq_getElem h]; rfl
theorem JE (E : List (List Int)) (a : Nat) : (wZ E a).length = E.length := by unfold wZ; simp; omega
section
variable {w0 w : World} {F : HP} {e p ph pw pt pr pm pb : Nat} {s : dF} {k x place : Int} {hl : List pz} {base most cls : Int} {tx : Int → Option ByteArray} {v pv : Value} {U : Int → List (List iR)} {put : List iR} {xs : List Value} {inn run whole : Bool} {E : List (List Int)} {a : Nat} {L : List Int} {pnt mk : Int}
theorem zV {x0 x1 x2 x3 x4 x5 x6 x7 x8 x9 x10 x12 uF x14 x15 x16 x17 x18 x19 x20 x21 vw x23 x24 x25 vU x27 x28 x29 x30 x31 x32 wR : Value} (H : V w0 w (dK e (.cells (x0 :: x1 :: x2 :: x3 :: x4 :: x5 :: x6 :: x7 :: x8 :: x9 :: x10 :: .pointer (some ⟨ph, 0, none⟩) :: x12 :: uF :: x14 :: x15 :: x16 :: x17 :: x18 :: x19 :: x20 :: x21 :: vw :: x23 :: x24 :: x25 :: vU :: x27 :: x28 :: x29 :: x30 :: x31 :: x32 :: wR :: []).toArray 82 (0, 0)) • F)) : gI prog 65 #[.pointer (some ⟨e, 0, none⟩)] w fun v w' => v = .bool false ∧ w = w' := by
  refine gG func65 ntmps65 ?_
  refine jg O (bP O (aV (fV iU O O) (jP O (fun h1 => ?_) (fun h1 => ?_))))
  · (try simp only [Z] at h1)
    exfalso; first | contradiction | omega
  · (try simp only [Z] at h1)
    refine bC (bQ O (bC (dJ O (bC (bD 11 ah O sizeOf78 O (bC (fG iT O (H).get.2 O (bC (aV (fV iT O O) (iM O O (eY O (dG results65 O ?_))))))))))))
    exact ⟨O, O⟩
theorem qj {x0 x1 x4 x5 x6 x7 x8 x9 x11 x12 uF x14 x15 x17 x18 x19 x20 x21 vw x23 x24 x25 vU x27 x29 x30 x31 : Value} (H : V w0 w (dK e (.cells (x0 :: x1 :: .pointer (some ⟨pw, 0, none⟩) :: .map (some pm) :: x4 :: x5 :: x6 :: x7 :: x8 :: x9 :: .bool run :: x11 :: x12 :: uF :: x14 :: x15 :: .bool inn :: x17 :: x18 :: x19 :: x20 :: x21 :: vw :: x23 :: x24 :: x25 :: vU :: x27 :: .int .i64 cls :: x29 :: x30 :: x31 :: .bool whole :: pv :: []).toArray 82 (0, 0)) • dK pw (.cells #[.int .i64 k, .map (some pt)] 122 (0, 0)) • wM pm U • Row 189 3 pv put.length xs • F)) (hU : (U k).length ≤ 16384) :
    gI prog 67 #[.pointer (some ⟨e, 0, none⟩)] w fun v' w' => v' = .int .i64 (pY (U k) inn put (cls == 3 && whole) run) ∧
      V w0 w' (dK e (.cells (x0 :: x1 :: .pointer (some ⟨pw, 0, none⟩) :: .map (some pm) :: x4 :: x5 :: x6 :: x7 :: x8 :: x9 :: .bool run :: x11 :: x12 :: uF :: x14 :: x15 :: .bool inn :: x17 :: x18 :: x19 :: x20 :: x21 :: vw :: x23 :: x24 :: x25 :: vU :: x27 :: .int .i64 cls :: x29 :: x30 :: x31 :: .bool whole :: pv :: []).toArray 82 (0, 0)) • dK pw (.cells #[.int .i64 k, .map (some pt)] 122 (0, 0)) • wM pm U • Row 189 3 pv put.length xs • F) := by
  refine gG func67 ntmps67 ?_
  refine jg O (jg O ?_)
  refine kM [(0, _)] (fun (_ : Unit) => [(3, .int .i64 ((U k).length : Int))]) (fun (_ : Unit) W => V w0 W (dK e (.cells (x0 :: x1 :: .pointer (some ⟨pw, 0, none⟩) :: .map (some pm) :: x4 :: x5 :: x6 :: x7 :: x8 :: x9 :: .bool run :: x11 :: x12 :: uF :: x14 :: x15 :: .bool inn :: x17 :: x18 :: x19 :: x20 :: x21 :: vw :: x23 :: x24 :: x25 :: vU :: x27 :: .int .i64 cls :: x29 :: x30 :: x31 :: .bool whole :: pv :: []).toArray 82 (0, 0)) • dK pw (.cells #[.int .i64 k, .map (some pt)] 122 (0, 0)) • wM pm U • Row 189 3 pv put.length xs • F)) lI ?_ ?_
  · rintro _ w1 HJ
    dsimp only [List.cons_append, List.nil_append]
    refine aP (bP O (dJ O (bD 16 ah O aO O (fG bK O (HJ).get.2 O (jP O (fun h1 => ?_) (fun h1 => ?_))))))
    · (try simp only [Z] at h1)
      have hin := h1
      refine bC (bQ O (bC (dJ O (bC (bD 33 ah O bH O (bC (fG aU O (HJ).get.2 O (bC (aV (jw ((HJ.f4).aS) aU O) (bC (aV (iV O O) (jF O O (jP O (fun h2 => ?_) (fun h2 => ?_))))))))))))))
      · (try simp only [Z] at h2)
        have hno : put.isEmpty = false := by rw [oG]; exact decide_eq_false (by omega)
        refine bC (bQ O (bC (dJ O (bC (bD 28 ah O aj O (bC (fG aK O (HJ).get.2 O (bC (aV (dV O O) (bC (jP O (fun h3 => ?_) (fun h3 => ?_))))))))))))
        · (try simp only [Z] at h3)
          have hcl := h3
          refine bC (bQ O (bC (dJ O (bC (bD 32 ah O aO O (bC (fG bK O (HJ).get.2 O (bC (jF O O (bC (jP O (fun h4 => ?_) (fun h4 => ?_))))))))))))
          · (try simp only [Z] at h4)
            have hwh := h4
            refine bC (bQ O (bC (dJ O (bC (bD 0 ah O aQ O (bC (bD 10 aG O aO O (bC (fG bK O (HJ).get.2 O (bC (jF O O (bC (aV (lY O) (jF O O (jh O (fun h5 => ?_) (fun h5 => ?_))))))))))))))))
            · (try simp only [Z] at h5)
              have hrn := h5
              refine aC (bQ O (aV (gy O O (by omega)) (gJ O (bP O (eY O (dG results67 O ?_))))))
              refine ⟨?_, HJ.f4.f4.f4.f4⟩
              congr 1
              unfold pY
              first
                | exact absurd hrn (by decide)
                | (simp [hin]; done)
                | (simp [hin, hno]; done)
                | (simp [hin, hno, hcl]; done)
                | (simp [hin, hno, hcl, hwh]; done)
                | (simp [hin, hno, hcl, hwh, hrn]; done)
            · (try simp only [Z] at h5)
              have hrn := h5
              refine fZ (bP O (eY O (dG results67 O ?_)))
              refine ⟨?_, HJ.f4.f4.f4.f4⟩
              congr 1
              unfold pY
              first
                | exact absurd hrn (by decide)
                | (simp [hin]; done)
                | (simp [hin, hno]; done)
                | (simp [hin, hno, hcl]; done)
                | (simp [hin, hno, hcl, hwh]; done)
                | (simp [hin, hno, hcl, hwh, hrn]; done)
          · (try simp only [Z] at h4)
            have hwh := h4
            refine bI (bI (bI (bI (bI (bC (iM O O (bC (aV (lY O) (jF O O (jh O (fun h6 => ?_) (fun h6 => ?_)))))))))))
            · (try simp only [Z] at h6)
              have hrn := h6
              refine aC (bQ O (aV (gy O O (by omega)) (gJ O (bP O (eY O (dG results67 O ?_))))))
              refine ⟨?_, HJ.f4.f4.f4.f4⟩
              congr 1
              unfold pY
              first
                | exact absurd hrn (by decide)
                | (simp [hin]; done)
                | (simp [hin, hno]; done)
                | (simp [hin, hno, hcl]; done)
                | (simp [hin, hno, hcl, hwh]; done)
                | (simp [hin, hno, hcl, hwh, hrn]; done)
            · (try simp only [Z] at h6)
              have hrn := h6
              refine fZ (bP O (eY O (dG results67 O ?_)))
              refine ⟨?_, HJ.f4.f4.f4.f4⟩
              congr 1
              unfold pY
              first
                | exact absurd hrn (by decide)
                | (simp [hin]; done)
                | (simp [hin, hno]; done)
                | (simp [hin, hno, hcl]; done)
                | (simp [hin, hno, hcl, hwh]; done)
                | (simp [hin, hno, hcl, hwh, hrn]; done)
        · (try simp only [Z] at h3)
          have hcl := h3
          refine bI (bI (bI (bI (bC (iM O O (bC (bQ O (bI (bI (bI (bI (bI (bC (iM O O (bC (aV (lY O) (jF O O (jh O (fun h7 => ?_) (fun h7 => ?_)))))))))))))))))))
          · (try simp only [Z] at h7)
            have hrn := h7
            refine aC (bQ O (aV (gy O O (by omega)) (gJ O (bP O (eY O (dG results67 O ?_))))))
            refine ⟨?_, HJ.f4.f4.f4.f4⟩
            congr 1
            unfold pY
            first
              | exact absurd hrn (by decide)
              | (simp [hin]; done)
              | (simp [hin, hno]; done)
              | (simp [hin, hno, hcl]; done)
              | (simp [hin, hno, hcl, hwh]; done)
              | (simp [hin, hno, hcl, hwh, hrn]; done)
          · (try simp only [Z] at h7)
            have hrn := h7
            refine fZ (bP O (eY O (dG results67 O ?_)))
            refine ⟨?_, HJ.f4.f4.f4.f4⟩
            congr 1
            unfold pY
            first
              | exact absurd hrn (by decide)
              | (simp [hin]; done)
              | (simp [hin, hno]; done)
              | (simp [hin, hno, hcl]; done)
              | (simp [hin, hno, hcl, hwh]; done)
              | (simp [hin, hno, hcl, hwh, hrn]; done)
      · (try simp only [Z] at h2)
        have hno : put.isEmpty = true := by rw [oG]; exact decide_eq_true (by omega)
        refine bI (bI (bI (bI (bI (bI (mV (mV (mV (mV (bI (bI (mV (mV (mV (mV (mV (bI (bI (iM O O (iJ (qy (fZ (bP O (eY O (dG results67 O ?_)))))))))))))))))))))))))
        refine ⟨?_, HJ.f4.f4.f4.f4⟩
        congr 1
        unfold pY
        first
          | exact absurd hrn (by decide)
          | (simp [hin]; done)
          | (simp [hin, hno]; done)
          | (simp [hin, hno, hcl]; done)
          | (simp [hin, hno, hcl, hwh]; done)
          | (simp [hin, hno, hcl, hwh, hrn]; done)
    · (try simp only [Z] at h1)
      have hin := h1
      refine bI (bI (bI (bI (bI (bI (iM O O (bQ O (bI (bI (bI (bI (bI (bI (mV (mV (mV (mV (bI (bI (mV (mV (mV (mV (mV (bI (bI (iM O O (iJ (qy (fZ (bP O (eY O ?_))))))))))))))))))))))))))))))))
      refine dG results67 O ?_
      refine ⟨?_, HJ.f4.f4.f4.f4⟩
      congr 1
      unfold pY
      first
        | exact absurd hrn (by decide)
        | (simp [hin]; done)
        | (simp [hin, hno]; done)
        | (simp [hin, hno, hcl]; done)
        | (simp [hin, hno, hcl, hwh]; done)
        | (simp [hin, hno, hcl, hwh, hrn]; done)
  · skip
    refine aP ?_
    obtain ⟨D, P, hD1, hD2, HU⟩ := (H.f3).XZ
    have P9 := HU.drew
    have lQ := V.kp (P9.f5.f5.f5.f5.f5)
    refine yC [4, 9, 12, 13] lQ O (jG 0 O lQ O (kD 1 O lQ O (gV 2 O lQ 0 ah O aQ O (gV 3 O lQ 3 aG O sizeOf75 O (jS 4 O lQ (fun W hW => jX kC O ((Kp.h hW).f3).get.2 O) (jG 5 O lQ O (kD 6 O lQ O (gV 7 O lQ 0 ah O aQ O (gV 8 O lQ 2 aG O sizeOf74 O (jS 9 O lQ (fun W hW => jX ku O ((Kp.h hW).f3).get.2 O) (kD 10 O lQ O (gV 11 O lQ 0 eP O aj O (jS 12 O lQ (fun W hW => jX aK O ((Kp.h hW).f4).get.2 O) (jS 13 O lQ (fun W hW => Ls (MK ((Kp.h hW)) kC aK zeroValue184 O O) (Q7 D P k)) (jB 14 O lQ (fun _ => dN O) (qR (aX (bP O (aV (FC underlying184 O O) (jh O (fun h8 => ?_) (fun h8 => ?_)))))))))))))))))))))
    · (try simp only [Z] at h8)
      have hmem := NJ h8
      rw [Nr hmem]
      have HF := P9.f2
      rw [qM hmem] at HF
      have HF2 := HF.flat
      refine aC (bQ O (dS O func120 (Ku HF2) ?_))
      rintro _ w2 ⟨rfl, H2⟩
      have SA := H2.f2.f2
      have QJ := V.of_eq SA (by rw [← bW, ← qM hmem])
      have ZQ := QJ.f2
      have ZR := V.Aj hD1 hD2 ZQ
      refine fU O (bM ?_)
      refine dh (()) ?_ ?_ ?_
      · exact (Sub.jE O (by first | (rw [hD2 _ hnm]; rfl) | (simp; done)) (Sub.nil _))
      · exact lI
      · (try dsimp only)
        first | done | exact ZR.f4.f2.f4.f4
    · (try simp only [Z] at h8)
      have hnm := KR h8
      have U3 := P9.f2.f2
      have U4 := V.Aj hD1 hD2 U3
      refine bY ?_
      refine dh (()) ?_ ?_ ?_
      · exact (Sub.jE O (by first | (rw [hD2 _ hnm]; rfl) | (simp; done)) (Sub.nil _))
      · exact lI
      · (try dsimp only)
        first | done | exact U4.f4.f2.f4.f4
theorem yV {x0 x2 x3 x4 x5 x6 x7 x8 x9 x10 x12 uF x14 x15 x16 x17 x18 x19 x20 x21 vw x23 x24 x25 vU x27 x28 x29 x30 x31 x32 wR : Value} (H : V w0 w (dK e (.cells (x0 :: .pointer (some ⟨pr, 0, none⟩) :: x2 :: x3 :: x4 :: x5 :: x6 :: x7 :: x8 :: x9 :: x10 :: .pointer (some ⟨ph, 0, none⟩) :: x12 :: uF :: x14 :: x15 :: x16 :: x17 :: x18 :: x19 :: x20 :: x21 :: vw :: x23 :: x24 :: x25 :: vU :: x27 :: x28 :: x29 :: x30 :: x31 :: x32 :: wR :: []).toArray 82 (0, 0)) • iF pr E a • F)) : gI prog 33 #[.pointer (some ⟨e, 0, none⟩)] w fun v' w' =>
  ∃ us, V w0 w' (Row 22 1 v' E.length us • ET 21 .i32 us (wZ E a) • dK e (.cells (x0 :: .pointer (some ⟨pr, 0, none⟩) :: x2 :: x3 :: x4 :: x5 :: x6 :: x7 :: x8 :: x9 :: x10 :: .pointer (some ⟨ph, 0, none⟩) :: x12 :: uF :: x14 :: x15 :: x16 :: x17 :: x18 :: x19 :: x20 :: x21 :: vw :: x23 :: x24 :: x25 :: vU :: x27 :: x28 :: x29 :: x30 :: x31 :: x32 :: wR :: []).toArray 82 (0, 0)) • iF pr E a • F) := by
 obtain ⟨hE1, hE2, hE3⟩ := OY H.swap
 refine gG func33 ntmps33 ?_
 refine jg O (aP (bP O (dS O func65 (zV H) ?_)))
 rintro _ _ ⟨rfl, rfl⟩
 refine iJ (qy (fZ (jg O (bP O (dJ O (bD 0 ah O aQ O (bD 1 aG O sizeOf73 O (fG sS O (H).get.2 O (dS O func85 (zF H.f2) ?_)))))))))
 rintro _ w2 ⟨pc2, rfl, H2⟩
 refine vk O (bP O (dS O func86 (Kq H2) ?_))
 rintro _ _ ⟨rfl, rfl⟩
 refine bQ O (iJ (aY ?_))
 obtain ⟨R4, hR4, HR4⟩ := V.aa3 (H2)
 refine fF [(4, _), (17, _)] (fun (⟨i, u⟩ : Nat × Value) => [(3, u), (18, .int .i64 (i : Int))]) (fun (⟨i, u⟩ : Nat × Value) W => i ≤ E.length ∧ ∃ us, V w0 W (Row 22 1 u i us • ET 21 .i32 us ((wZ E a).take i) • iF pc2 E (Wi E.length a i) • R4)) (fun (⟨i, u⟩ : Nat × Value) => E.length - i) ((0, .slice none 0 0)) qB qB ⟨by omega, [], HR4.Wh.iP none⟩ ?_
 rintro ⟨i, u⟩ w5 ⟨hi, us, HL⟩
 dsimp only [List.cons_append, List.nil_append]
 refine iE (aV (iL O O) (pJ (bJ O (fun h1 => ?_) (fun h1 => ?_))))
 ·(try simp only [Z] at h1)
  refine fZ (aP (aY (bP O (gJ O (bP O (bQ O (aV (Cc O O) (dS O func87 (EN HL.f3) ?_))))))))
  rintro _ w6 ⟨u6, rfl, H6⟩
  have hne : ¬ E.length = 0 := by omega
  have HX := H6
  simp only [if_neg hne] at HX
  refine bQ O (rG O O (rG O O (fU O (gJ O (aC (jJ O O (jr (jQ (vs := [_]) HX iK dH zeroValue22 O O O (by decide) (aW (by first | rfl | exact Rd.one ((HX).aS)) bF)) ?_)))))))
  rintro l7 w7 H7
  refine jr (fQ H7.f4 iK Zn O O O ((H7).aS) (aW (by first | rfl | exact Rd.one ((H7.f2).aS)) bF) (by omega) (by omega)) ?_
  rintro l8 w8 H8
  have Hd9 := H8.f2.right
  refine fU O (bM (aJ (aX (aC (aV (gy O O (by omega)) (bQ O (bM ?_)))))))
  have HS := (Hd9.f3.f2.f3.f4).Aq.f2
  refine dL ((i + 1, l8)) ?_ ?_ ?_ ?_
  ·exact qB
  ·exact qB
  ·(try dsimp only)
   first | done | exact ⟨by omega, _, by rw [He (d := []) (by rw [JE]; omega), Tq (by omega) (by omega), ← Tn]; exact HS⟩
  ·(try dsimp only); omega
 ·(try simp only [Z] at h1)
  refine dB (aI ?_)
  obtain rfl : i = E.length := by omega
  have HK := HL
  rw [List.take_of_length_le (by rw [JE]; exact Nat.le_refl _)] at HK
  subst hR4
  refine aI (aZ (aX (bP O (eY O (dG results33 O ?_)))))
  exact ⟨_, HK.f3.right.f3.f4.f4.f4⟩
end
def Qa (s : dF) (u ks sv : Value) : List Value := [u, .int .i64 s.c.pt, .int .i64 s.c.mark, .int .i64 s.c.mode, .bool s.c.over, .bool s.given, .bool s.minus, .int .i64 s.arg, .int .i64 s.y9, .int .i64 s.Ua, .int .i64 s.Ub, ks, .int .i64 s.c.place, sv, .int .i64 s.Ve, .int .i64 s.c.res, .int .i64 s.qL]
section
variable {w0 w : World} {F : HP} {e p ph pw pt pr pm pb : Nat} {s : dF} {k x place : Int} {hl : List pz} {base most cls : Int} {tx : Int → Option ByteArray} {v pv : Value} {U : Int → List (List iR)} {L : List Int} {pnt mk : Int}
theorem EF {x1 x2 x3 x4 x5 x6 x7 x8 x9 x10 x12 uF x14 x15 x16 x17 x18 x19 x20 x21 vw x23 x24 x25 vU x27 x28 x29 x30 x31 x32 wR : Value} (H : V w0 w (dK e (.cells (.pointer (some ⟨pb, 0, none⟩) :: x1 :: x2 :: x3 :: x4 :: x5 :: x6 :: x7 :: x8 :: x9 :: x10 :: .pointer (some ⟨ph, 0, none⟩) :: x12 :: uF :: x14 :: x15 :: x16 :: x17 :: x18 :: x19 :: x20 :: x21 :: vw :: x23 :: x24 :: x25 :: vU :: x27 :: x28 :: x29 :: x30 :: x31 :: x32 :: wR :: []).toArray 82 (0, 0)) • jc pb L pnt mk • F)) : gI prog 28 #[.pointer (some ⟨e, 0, none⟩)] w fun v' w' =>
  ∃ u, v' = .agg (rO u pnt mk) ∧ V w0 w' (kQ 21 .i32 u L • dK e (.cells (.pointer (some ⟨pb, 0, none⟩) :: x1 :: x2 :: x3 :: x4 :: x5 :: x6 :: x7 :: x8 :: x9 :: x10 :: .pointer (some ⟨ph, 0, none⟩) :: x12 :: uF :: x14 :: x15 :: x16 :: x17 :: x18 :: x19 :: x20 :: x21 :: vw :: x23 :: x24 :: x25 :: vU :: x27 :: x28 :: x29 :: x30 :: x31 :: x32 :: wR :: []).toArray 82 (0, 0)) • jc pb L pnt mk • F) := by
 refine gG func28 ntmps28 ?_
 refine iE (jr (fH (l := [_, _, _]) H zeroValue46 O) ?_)
 rintro _ w1 ⟨b1, rfl, H1⟩
 refine pJ (bP O (dS O func65 (zV H1.f2) ?_))
 rintro _ _ ⟨rfl, rfl⟩
 refine iJ (qy (fZ (bP O (dJ O (bD 0 ah O aQ O (bD 0 aG O vF O (fG pX O (H1.f2).get.2 O (dS O func79 (CP H1.f3) ?_))))))))
 rintro _ w3 ⟨u3, rfl, H3⟩
 refine aH (bU 0 (l' := [_, _, _]) (us := [_, _, _]) H3.f3 sizeOf46 O O O (aW (by first | rfl | exact Rd.one ((H3).aS)) (ay (ay bF))) O O) ?_
 rintro _ w4 H4
 refine YW ?_
 refine pO (.inl O) (JX results28 O jl O (by rw [Uy]; rfl) (H4).get.2) ?_
 exact ⟨_, O, H4.right.f2.f3.f3⟩
theorem uX {x0 x1 x3 x4 x5 x6 x7 x8 x9 x10 x12 uF x14 x15 x16 x17 x18 x19 x20 x21 vw x23 x24 x25 vU x27 x28 x29 x30 x31 x32 wR : Value} (H : V w0 w (dK e (.cells (x0 :: x1 :: .pointer (some ⟨pw, 0, none⟩) :: x3 :: x4 :: x5 :: x6 :: x7 :: x8 :: x9 :: x10 :: .pointer (some ⟨ph, 0, none⟩) :: x12 :: uF :: x14 :: x15 :: x16 :: x17 :: x18 :: x19 :: x20 :: x21 :: vw :: x23 :: x24 :: x25 :: vU :: x27 :: x28 :: x29 :: x30 :: x31 :: x32 :: wR :: []).toArray 82 (0, 0)) • dK pw (.cells #[.int .i64 place, .map (some pt)] 122 (0, 0)) • fD qE pt (rF tx) • gQ ph hl base most • F)) :
    gI prog 66 #[.pointer (some ⟨e, 0, none⟩)] w fun v' w' => V w0 w' (Row 133 2 v' (yQ hl tx place).length ((yQ hl tx place).flatMap Ro) •
      dK e (.cells (x0 :: x1 :: .pointer (some ⟨pw, 0, none⟩) :: x3 :: x4 :: x5 :: x6 :: x7 :: x8 :: x9 :: x10 :: .pointer (some ⟨ph, 0, none⟩) :: x12 :: uF :: x14 :: x15 :: x16 :: x17 :: x18 :: x19 :: x20 :: x21 :: vw :: x23 :: x24 :: x25 :: vU :: x27 :: x28 :: x29 :: x30 :: x31 :: x32 :: wR :: []).toArray 82 (0, 0)) • dK pw (.cells #[.int .i64 place, .map (some pt)] 122 (0, 0)) • fD qE pt (rF tx) • gQ ph hl base most • F) := by
  have hb : hl.length ≤ 4096 := by obtain ⟨v, h, _⟩ := H.r4.hist; exact h.1
  refine gG func66 ntmps66 ?_
  refine jg O (jg O (bP O (dJ O (bD 11 ah O sizeOf78 O (fG iT O (H).get.2 O (dS O func117 (nU H.f4) ?_))))))
  rintro _ w1 ⟨rfl, H1⟩
  refine vk O (bP O (bQ O (iJ (aY ?_))))
  refine fF [(0, _), (4, _), (11, _)] (fun (⟨i, u⟩ : Nat × Value) => [(3, u), (12, .int .i64 (i : Int))]) (fun (⟨i, u⟩ : Nat × Value) W => i ≤ hl.length ∧ V w0 W (Row 133 2 u (pF hl tx place i).length ((pF hl tx place i).flatMap Ro) • dK e (.cells (x0 :: x1 :: .pointer (some ⟨pw, 0, none⟩) :: x3 :: x4 :: x5 :: x6 :: x7 :: x8 :: x9 :: x10 :: .pointer (some ⟨ph, 0, none⟩) :: x12 :: uF :: x14 :: x15 :: x16 :: x17 :: x18 :: x19 :: x20 :: x21 :: vw :: x23 :: x24 :: x25 :: vU :: x27 :: x28 :: x29 :: x30 :: x31 :: x32 :: wR :: []).toArray 82 (0, 0)) • dK pw (.cells #[.int .i64 place, .map (some pt)] 122 (0, 0)) • fD qE pt (rF tx) • gQ ph hl base most • F)) (fun (⟨i, u⟩ : Nat × Value) => hl.length - i) ((0, .slice none 0 0)) uM qB ⟨by omega, H1.f4.f4.f4.iP none⟩ ?_
  rintro ⟨i, u⟩ w2 ⟨hi, HL⟩
  dsimp only [List.cons_append, List.nil_append]
  refine iE (aV (iL O O) (pJ (bJ O (fun h1 => ?_) (fun h1 => ?_))))
  · (try simp only [Z] at h1)
    refine fZ (aP (aY (bP O (vk O ?_))))
    have hLen := tN hl tx place i
    refine aC (jJ O O (dJ O (bD 0 ah O aQ O (bD 2 aG O sizeOf74 O (fG ku O (HL.f2).get.2 O (dJ O (bD 0 eP O aj O (fG aK O (HL.f3).get.2 O (aV (iO O O) (jP O (fun h2 => ?_) (fun h2 => ?_)))))))))))
    · (try simp only [Z] at h2)
      have hpl := h2
      refine bC (bQ O (bC (bQ O (bC (dS O func118 (xU HL.f5.f5.f5.f5) ?_)))))
      rintro _ w3 ⟨rfl, H3⟩
      refine bC (bQ O (bC (bQ O (bC (dS O func119 (Dn H3.f4.f2) ?_)))))
      rintro _ w4 ⟨rfl, H4⟩
      refine bC (aV (DI O O) (jF O O (jh O (fun h3 => ?_) (fun h3 => ?_))))
      · (try simp only [Z] at h3)
        have hsv := NK (hl := hl) (tx := tx) (place := place) (i := i) (by unfold Ah; rw [decide_eq_true hpl]; simpa using h3)
        refine aC (jJ O O (jJ O O (dS O func118 (xU H4.f2.f4.f4.f4) ?_)))
        rintro _ w5 ⟨rfl, H5⟩
        refine aV (dP (zl := [.int .i64 0, .string .empty]) (pl := [(0, 1), (1, 1)]) [_, _] underlying133 zeroValue133 O (fun w => by kernel_rfl) O (.on (.on .nil)) O) ?_
        refine jr (uZ H5 underlying48 sizeOf133 zeroValue133 O O O (by decide) (by decide)) ?_
        rintro l6 w6 H6
        refine jr (fQ H6.f6 underlying48 Wj O O O ((H6).aS) (ay (ay bF)) (by omega) (by omega)) ?_
        rintro l7 w7 H7
        have Hd8 := H7.f2.right
        refine fU O (bM (aJ (aX (aC (aV (gy O O (by omega)) (bQ O (bM ?_)))))))
        have hLen := tN hl tx place i
        refine dL ((i + 1, l7)) ?_ ?_ ?_ ?_
        · exact qB
        · exact uM
        · (try dsimp only)
          first | done | exact ⟨by omega, by first | (rw [hsv, List.length_append, List.flatMap_append]; exact Hd8.f5.f5.f5.f5.f5) | (rw [hsv]; exact Hd8.f5.f5.f5.f5.f5)⟩
        · (try dsimp only); omega
      · (try simp only [Z] at h3)
        have hsv := G9 (hl := hl) (tx := tx) (place := place) (i := i) (by unfold Ah; rw [decide_eq_true hpl]; simpa using h3)
        refine bY (aJ (aX (aC (aV (gy O O (by omega)) (bQ O (bM ?_))))))
        have hLen := tN hl tx place i
        refine dL ((i + 1, u)) ?_ ?_ ?_ ?_
        · exact qB
        · exact uM
        · (try dsimp only)
          first | done | exact ⟨by omega, by first | (rw [hsv, List.length_append, List.flatMap_append]; exact H4.f2.f4.f4.f4.f5) | (rw [hsv]; exact H4.f2.f4.f4.f4.f5)⟩
        · (try dsimp only); omega
    · (try simp only [Z] at h2)
      have hsv := G9 (hl := hl) (tx := tx) (place := place) (i := i) (by unfold Ah; rw [decide_eq_false (by simpa using h2)]; rfl)
      refine bI (bI (bI (bI (bI (bI (bI (iM O O (iJ (qy (bY (aJ (aX (aC (aV (gy O O (by omega)) (bQ O (bM ?_))))))))))))))))
      have hLen := tN hl tx place i
      refine dL ((i + 1, u)) ?_ ?_ ?_ ?_
      · exact qB
      · exact uM
      · (try dsimp only)
        first | done | exact ⟨by omega, by first | (rw [hsv, List.length_append, List.flatMap_append]; exact HL.f5.f5.f5.f5.f5) | (rw [hsv]; exact HL.f5.f5.f5.f5.f5)⟩
      · (try dsimp only); omega
  · (try simp only [Z] at h1)
    refine dB (aI ?_)
    obtain rfl : i = hl.length := by omega
    refine aI (aZ (aX (aP (aP ?_))))
    have hLen := tN hl tx place hl.length
    refine aC (nD O O (bD 0 ah O aQ O (bD 2 aG O sizeOf74 O (fG ku O (HL.f2).get.2 O (dJ O (bD 0 eP O aj O (fG aK O (HL.f3).get.2 O (bQ O (aV (iO O O) (jh O (fun h4 => ?_) (fun h4 => ?_)))))))))))
    · (try simp only [Z] at h4)
      have hsv : yQ hl tx place = pF hl tx place hl.length ++ [((hl.length : Int), jm hl tx hl.length)] := by unfold yQ; rw [if_pos h4]
      refine aC (jJ O O (jJ O O (dS O func118 (xU HL.f5.f5.f5.f5) ?_)))
      rintro _ w9 ⟨rfl, H9⟩
      refine aV (dP (zl := [.int .i64 0, .string .empty]) (pl := [(0, 1), (1, 1)]) [_, _] underlying133 zeroValue133 O (fun w => by kernel_rfl) O (.on (.on .nil)) O) ?_
      refine jr (uZ H9 underlying48 sizeOf133 zeroValue133 O O O (by decide) (by decide)) ?_
      rintro l10 w10 pV
      refine jr (fQ pV.f6 underlying48 Wj O O O ((pV).aS) (ay (ay bF)) (by omega) (by omega)) ?_
      rintro l11 DU qo
      have Iq := qo.f2.right
      refine gJ O (bP O (eY O (dG results66 O ?_)))
      first
        | (rw [hsv, List.length_append, List.flatMap_append]; exact Iq.f5.f5.f5.f5.f5)
        | (rw [hsv]; exact Iq.f5.f5.f5.f5.f5)
    · (try simp only [Z] at h4)
      have hsv : yQ hl tx place = pF hl tx place hl.length := by unfold yQ; rw [if_neg (by simpa using h4), List.append_nil]
      refine fZ (bP O (eY O (dG results66 O ?_)))
      first
        | (rw [hsv, List.length_append, List.flatMap_append]; exact HL.f5.f5.f5.f5.f5)
        | (rw [hsv]; exact HL.f5.f5.f5.f5.f5)
theorem Tt {u0 u1 u2 u3 u4 u5 u6 u7 u8 u9 ua : Value} (hin : s.inn = true) (H : V w0 w (uI s.inn s.was [u0, u1, u2, u3, u4, u5, u6, u7, u8, u9, ua] • F)) : u6 = .int .i64 s.was.last ∧ u7 = .int .i64 s.was.fr ∧ u8 = .int .i64 s.was.to := by
  rw [hin] at H
  obtain ⟨qb, qr, qw, qt, qm, hu, -⟩ := H.was
  simp only [MV, List.cons.injEq, and_true] at hu
  exact ⟨hu.2.2.2.2.2.2.1, hu.2.2.2.2.2.2.2.1, hu.2.2.2.2.2.2.2.2.1⟩
set_option maxHeartbeats 1000000 in
theorem KT (H : V w0 w (gB e s • F)) : gI prog 23 #[.pointer (some ⟨e, 0, none⟩)] w fun v w' => ∃ u ks us sv, v = .agg (Qa s u ks sv).toArray ∧
  V w0 w' (kQ 21 .i32 u s.c.L • Row 22 1 ks s.c.E.length us • ET 21 .i32 us (wZ s.c.E s.c.at_) • Row 133 2 sv s.saved.length (s.saved.flatMap Ro) • gB e s • F) := by
 refine gG func23 ntmps23 ?_
 obtain ⟨xG, xH, xI, xJ, xK, xM, xO, xP, uy, rV, rW, rX, rY, rZ, su, sD, sF, sG, sH, sJ, iw, dD, kV, iI⟩ := (H).Gp
 have hU : (s.c.un s.c.place).length ≤ 16384 := by
  obtain ⟨D, P, hD1, hD2, HU⟩ := (iI.f6).XZ
  by_cases hm : s.c.place ∈ D
  ·have HF := HU.swap
   rw [qM hm] at HF
   obtain ⟨_, _, _, _, k1, _⟩ := HF.flat.xZ
   have := k1.len; simpa using this
  ·rw [hD2 _ hm]; decide
 refine iE (jr (fH (l := [_, _, _, _, _, _, _, _, _, _, _, _, _, _, _, _, _]) iI iY O) ?_)
 rintro _ w2 ⟨b2, rfl, H2⟩
 refine pJ (bP O (dS O func65 (zV H2.f2) ?_))
 rintro _ _ ⟨rfl, rfl⟩
 refine iJ (qy (fZ ?_))
 refine kM [(0, _)] (fun (⟨r, q, u, ks, sv, us⟩ : Nat × Nat × Value × Value × Value × List Value) => [(2, .pointer (some ⟨r, 0, none⟩)), (3, .pointer (some ⟨q, 0, none⟩))]) (fun (⟨r, q, u, ks, sv, us⟩ : Nat × Nat × Value × Value × Value × List Value) W => V w0 W (dK q (.cells (u :: .int .i64 s.c.pt :: .int .i64 s.c.mark :: .int .i64 s.c.mode :: .bool s.c.over :: .bool s.given :: .bool s.minus :: .int .i64 s.arg :: .int .i64 s.c.last :: .int .i64 s.c.fr :: .int .i64 s.c.to :: ks :: .int .i64 s.c.place :: sv :: .int .i64 s.Ve :: .int .i64 s.c.res :: .int .i64 s.qL :: []).toArray 50 (0, 0)) • kQ 21 .i32 u s.c.L • Row 22 1 ks s.c.E.length us • ET 21 .i32 us (wZ s.c.E s.c.at_) • Row 133 2 sv s.saved.length (s.saved.flatMap Ro) • dK e (.cells (.pointer (some ⟨xG, 0, none⟩) :: .pointer (some ⟨xH, 0, none⟩) :: .pointer (some ⟨xI, 0, none⟩) :: .map (some xK) :: .int .i64 s.c.mode :: .bool s.c.over :: .int .i64 s.c.last :: .int .i64 s.c.fr :: .int .i64 s.c.to :: .int .i64 s.c.res :: .bool s.c.run :: .pointer (some ⟨xM, 0, none⟩) :: .pointer (some ⟨xO, 0, none⟩) :: .bool s.given :: .bool s.minus :: .int .i64 s.arg :: .bool s.inn :: rV :: rW :: rX :: rY :: rZ :: su :: sD :: sF :: sG :: sH :: sJ :: .int .i64 s.cls :: .bool s.killed :: .bool s.lu :: .bool s.argues :: .bool s.whole :: xP :: []).toArray 82 (0, 0)) • jc xG s.c.L s.c.pt s.c.mark • iF xH s.c.E s.c.at_ • dK xI (.cells #[.int .i64 s.c.place, .map (some xJ)] 122 (0, 0)) • fD qE xJ (rF s.c.tx) • wM xK s.c.un • gQ xM s.hl s.base s.most • dK xO (.cells #[.int .i64 s.qL] 161 (0, 0)) • Row 189 3 xP s.put.length (uy.flatMap dQ.enc) • kE uy • uI s.inn s.was [rV, rW, rX, rY, rZ, su, sD, sF, sG, sH, sJ] • dK r (.cells (.slice none 0 0 :: .int .i64 0 :: .int .i64 0 :: .int .i64 0 :: .bool false :: .bool false :: .bool false :: .int .i64 0 :: .int .i64 0 :: .int .i64 0 :: .int .i64 0 :: .slice none 0 0 :: .int .i64 0 :: .slice none 0 0 :: .int .i64 0 :: .int .i64 0 :: .int .i64 0 :: []).toArray 50 (0, 0)) • F)) lI ?_ ?_
 ·rintro ⟨r, q, u, ks, sv, us⟩ w4 HJ
  dsimp only [List.cons_append, List.nil_append]
  refine aP (bP O (dJ O (bD 16 ah O aO O (fG bK O (HJ.f6).get.2 O (jh O (fun h1 => ?_) (fun h1 => ?_))))))
  ·(try simp only [Z] at h1)
   have hin := h1
   obtain ⟨rfl, rfl, rfl⟩ := Tt hin HJ.f16
   have acb := HJ.drew
   have tV := V.kp (acb.right.f16.f16.f16.f16.f16.f16.f16.f16.f16.f16.f16.f16.f16.f16.f16.f16)
   refine yC [4, 9, 14] tV O (jG 0 O tV O (kD 1 O tV O (gV 2 O tV 17 ah O aQ O (gV 3 O tV 6 aG O aj O (jS 4 O tV (fun W hW => jX aK O ((Kp.h hW).f5).get.2 O) (jG 5 O tV O (kD 6 O tV O (gV 7 O tV 17 ah O aQ O (gV 8 O tV 7 aG O aj O (jS 9 O tV (fun W hW => jX aK O ((Kp.h hW).f5).get.2 O) (jG 10 O tV O (kD 11 O tV O (gV 12 O tV 17 ah O aQ O (gV 13 O tV 8 aG O aj O (jS 14 O tV (fun W hW => jX aK O ((Kp.h hW).f5).get.2 O) (gV 15 O tV 8 iq O aj O ?_))))))))))))))))
   refine fM 16 O (by kernel_rfl) (ZJ 8 acb aj) ?_
   rintro _ w5 H5
   have Bv := V.kp (H5.right.f16.f16.f16.f16.f16.f16.f16.f16.f16.f16.f16.f16.f16.f16.f16.f16)
   refine dU Bv (fun W hW => (Kp.h hW).f16.f16.f16.f16.f16.f16.f16.f16.f16.f16.f16.f16.f16.f16.f16.f16) ?_
   refine gV 17 O Bv 9 iq O aj O ?_
   refine fM 18 O (by kernel_rfl) (ZJ 9 H5 aj) ?_
   rintro _ w6 H6
   have Iw := V.kp (H6.f17.f17.f17.f17.f17.f17.f17.f17.f17.f17.f17.f17.f17.f17.f17.f17.f17)
   refine dU Iw (fun W hW => (Kp.h hW).right.f16.f16.f16.f16.f16.f16.f16.f16.f16.f16.f16.f16.f16.f16.f16.f16) ?_
   refine gV 19 O Iw 10 iq O aj O ?_
   refine fM 20 O (by kernel_rfl) (ZJ 10 H6 aj) ?_
   rintro _ w7 H7
   have Ip := V.kp (H7.f17.f17.f17.f17.f17.f17.f17.f17.f17.f17.f17.f17.f17.f17.f17.f17.f17)
   refine gW Ip (by kernel_rfl) ?_
   refine qR (aX (iE (aV (eU iq O sizeOf50 O O (H7).get.2) (aH (bU 0 (l' := [_, _, _, _, _, _, _, _, _, _, _, _, _, _, _, _, _]) (us := [_, _, _, _, _, _, _, _, _, _, _, _, _, _, _, _, _]) H7.f17 sizeOf50 O O O (aW (by first | rfl | exact Rd.one ((H7.f2).aS)) (ay (ay (ay (ay (ay (ay (ay (ay (ay (ay (aW (by first | rfl | exact Rd.one ((H7.f3).aS)) (ay (aW (by first | rfl | exact Rd.one ((H7.f5).aS)) (ay (ay (ay bF))))))))))))))))) O O) ?_))))
   rintro _ w8 H8
   refine YW ?_
   refine pO (.inl O) (JX results23 O iq O (by rw [Zo]; rfl) (H8).get.2) ?_
   have U8 := H8.f17.f17.f17.f17.f17.f17.f17.f17.f17.f17.f17
   have U9 := V.iH (s := s) iw dD U8
   refine ⟨u, ks, us, sv, ?_, U9.f2.right.f2.right.f5.f5.f5.f5⟩
   unfold Qa dF.y9 dF.Ua dF.Ub
   rw [hin]
   rfl
  ·(try simp only [Z] at h1)
   have hin := h1
   refine fZ (iE (aV (eU iq O sizeOf50 O O (HJ).get.2) (aH (bU 0 (l' := [_, _, _, _, _, _, _, _, _, _, _, _, _, _, _, _, _]) (us := [_, _, _, _, _, _, _, _, _, _, _, _, _, _, _, _, _]) HJ.f17 sizeOf50 O O O (aW (by first | rfl | exact Rd.one ((HJ.f2).aS)) (ay (ay (ay (ay (ay (ay (ay (ay (ay (ay (aW (by first | rfl | exact Rd.one ((HJ.f3).aS)) (ay (aW (by first | rfl | exact Rd.one ((HJ.f5).aS)) (ay (ay (ay bF))))))))))))))))) O O) ?_)))
   rintro _ w12 um
   refine YW ?_
   refine pO (.inl O) (JX results23 O iq O (by rw [Zo]; rfl) (um).get.2) ?_
   have aad := um.f17.f17.f17.f17.f17.f17.f17.f17.f17.f17.f17
   have aae := V.iH (s := s) iw dD aad
   refine ⟨u, ks, us, sv, ?_, aae.f2.right.f2.right.f5.f5.f5.f5⟩
   unfold Qa dF.y9 dF.Ua dF.Ub
   rw [hin]
   rfl
 ·skip
  have Wn := H2.drew
  have dX := V.kp (Wn.f7.right.f7.right.f10.f10.f10.f10.f10.f10.f10.f10.f10.f10)
  refine yC [6, 11, 15, 19, 23, 28, 33, 38, 45, 48, 57, 61] dX O (jG 0 O dX O (jG 2 O dX O (kD 3 O dX O (gV 4 O dX 0 ah O aQ O (gV 5 O dX 4 aG O aj O (jS 6 O dX (fun W hW => jX aK O ((Kp.h hW).f2).get.2 O) (jG 7 O dX O (kD 8 O dX O (gV 9 O dX 0 ah O aQ O (gV 10 O dX 5 aG O aO O (jS 11 O dX (fun W hW => jX bK O ((Kp.h hW).f2).get.2 O) (jG 12 O dX O (kD 13 O dX O (gV 14 O dX 13 ah O aO O (jS 15 O dX (fun W hW => jX bK O ((Kp.h hW).f2).get.2 O) (jG 16 O dX O (kD 17 O dX O (gV 18 O dX 14 ah O aO O (jS 19 O dX (fun W hW => jX bK O ((Kp.h hW).f2).get.2 O) (jG 20 O dX O (kD 21 O dX O (gV 22 O dX 15 ah O aj O (jS 23 O dX (fun W hW => jX aK O ((Kp.h hW).f2).get.2 O) (jG 24 O dX O (kD 25 O dX O (gV 26 O dX 0 ah O aQ O (gV 27 O dX 6 aG O aj O (jS 28 O dX (fun W hW => jX aK O ((Kp.h hW).f2).get.2 O) (jG 29 O dX O (kD 30 O dX O (gV 31 O dX 0 ah O aQ O (gV 32 O dX 7 aG O aj O (jS 33 O dX (fun W hW => jX aK O ((Kp.h hW).f2).get.2 O) (jG 34 O dX O (kD 35 O dX O (gV 36 O dX 0 ah O aQ O (gV 37 O dX 8 aG O aj O (jS 38 O dX (fun W hW => jX aK O ((Kp.h hW).f2).get.2 O) (jG 39 O dX O ?_)))))))))))))))))))))))))))))))))))))))
  refine jG 41 O dX O (kD 42 O dX O (gV 43 O dX 0 ah O aQ O (gV 44 O dX 2 aG O sizeOf74 O (jS 45 O dX (fun W hW => jX ku O ((Kp.h hW).f2).get.2 O) (kD 46 O dX O (gV 47 O dX 0 eP O aj O (jS 48 O dX (fun W hW => jX aK O ((Kp.h hW).f5).get.2 O) (jG 49 O dX O (jG 51 O dX O (jG 53 O dX O (kD 54 O dX O (gV 55 O dX 0 ah O aQ O (gV 56 O dX 9 aG O aj O (jS 57 O dX (fun W hW => jX aK O ((Kp.h hW).f2).get.2 O) (jG 58 O dX O (kD 59 O dX O (gV 60 O dX 12 ah O sizeOf79 O (jS 61 O dX (fun W hW => jX underlying79 O ((Kp.h hW).f2).get.2 O) ?_))))))))))))))))))
  refine xk (i := 1) (j := 64) (by kernel_rfl) ?_ ?_
  ·skip
   refine jL 1 O (by kernel_rfl) (uj (vO O func28 O O) (EF Wn.f3.f3)) (lX O) ?_
   rintro _ w16 ⟨u16, rfl, yH⟩
   have CX := V.kp (yH.f8.right.f8.right.f11.f11.f11.f11.f11.f11.f11.f11.f11.f11.f11)
   refine dU CX (fun W hW => (Kp.h hW).right.f10.f10.f10.f10.f10.f10.f10.f9.f9.f10) ?_
   refine xk (i := 40) (j := 64) (by kernel_rfl) ?_ ?_
   ·skip
    refine jL 40 O (by kernel_rfl) (uj (vO O func33 O O) (yV yH.f5.f3)) (lX O) ?_
    rintro u17 Zc ⟨ae8, Ig⟩
    have Et := V.kp (Ig.f10.right.f10.right.f13.f13.f13.f13.f13.f13.f13.f13.f13.f13.f13.f13.f13)
    refine dU Et (fun W hW => (Kp.h hW).right.right.f11.f11.f11.f11.f11.f11.f8.f11.f11.f10.f11) ?_
    refine xk (i := 50) (j := 64) (by kernel_rfl) ?_ ?_
    ·skip
     refine jL 50 O (by kernel_rfl) (uj (vO O func66 O O) (uX Ig.f11.f10.f10.f6)) (lX O) ?_
     rintro u18 XF CG
     have UN := V.kp (CG.f12.right.f15.f15.f15.f15.f15.f15.f15.f15.f15.f15.f15.f15.f15.f15.f15)
     refine dU UN (fun W hW => (Kp.h hW).right.f4.right.f13.f13.f13.f13.f7.f7.f13.f13.f13.f13.f11.f13.f13) ?_
     refine xk (i := 52) (j := 64) (by kernel_rfl) ?_ ?_
     ·skip
      refine jL 52 O (by kernel_rfl) (uj (vO O func67 O O) (qj CG.f14.f13.f5.f5 hU)) (lX O) ?_
      rintro _ w19 ⟨rfl, DW⟩
      have Vk := V.kp (DW.f16.f16.f16.f16.f16.f16.f16.f16.f16.f16.f16.f16.f16.f16.f16.f16)
      refine dU Vk (fun W hW => (Kp.h hW).f3.right.f15.f15.f5.f15.f15.f15.f15.f15.f15.f15.f15.f15.f14.f14.f15) ?_
      refine xk (i := 62) (j := 64) (by kernel_rfl) ?_ ?_
      ·skip
       refine jL 62 O (by kernel_rfl) (uj (vO O func68 O O) (mY DW.f14)) (lX O) ?_
       rintro _ _ ⟨rfl, rfl⟩
       have CZ := V.kp (DW.f16.f16.f16.f16.f16.f16.f16.f16.f16.f16.f16.f16.f16.f16.f16.f16)
       refine dU CZ (fun W hW => (Kp.h hW).f16.f16.f16.f16.f16.f16.f16.f16.f16.f16.f16.f16.f16.f16.f16.f16) ?_
       refine jB 63 O CZ (fun _ => dP (zl := [.slice none 0 0, .int .i64 0, .int .i64 0, .int .i64 0, .bool false, .bool false, .bool false, .int .i64 0, .int .i64 0, .int .i64 0, .int .i64 0, .slice none 0 0, .int .i64 0, .slice none 0 0, .int .i64 0, .int .i64 0, .int .i64 0]) (pl := [(0, 3), (3, 1), (4, 1), (5, 1), (6, 1), (7, 1), (8, 1), (9, 1), (10, 1), (11, 1), (12, 1), (13, 1), (14, 1), (15, 1), (16, 1)]) [_, _, _, _, _, _, _, _, _, _, _, _, _, _, _, _, _] iq iY O (fun w => by kernel_rfl) O (.agg (us := [_, _, _]) (zs := [.slice none 0 0, .int .i64 0, .int .i64 0]) O O (.on (.on (.on (.on (.on (.on (.on (.on (.one (Rd.one ((DW.f8).aS)) (.on (.one (Rd.one ((DW.f5).aS)) (.on (.on (.on .nil))))))))))))))) O) ?_
       refine og 64 O (fH (l := [_, _, _, _, _, _, _, _, _, _, _, _, _, _, _, _, _]) DW iY O) ?_
       rintro _ w21 ⟨b21, rfl, Ir⟩
       have Wp := V.kp (Ir.f17.f17.f17.f17.f17.f17.f17.f17.f17.f17.f17.f17.f17.f17.f17.f17.f17)
       refine dU Wp (fun W hW => (Kp.h hW).right.f16.f16.f16.f16.f16.f16.f16.f16.f16.f16.f16.f16.f16.f16.f16.f16) ?_
       refine fM 65 O (by kernel_rfl) (bU 0 (l' := [_, _, _, _, _, _, _, _, _, _, _, _, _, _, _, _, _]) (us := [_, _, _, _, _, _, _, _, _, _, _, _, _, _, _, _, _]) Ir sizeOf50 O O O (aW (by first | rfl | exact Rd.one ((Ir.f12).aS)) (ay (ay (ay (ay (ay (ay (ay (ay (ay (ay (aW (by first | rfl | exact Rd.one ((Ir.f9).aS)) (ay (aW (by first | rfl | exact Rd.one ((Ir.f6).aS)) (ay (ay (ay bF))))))))))))))))) O O) ?_
       rintro _ w22 OV
       have MO := V.kp (OV.f17.f17.f17.f17.f17.f17.f17.f17.f17.f17.f17.f17.f17.f17.f17.f17.f17)
       refine gW MO (by kernel_rfl) ?_
       refine qR ?_
       refine dh (_, _, _, _, _, _) qB lI (by (try dsimp only); exact OV.f14.f17.f17.f8.f17.f12.f10.f12.f11.f15.f17.f13.f14.f16.f16.f17.f17)
      ·skip
       refine jL 64 O (by kernel_rfl) (fH (l := [_, _, _, _, _, _, _, _, _, _, _, _, _, _, _, _, _]) DW iY O) (lX O) ?_
       rintro _ w23 ⟨b23, rfl, Iu⟩
       have Jt := V.kp (Iu.f17.f17.f17.f17.f17.f17.f17.f17.f17.f17.f17.f17.f17.f17.f17.f17.f17)
       refine dU Jt (fun W hW => (Kp.h hW).right.f16.f16.f16.f16.f16.f16.f16.f16.f16.f16.f16.f16.f16.f16.f16.f16) ?_
       refine og 62 O (yF O func68 (mY Iu.f15)) ?_
       rintro _ _ ⟨rfl, rfl⟩
       have GU := V.kp (Iu.f17.f17.f17.f17.f17.f17.f17.f17.f17.f17.f17.f17.f17.f17.f17.f17.f17)
       refine dU GU (fun W hW => (Kp.h hW).f17.f17.f17.f17.f17.f17.f17.f17.f17.f17.f17.f17.f17.f17.f17.f17.f17) ?_
       refine jB 63 O GU (fun _ => dP (zl := [.slice none 0 0, .int .i64 0, .int .i64 0, .int .i64 0, .bool false, .bool false, .bool false, .int .i64 0, .int .i64 0, .int .i64 0, .int .i64 0, .slice none 0 0, .int .i64 0, .slice none 0 0, .int .i64 0, .int .i64 0, .int .i64 0]) (pl := [(0, 3), (3, 1), (4, 1), (5, 1), (6, 1), (7, 1), (8, 1), (9, 1), (10, 1), (11, 1), (12, 1), (13, 1), (14, 1), (15, 1), (16, 1)]) [_, _, _, _, _, _, _, _, _, _, _, _, _, _, _, _, _] iq iY O (fun w => by kernel_rfl) O (.agg (us := [_, _, _]) (zs := [.slice none 0 0, .int .i64 0, .int .i64 0]) O O (.on (.on (.on (.on (.on (.on (.on (.on (.one (Rd.one ((Iu.f9).aS)) (.on (.one (Rd.one ((Iu.f6).aS)) (.on (.on (.on .nil))))))))))))))) O) ?_
       refine fM 65 O (by kernel_rfl) (bU 0 (l' := [_, _, _, _, _, _, _, _, _, _, _, _, _, _, _, _, _]) (us := [_, _, _, _, _, _, _, _, _, _, _, _, _, _, _, _, _]) Iu sizeOf50 O O O (aW (by first | rfl | exact Rd.one ((Iu.f12).aS)) (ay (ay (ay (ay (ay (ay (ay (ay (ay (ay (aW (by first | rfl | exact Rd.one ((Iu.f9).aS)) (ay (aW (by first | rfl | exact Rd.one ((Iu.f6).aS)) (ay (ay (ay bF))))))))))))))))) O O) ?_
       rintro _ w25 Uc
       have VO := V.kp (Uc.f17.f17.f17.f17.f17.f17.f17.f17.f17.f17.f17.f17.f17.f17.f17.f17.f17)
       refine gW VO (by kernel_rfl) ?_
       refine qR ?_
       refine dh (_, _, _, _, _, _) qB lI (by (try dsimp only); exact Uc.f14.f17.f17.f8.f17.f12.f10.f12.f11.f15.f17.f13.f14.f16.f16.f17.f17)
     ·skip
      refine jL 64 O (by kernel_rfl) (fH (l := [_, _, _, _, _, _, _, _, _, _, _, _, _, _, _, _, _]) CG iY O) (lX O) ?_
      rintro _ w26 ⟨b26, rfl, VP⟩
      have acd := V.kp (VP.f13.right.f16.f16.f16.f16.f16.f16.f16.f16.f16.f16.f16.f16.f16.f16.f16.f16)
      refine dU acd (fun W hW => (Kp.h hW).right.f15.f15.f15.f15.f15.f15.f15.f15.f15.f15.f15.f15.f15.f15.f15) ?_
      refine og 52 O (yF O func67 (qj VP.f15.f14.f6.f6 hU)) ?_
      rintro _ w27 ⟨rfl, Nv⟩
      have ace := V.kp (Nv.f17.f17.f17.f17.f17.f17.f17.f17.f17.f17.f17.f17.f17.f17.f17.f17.f17)
      refine dU ace (fun W hW => (Kp.h hW).f3.right.f16.f16.f5.f16.f16.f16.f16.f16.f16.f16.f16.f16.f14.f14.f16.f16) ?_
      refine og 62 O (yF O func68 (mY Nv.f15)) ?_
      rintro _ _ ⟨rfl, rfl⟩
      have Zp := V.kp (Nv.f17.f17.f17.f17.f17.f17.f17.f17.f17.f17.f17.f17.f17.f17.f17.f17.f17)
      refine dU Zp (fun W hW => (Kp.h hW).f17.f17.f17.f17.f17.f17.f17.f17.f17.f17.f17.f17.f17.f17.f17.f17.f17) ?_
      refine jB 63 O Zp (fun _ => dP (zl := [.slice none 0 0, .int .i64 0, .int .i64 0, .int .i64 0, .bool false, .bool false, .bool false, .int .i64 0, .int .i64 0, .int .i64 0, .int .i64 0, .slice none 0 0, .int .i64 0, .slice none 0 0, .int .i64 0, .int .i64 0, .int .i64 0]) (pl := [(0, 3), (3, 1), (4, 1), (5, 1), (6, 1), (7, 1), (8, 1), (9, 1), (10, 1), (11, 1), (12, 1), (13, 1), (14, 1), (15, 1), (16, 1)]) [_, _, _, _, _, _, _, _, _, _, _, _, _, _, _, _, _] iq iY O (fun w => by kernel_rfl) O (.agg (us := [_, _, _]) (zs := [.slice none 0 0, .int .i64 0, .int .i64 0]) O O (.on (.on (.on (.on (.on (.on (.on (.on (.one (Rd.one ((Nv.f9).aS)) (.on (.one (Rd.one ((Nv.f6).aS)) (.on (.on (.on .nil))))))))))))))) O) ?_
      refine fM 65 O (by kernel_rfl) (bU 0 (l' := [_, _, _, _, _, _, _, _, _, _, _, _, _, _, _, _, _]) (us := [_, _, _, _, _, _, _, _, _, _, _, _, _, _, _, _, _]) Nv.f5 sizeOf50 O O O (aW (by first | rfl | exact Rd.one ((Nv.f12).aS)) (ay (ay (ay (ay (ay (ay (ay (ay (ay (ay (aW (by first | rfl | exact Rd.one ((Nv.f9).aS)) (ay (aW (by first | rfl | exact Rd.one ((Nv.f6).aS)) (ay (ay (ay bF))))))))))))))))) O O) ?_
      rintro _ w29 Yg
      have acf := V.kp (Yg.f17.f17.f17.f17.f17.f17.f17.f17.f17.f17.f17.f17.f17.f17.f17.f17.f17)
      refine gW acf (by kernel_rfl) ?_
      refine qR ?_
      refine dh (_, _, _, _, _, _) qB lI (by (try dsimp only); exact Yg.f14.f17.f17.f8.f17.f12.f10.f12.f11.f15.f17.f13.f14.f16.f16.f17.f17)
    ·skip
     refine jL 64 O (by kernel_rfl) (fH (l := [_, _, _, _, _, _, _, _, _, _, _, _, _, _, _, _, _]) Ig iY O) (lX O) ?_
     rintro _ w30 ⟨b30, rfl, Vo⟩
     have acg := V.kp (Vo.f11.right.f11.right.f14.f14.f14.f14.f14.f14.f14.f14.f14.f14.f14.f14.f14.f14)
     refine dU acg (fun W hW => (Kp.h hW).right.f13.f13.f13.f13.f13.f13.f13.f13.f13.f13.f13.f13.f13) ?_
     refine og 50 O (yF O func66 (uX Vo.f12.f11.f11.f7)) ?_
     rintro u31 w31 SI
     have VQ := V.kp (SI.f13.right.f16.f16.f16.f16.f16.f16.f16.f16.f16.f16.f16.f16.f16.f16.f16.f16)
     refine dU VQ (fun W hW => (Kp.h hW).right.f4.right.f14.f14.f14.f14.f7.f7.f14.f14.f14.f14.f11.f14.f14.f14) ?_
     refine og 52 O (yF O func67 (qj SI.f15.f14.f5.f5 hU)) ?_
     rintro _ w32 ⟨rfl, Nw⟩
     have Q9 := V.kp (Nw.f17.f17.f17.f17.f17.f17.f17.f17.f17.f17.f17.f17.f17.f17.f17.f17.f17)
     refine dU Q9 (fun W hW => (Kp.h hW).f3.right.f16.f16.f5.f16.f16.f16.f16.f16.f16.f16.f16.f16.f16.f15.f15.f16) ?_
     refine og 62 O (yF O func68 (mY Nw.f15)) ?_
     rintro _ _ ⟨rfl, rfl⟩
     have Rf := V.kp (Nw.f17.f17.f17.f17.f17.f17.f17.f17.f17.f17.f17.f17.f17.f17.f17.f17.f17)
     refine dU Rf (fun W hW => (Kp.h hW).f17.f17.f17.f17.f17.f17.f17.f17.f17.f17.f17.f17.f17.f17.f17.f17.f17) ?_
     refine jB 63 O Rf (fun _ => dP (zl := [.slice none 0 0, .int .i64 0, .int .i64 0, .int .i64 0, .bool false, .bool false, .bool false, .int .i64 0, .int .i64 0, .int .i64 0, .int .i64 0, .slice none 0 0, .int .i64 0, .slice none 0 0, .int .i64 0, .int .i64 0, .int .i64 0]) (pl := [(0, 3), (3, 1), (4, 1), (5, 1), (6, 1), (7, 1), (8, 1), (9, 1), (10, 1), (11, 1), (12, 1), (13, 1), (14, 1), (15, 1), (16, 1)]) [_, _, _, _, _, _, _, _, _, _, _, _, _, _, _, _, _] iq iY O (fun w => by kernel_rfl) O (.agg (us := [_, _, _]) (zs := [.slice none 0 0, .int .i64 0, .int .i64 0]) O O (.on (.on (.on (.on (.on (.on (.on (.on (.one (Rd.one ((Nw.f9).aS)) (.on (.one (Rd.one ((Nw.f5).aS)) (.on (.on (.on .nil))))))))))))))) O) ?_
     refine fM 65 O (by kernel_rfl) (bU 0 (l' := [_, _, _, _, _, _, _, _, _, _, _, _, _, _, _, _, _]) (us := [_, _, _, _, _, _, _, _, _, _, _, _, _, _, _, _, _]) Nw.f8 sizeOf50 O O O (aW (by first | rfl | exact Rd.one ((Nw.f12).aS)) (ay (ay (ay (ay (ay (ay (ay (ay (ay (ay (aW (by first | rfl | exact Rd.one ((Nw.f9).aS)) (ay (aW (by first | rfl | exact Rd.one ((Nw.f5).aS)) (ay (ay (ay bF))))))))))))))))) O O) ?_
     rintro _ w34 VR
     have JA := V.kp (VR.f17.f17.f17.f17.f17.f17.f17.f17.f17.f17.f17.f17.f17.f17.f17.f17.f17)
     refine gW JA (by kernel_rfl) ?_
     refine qR ?_
     refine dh (_, _, _, _, _, _) qB lI (by (try dsimp only); exact VR.f14.f17.f17.f8.f17.f12.f10.f12.f11.f15.f17.f13.f14.f16.f16.f17.f17)
   ·skip
    refine jL 64 O (by kernel_rfl) (fH (l := [_, _, _, _, _, _, _, _, _, _, _, _, _, _, _, _, _]) yH iY O) (lX O) ?_
    rintro _ w35 ⟨b35, rfl, H35⟩
    have VT := V.kp (H35.f9.right.f9.right.f12.f12.f12.f12.f12.f12.f12.f12.f12.f12.f12.f12)
    refine dU VT (fun W hW => (Kp.h hW).right.f11.f11.f11.f11.f11.f11.f11.f11.f11.f11.f11) ?_
    refine og 40 O (yF O func33 (yV H35.f6.f4)) ?_
    rintro u36 w36 ⟨ae9, H36⟩
    have ach := V.kp (H36.f11.right.f11.right.f14.f14.f14.f14.f14.f14.f14.f14.f14.f14.f14.f14.f14.f14)
    refine dU ach (fun W hW => (Kp.h hW).right.right.f12.f12.f12.f12.f12.f12.f8.f12.f12.f10.f12.f12) ?_
    refine og 50 O (yF O func66 (uX H36.f12.f11.f11.f6)) ?_
    rintro u37 w37 H37
    have aci := V.kp (H37.f13.right.f16.f16.f16.f16.f16.f16.f16.f16.f16.f16.f16.f16.f16.f16.f16.f16)
    refine dU aci (fun W hW => (Kp.h hW).right.f4.right.f14.f14.f14.f14.f7.f7.f14.f14.f14.f14.f14.f12.f14.f14) ?_
    refine og 52 O (yF O func67 (qj H37.f15.f14.f5.f5 hU)) ?_
    rintro _ w38 ⟨rfl, PX⟩
    have acj := V.kp (PX.f17.f17.f17.f17.f17.f17.f17.f17.f17.f17.f17.f17.f17.f17.f17.f17.f17)
    refine dU acj (fun W hW => (Kp.h hW).f3.right.f16.f16.f5.f16.f16.f16.f16.f16.f16.f16.f16.f16.f16.f15.f15.f16) ?_
    refine og 62 O (yF O func68 (mY PX.f15)) ?_
    rintro _ _ ⟨rfl, rfl⟩
    have NG := V.kp (PX.f17.f17.f17.f17.f17.f17.f17.f17.f17.f17.f17.f17.f17.f17.f17.f17.f17)
    refine dU NG (fun W hW => (Kp.h hW).f17.f17.f17.f17.f17.f17.f17.f17.f17.f17.f17.f17.f17.f17.f17.f17.f17) ?_
    refine jB 63 O NG (fun _ => dP (zl := [.slice none 0 0, .int .i64 0, .int .i64 0, .int .i64 0, .bool false, .bool false, .bool false, .int .i64 0, .int .i64 0, .int .i64 0, .int .i64 0, .slice none 0 0, .int .i64 0, .slice none 0 0, .int .i64 0, .int .i64 0, .int .i64 0]) (pl := [(0, 3), (3, 1), (4, 1), (5, 1), (6, 1), (7, 1), (8, 1), (9, 1), (10, 1), (11, 1), (12, 1), (13, 1), (14, 1), (15, 1), (16, 1)]) [_, _, _, _, _, _, _, _, _, _, _, _, _, _, _, _, _] iq iY O (fun w => by kernel_rfl) O (.agg (us := [_, _, _]) (zs := [.slice none 0 0, .int .i64 0, .int .i64 0]) O O (.on (.on (.on (.on (.on (.on (.on (.on (.one (Rd.one ((PX.f8).aS)) (.on (.one (Rd.one ((PX.f5).aS)) (.on (.on (.on .nil))))))))))))))) O) ?_
    refine fM 65 O (by kernel_rfl) (bU 0 (l' := [_, _, _, _, _, _, _, _, _, _, _, _, _, _, _, _, _]) (us := [_, _, _, _, _, _, _, _, _, _, _, _, _, _, _, _, _]) PX.f11 sizeOf50 O O O (aW (by first | rfl | exact Rd.one ((PX.f12).aS)) (ay (ay (ay (ay (ay (ay (ay (ay (ay (ay (aW (by first | rfl | exact Rd.one ((PX.f8).aS)) (ay (aW (by first | rfl | exact Rd.one ((PX.f5).aS)) (ay (ay (ay bF))))))))))))))))) O O) ?_
    rintro _ w40 H40
    have ack := V.kp (H40.f17.f17.f17.f17.f17.f17.f17.f17.f17.f17.f17.f17.f17.f17.f17.f17.f17)
    refine gW ack (by kernel_rfl) ?_
    refine qR ?_
    refine dh (_, _, _, _, _, _) qB lI (by (try dsimp only); exact H40.f14.f17.f17.f8.f17.f12.f10.f12.f11.f15.f17.f13.f14.f16.f16.f17.f17)
  ·skip
   refine jL 64 O (by kernel_rfl) (fH (l := [_, _, _, _, _, _, _, _, _, _, _, _, _, _, _, _, _]) Wn iY O) (lX O) ?_
   rintro _ w41 ⟨b41, rfl, Yb⟩
   have VU := V.kp (Yb.f8.right.f8.right.f11.f11.f11.f11.f11.f11.f11.f11.f11.f11.f11)
   refine dU VU (fun W hW => (Kp.h hW).right.f10.f10.f10.f10.f10.f10.f10.f10.f10.f10) ?_
   refine og 1 O (yF O func28 (EF Yb.f4.f4)) ?_
   rintro _ w42 ⟨u42, rfl, H42⟩
   have JB := V.kp (H42.f9.right.f9.right.f12.f12.f12.f12.f12.f12.f12.f12.f12.f12.f12.f12)
   refine dU JB (fun W hW => (Kp.h hW).right.f11.f11.f11.f11.f11.f11.f11.f9.f9.f11.f11) ?_
   refine og 40 O (yF O func33 (yV H42.f6.f3)) ?_
   rintro u43 w43 ⟨afa, H43⟩
   have VW := V.kp (H43.f11.right.f11.right.f14.f14.f14.f14.f14.f14.f14.f14.f14.f14.f14.f14.f14.f14)
   refine dU VW (fun W hW => (Kp.h hW).right.right.f12.f12.f12.f12.f12.f12.f8.f12.f12.f12.f11.f12) ?_
   refine og 50 O (yF O func66 (uX H43.f12.f11.f11.f6)) ?_
   rintro u44 w44 Zh
   have acm := V.kp (Zh.f13.right.f16.f16.f16.f16.f16.f16.f16.f16.f16.f16.f16.f16.f16.f16.f16.f16)
   refine dU acm (fun W hW => (Kp.h hW).right.f4.right.f14.f14.f14.f14.f7.f7.f14.f14.f14.f14.f14.f12.f14.f14) ?_
   refine og 52 O (yF O func67 (qj Zh.f15.f14.f5.f5 hU)) ?_
   rintro _ w45 ⟨rfl, OB⟩
   have acn := V.kp (OB.f17.f17.f17.f17.f17.f17.f17.f17.f17.f17.f17.f17.f17.f17.f17.f17.f17)
   refine dU acn (fun W hW => (Kp.h hW).f3.right.f16.f16.f5.f16.f16.f16.f16.f16.f16.f16.f16.f16.f16.f15.f15.f16) ?_
   refine og 62 O (yF O func68 (mY OB.f15)) ?_
   rintro _ _ ⟨rfl, rfl⟩
   have Zq := V.kp (OB.f17.f17.f17.f17.f17.f17.f17.f17.f17.f17.f17.f17.f17.f17.f17.f17.f17)
   refine dU Zq (fun W hW => (Kp.h hW).f17.f17.f17.f17.f17.f17.f17.f17.f17.f17.f17.f17.f17.f17.f17.f17.f17) ?_
   refine jB 63 O Zq (fun _ => dP (zl := [.slice none 0 0, .int .i64 0, .int .i64 0, .int .i64 0, .bool false, .bool false, .bool false, .int .i64 0, .int .i64 0, .int .i64 0, .int .i64 0, .slice none 0 0, .int .i64 0, .slice none 0 0, .int .i64 0, .int .i64 0, .int .i64 0]) (pl := [(0, 3), (3, 1), (4, 1), (5, 1), (6, 1), (7, 1), (8, 1), (9, 1), (10, 1), (11, 1), (12, 1), (13, 1), (14, 1), (15, 1), (16, 1)]) [_, _, _, _, _, _, _, _, _, _, _, _, _, _, _, _, _] iq iY O (fun w => by kernel_rfl) O (.agg (us := [_, _, _]) (zs := [.slice none 0 0, .int .i64 0, .int .i64 0]) O O (.on (.on (.on (.on (.on (.on (.on (.on (.one (Rd.one ((OB.f8).aS)) (.on (.one (Rd.one ((OB.f5).aS)) (.on (.on (.on .nil))))))))))))))) O) ?_
   refine fM 65 O (by kernel_rfl) (bU 0 (l' := [_, _, _, _, _, _, _, _, _, _, _, _, _, _, _, _, _]) (us := [_, _, _, _, _, _, _, _, _, _, _, _, _, _, _, _, _]) OB.f13 sizeOf50 O O O (aW (by first | rfl | exact Rd.one ((OB.f11).aS)) (ay (ay (ay (ay (ay (ay (ay (ay (ay (ay (aW (by first | rfl | exact Rd.one ((OB.f8).aS)) (ay (aW (by first | rfl | exact Rd.one ((OB.f5).aS)) (ay (ay (ay bF))))))))))))))))) O O) ?_
   rintro _ w47 H47
   have aco := V.kp (H47.f17.f17.f17.f17.f17.f17.f17.f17.f17.f17.f17.f17.f17.f17.f17.f17.f17)
   refine gW aco (by kernel_rfl) ?_
   refine qR ?_
   refine dh (_, _, _, _, _, _) qB lI (by (try dsimp only); exact H47.f14.f17.f17.f8.f17.f12.f10.f12.f11.f15.f17.f13.f14.f16.f16.f17.f17)
end
end Go.Proofs.YtpdeedplgmbopaaGreatDoor
end
section
namespace Go.Proofs.YtpdeedplgmbopaaGreatDoor
open Go.RowKit
theorem EG {P : Program} {L : List (Nat × Value)} {w : World} {ty t : TypeId} {fs : Array Field} {f : Field} {i : Nat} {x : Operand} {cs : Array Value} {u : Value} (off : Nat) (ht : P.underlying t = some (.struct fs)) (hf : fs[i]? = some f) (ho : f.offset = off) (hp : oW P f.type = true) (hx : ev L x = some (.agg cs)) (hc : cs[off]? = some u) :
    Val P L (.field t x i) ty w u w := fun ρ hρ _ _ _ _ => by
  simp [execOp, hρ _ _ hx, Instr.field, run_underlying ht, hf, part, asAgg, Ci hp, ho, hc]
end Go.Proofs.YtpdeedplgmbopaaGreatDoor
end
