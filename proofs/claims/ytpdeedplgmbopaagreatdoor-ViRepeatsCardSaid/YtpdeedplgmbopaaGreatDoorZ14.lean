import Derived.Test.YtpdeedplgmbopaaGreatDoorZ4
import Derived.Test.YtpdeedplgmbopaaGreatDoorZ13
import Derived.Test.YtpdeedplgmbopaaGreatDoorZ5
import Derived.Lib.RuneBytes
import Derived.Test.YtpdeedplgmbopaaGreatDoorZ3
import Derived.Laws.BitsLemmas
import GoSem.PinnedTables
set_option linter.unusedSimpArgs false
set_option linter.unusedVariables false
/- Texts of mine, joined, their names in short: EdS2 EdS3 UtfM Bits Utf RefTab Utf2 Utf3 Utf4. -/
section
namespace Go.Proofs.YtpdeedplgmbopaaGreatDoor
open Go.RowKit
open _root_.Go.Proofs.Tryz
theorem Ul {D : List Int} {P : Int → Nat} {k : Int} (h : (MR D P k).isSome = true) : k ∈ D := by
  unfold MR at h
  split at h
  · assumption
  · cases h
theorem Rt {D : List Int} {P : Int → Nat} {k : Int} (h : (MR D P k).isSome = false) : k ∉ D := by
  unfold MR at h
  split at h
  · cases h
  · assumption
def Yd (x : Int × ByteArray) : List Value := [.int .i64 x.1, .string x.2]
theorem Um {hl : List tu} {tx : Int → Option ByteArray} {place : Int} {i : Nat} (h : Fb hl tx place i = true) : um hl tx place (i + 1) = um hl tx place i ++ [((i : Int), kJ hl tx i)] := by
  unfold um; rw [List.range_succ, List.filter_append, List.map_append]; simp [List.filter, h]
theorem Nc {hl : List tu} {tx : Int → Option ByteArray} {place : Int} {i : Nat} (h : Fb hl tx place i = false) : um hl tx place (i + 1) = um hl tx place i := by
  unfold um; rw [List.range_succ, List.filter_append, List.map_append]; simp [List.filter, h]
theorem yN (hl : List tu) (tx : Int → Option ByteArray) (place : Int) (i : Nat) : (um hl tx place i).length ≤ i := by
  unfold um; rw [List.length_map]
  exact Nat.le_trans (List.length_filter_le _ _) (by simp)
def Bq (E : List (List Int)) (a : Nat) : List (List Int) := E.drop a ++ E.take a
def abf (n a i : Nat) : Nat := if i = 0 then a else (a + (i - 1)) % n
theorem Zg {n a i : Nat} : Jb n (abf n a i) (min (i : Int) 1) = abf n a (i + 1) := by
  cases i with
  | zero =>
    show (((a : Int) + min ((0 : Nat) : Int) 1) % (n : Int)).toNat = (a + (0 + 1 - 1)) % n
    rw [show min ((0 : Nat) : Int) 1 = 0 by omega, Int.add_zero, show ((a : Int) % (n : Int)) = ((a % n : Nat) : Int) from rfl, Int.toNat_natCast]
    rfl
  | succ j =>
    show (((((a + (j + 1 - 1)) % n : Nat) : Int) + min ((j + 1 : Nat) : Int) 1) % (n : Int)).toNat = (a + (j + 1 + 1 - 1)) % n
    rw [show min ((j + 1 : Nat) : Int) 1 = ((1 : Nat) : Int) by omega, show ((((a + (j + 1 - 1)) % n : Nat) : Int) + ((1 : Nat) : Int)) % (n : Int) = ((((a + (j + 1 - 1)) % n + 1) % n : Nat) : Int) from rfl, Int.toNat_natCast, Nat.mod_add_mod]
    congr 1
theorem Zh {E : List (List Int)} {a i : Nat} (h : i < E.length) (ha : a < E.length) : (Bq E a).getD i [] = E.getD (abf E.length a (i + 1)) [] := by
  unfold Bq abf
  rw [if_neg (by omega), Nat.add_sub_cancel, List.getD_eq_getElem?_getD, List.getD_eq_getElem?_getD]
  by_cases hi : i < E.length - a
  · rw [List.getElem?_append_left (by simpa using hi), List.getElem?_drop, Nat.mod_eq_of_lt (by omega)]
  · rw [List.getElem?_append_right (by simpa using hi), List.length_drop, List.getElem?_take, if_pos (by omega)]
    have : (a + i) % E.length = i - (E.length - a) := by
      rw [show a + i = (i - (E.length - a)) + E.length by omega, Nat.add_mod_right, Nat.mod_eq_of_lt (by omega)]
    rw [this]
theorem Nh {α : Type _} {l : List α} {k : Nat} {d : α} (h : k < l.length) : l.take (k + 1) = l.take k ++ [l.getD k d] := by rw [List.take_succ_eq_append_getElem h, List.getD_eq_getElem?_getD, List.getElem?_eq_getElem h]; rfl
theorem PZ (E : List (List Int)) (a : Nat) : (Bq E a).length = E.length := by unfold Bq; simp; omega
section
variable {w0 w : World} {F : HP} {e p ph pw pt pr pm pb : Nat} {s : bF} {k x place : Int} {hl : List tu} {base most cls : Int} {tx : Int → Option ByteArray} {v pv : Value} {U : Int → List (List jl)} {put : List jl} {xs : List Value} {inn run whole : Bool} {E : List (List Int)} {a : Nat} {L : List Int} {pnt mk : Int}
theorem EG {x0 x1 x2 x3 x4 x5 x6 x7 x8 x9 x10 x12 y7 x14 x15 x16 x17 x18 x19 x20 x21 zV x23 x24 x25 Ak x27 x28 x29 x30 x31 x32 Bh : Value} (H : V w0 w (eP e (.cells (x0 :: x1 :: x2 :: x3 :: x4 :: x5 :: x6 :: x7 :: x8 :: x9 :: x10 :: .pointer (some ⟨ph, 0, none⟩) :: x12 :: y7 :: x14 :: x15 :: x16 :: x17 :: x18 :: x19 :: x20 :: x21 :: zV :: x23 :: x24 :: x25 :: Ak :: x27 :: x28 :: x29 :: x30 :: x31 :: x32 :: Bh :: []).toArray 82 (0, 0)) • F)) : iQ prog 65 #[.pointer (some ⟨e, 0, none⟩)] w fun v w' => v = .bool false ∧ w = w' := by
  refine ji func65 ntmps65 ?_
  refine ku O (bM O (aQ (iJ dU O O) (jm O (fun h1 => ?_) (fun h1 => ?_))))
  · (try simp only [Z] at h1)
    exfalso; first | contradiction | omega
  · (try simp only [Z] at h1)
    refine aY (bJ O (aY (dK O (aY (bI 11 aj O sizeOf78 O (aY (fC lM O (H).get.2 O (aY (aQ (iJ lM O O) (fG O O (fA O (dI results65 O ?_))))))))))))
    exact ⟨O, O⟩
theorem uU {x0 x1 x4 x5 x6 x7 x8 x9 x11 x12 y7 x14 x15 x17 x18 x19 x20 x21 zV x23 x24 x25 Ak x27 x29 x30 x31 : Value} (H : V w0 w (eP e (.cells (x0 :: x1 :: .pointer (some ⟨pw, 0, none⟩) :: .map (some pm) :: x4 :: x5 :: x6 :: x7 :: x8 :: x9 :: .bool run :: x11 :: x12 :: y7 :: x14 :: x15 :: .bool inn :: x17 :: x18 :: x19 :: x20 :: x21 :: zV :: x23 :: x24 :: x25 :: Ak :: x27 :: .int .i64 cls :: x29 :: x30 :: x31 :: .bool whole :: pv :: []).toArray 82 (0, 0)) • eP pw (.cells #[.int .i64 k, .map (some pt)] 122 (0, 0)) • zy pm U • Row 189 3 pv put.length xs • F)) (hU : (U k).length ≤ 16384) :
    iQ prog 67 #[.pointer (some ⟨e, 0, none⟩)] w fun v' w' => v' = .int .i64 (uQ (U k) inn put (cls == 3 && whole) run) ∧
      V w0 w' (eP e (.cells (x0 :: x1 :: .pointer (some ⟨pw, 0, none⟩) :: .map (some pm) :: x4 :: x5 :: x6 :: x7 :: x8 :: x9 :: .bool run :: x11 :: x12 :: y7 :: x14 :: x15 :: .bool inn :: x17 :: x18 :: x19 :: x20 :: x21 :: zV :: x23 :: x24 :: x25 :: Ak :: x27 :: .int .i64 cls :: x29 :: x30 :: x31 :: .bool whole :: pv :: []).toArray 82 (0, 0)) • eP pw (.cells #[.int .i64 k, .map (some pt)] 122 (0, 0)) • zy pm U • Row 189 3 pv put.length xs • F) := by
  refine ji func67 ntmps67 ?_
  refine ku O (ku O ?_)
  refine kL [(0, _)] (fun (_ : Unit) => [(3, .int .i64 ((U k).length : Int))]) (fun (_ : Unit) W => V w0 W (eP e (.cells (x0 :: x1 :: .pointer (some ⟨pw, 0, none⟩) :: .map (some pm) :: x4 :: x5 :: x6 :: x7 :: x8 :: x9 :: .bool run :: x11 :: x12 :: y7 :: x14 :: x15 :: .bool inn :: x17 :: x18 :: x19 :: x20 :: x21 :: zV :: x23 :: x24 :: x25 :: Ak :: x27 :: .int .i64 cls :: x29 :: x30 :: x31 :: .bool whole :: pv :: []).toArray 82 (0, 0)) • eP pw (.cells #[.int .i64 k, .map (some pt)] 122 (0, 0)) • zy pm U • Row 189 3 pv put.length xs • F)) mO ?_ ?_
  · rintro _ w1 HJ
    dsimp only [List.cons_append, List.nil_append]
    refine aI (bM O (dK O (bI 16 aj O aS O (fC cZ O (HJ).get.2 O (jm O (fun h1 => ?_) (fun h1 => ?_))))))
    · (try simp only [Z] at h1)
      have hin := h1
      refine aY (bJ O (aY (dK O (aY (bI 33 aj O bU O (aY (fC aW O (HJ).get.2 O (aY (aQ (kX ((HJ.f4).aP) aW O) (aY (aQ (eX O O) (je O O (jm O (fun h2 => ?_) (fun h2 => ?_))))))))))))))
      · (try simp only [Z] at h2)
        have hno : put.isEmpty = false := by rw [sF]; exact decide_eq_false (by omega)
        refine aY (bJ O (aY (dK O (aY (bI 28 aj O ay O (aY (fC aC O (HJ).get.2 O (aY (aQ (eF O O) (aY (jm O (fun h3 => ?_) (fun h3 => ?_))))))))))))
        · (try simp only [Z] at h3)
          have hcl := h3
          refine aY (bJ O (aY (dK O (aY (bI 32 aj O aS O (aY (fC cZ O (HJ).get.2 O (aY (je O O (aY (jm O (fun h4 => ?_) (fun h4 => ?_))))))))))))
          · (try simp only [Z] at h4)
            have hwh := h4
            refine aY (bJ O (aY (dK O (aY (bI 0 aj O aV O (aY (bI 10 aK O aS O (aY (fC cZ O (HJ).get.2 O (aY (je O O (aY (aQ (kG O) (je O O (jr O (fun h5 => ?_) (fun h5 => ?_))))))))))))))))
            · (try simp only [Z] at h5)
              have hrn := h5
              refine aB (bJ O (aQ (fQ O O (by omega)) (dZ O (bM O (fA O (dI results67 O ?_))))))
              refine ⟨?_, HJ.f4.f4.f4.f4⟩
              congr 1
              unfold uQ
              first
                | exact absurd hrn (by decide)
                | (simp [hin]; done)
                | (simp [hin, hno]; done)
                | (simp [hin, hno, hcl]; done)
                | (simp [hin, hno, hcl, hwh]; done)
                | (simp [hin, hno, hcl, hwh, hrn]; done)
            · (try simp only [Z] at h5)
              have hrn := h5
              refine fV (bM O (fA O (dI results67 O ?_)))
              refine ⟨?_, HJ.f4.f4.f4.f4⟩
              congr 1
              unfold uQ
              first
                | exact absurd hrn (by decide)
                | (simp [hin]; done)
                | (simp [hin, hno]; done)
                | (simp [hin, hno, hcl]; done)
                | (simp [hin, hno, hcl, hwh]; done)
                | (simp [hin, hno, hcl, hwh, hrn]; done)
          · (try simp only [Z] at h4)
            have hwh := h4
            refine bn (bn (bn (bn (bn (aY (fG O O (aY (aQ (kG O) (je O O (jr O (fun h6 => ?_) (fun h6 => ?_)))))))))))
            · (try simp only [Z] at h6)
              have hrn := h6
              refine aB (bJ O (aQ (fQ O O (by omega)) (dZ O (bM O (fA O (dI results67 O ?_))))))
              refine ⟨?_, HJ.f4.f4.f4.f4⟩
              congr 1
              unfold uQ
              first
                | exact absurd hrn (by decide)
                | (simp [hin]; done)
                | (simp [hin, hno]; done)
                | (simp [hin, hno, hcl]; done)
                | (simp [hin, hno, hcl, hwh]; done)
                | (simp [hin, hno, hcl, hwh, hrn]; done)
            · (try simp only [Z] at h6)
              have hrn := h6
              refine fV (bM O (fA O (dI results67 O ?_)))
              refine ⟨?_, HJ.f4.f4.f4.f4⟩
              congr 1
              unfold uQ
              first
                | exact absurd hrn (by decide)
                | (simp [hin]; done)
                | (simp [hin, hno]; done)
                | (simp [hin, hno, hcl]; done)
                | (simp [hin, hno, hcl, hwh]; done)
                | (simp [hin, hno, hcl, hwh, hrn]; done)
        · (try simp only [Z] at h3)
          have hcl := h3
          refine bn (bn (bn (bn (aY (fG O O (aY (bJ O (bn (bn (bn (bn (bn (aY (fG O O (aY (aQ (kG O) (je O O (jr O (fun h7 => ?_) (fun h7 => ?_)))))))))))))))))))
          · (try simp only [Z] at h7)
            have hrn := h7
            refine aB (bJ O (aQ (fQ O O (by omega)) (dZ O (bM O (fA O (dI results67 O ?_))))))
            refine ⟨?_, HJ.f4.f4.f4.f4⟩
            congr 1
            unfold uQ
            first
              | exact absurd hrn (by decide)
              | (simp [hin]; done)
              | (simp [hin, hno]; done)
              | (simp [hin, hno, hcl]; done)
              | (simp [hin, hno, hcl, hwh]; done)
              | (simp [hin, hno, hcl, hwh, hrn]; done)
          · (try simp only [Z] at h7)
            have hrn := h7
            refine fV (bM O (fA O (dI results67 O ?_)))
            refine ⟨?_, HJ.f4.f4.f4.f4⟩
            congr 1
            unfold uQ
            first
              | exact absurd hrn (by decide)
              | (simp [hin]; done)
              | (simp [hin, hno]; done)
              | (simp [hin, hno, hcl]; done)
              | (simp [hin, hno, hcl, hwh]; done)
              | (simp [hin, hno, hcl, hwh, hrn]; done)
      · (try simp only [Z] at h2)
        have hno : put.isEmpty = true := by rw [sF]; exact decide_eq_true (by omega)
        refine bn (bn (bn (bn (bn (bn (lH (lH (lH (lH (bn (bn (lH (lH (lH (lH (lH (bn (bn (fG O O (iE (oh (fV (bM O (fA O (dI results67 O ?_)))))))))))))))))))))))))
        refine ⟨?_, HJ.f4.f4.f4.f4⟩
        congr 1
        unfold uQ
        first
          | exact absurd hrn (by decide)
          | (simp [hin]; done)
          | (simp [hin, hno]; done)
          | (simp [hin, hno, hcl]; done)
          | (simp [hin, hno, hcl, hwh]; done)
          | (simp [hin, hno, hcl, hwh, hrn]; done)
    · (try simp only [Z] at h1)
      have hin := h1
      refine bn (bn (bn (bn (bn (bn (fG O O (bJ O (bn (bn (bn (bn (bn (bn (lH (lH (lH (lH (bn (bn (lH (lH (lH (lH (lH (bn (bn (fG O O (iE (oh (fV (bM O (fA O ?_))))))))))))))))))))))))))))))))
      refine dI results67 O ?_
      refine ⟨?_, HJ.f4.f4.f4.f4⟩
      congr 1
      unfold uQ
      first
        | exact absurd hrn (by decide)
        | (simp [hin]; done)
        | (simp [hin, hno]; done)
        | (simp [hin, hno, hcl]; done)
        | (simp [hin, hno, hcl, hwh]; done)
        | (simp [hin, hno, hcl, hwh, hrn]; done)
  · skip
    refine aI ?_
    obtain ⟨D, P, hD1, hD2, HU⟩ := (H.f3).ac0
    have WH := HU.drew
    have oU := V.kp (WH.f5.f5.f5.f5.f5)
    refine uN [4, 9, 12, 13] oU O (gX 0 O oU O (jE 1 O oU O (gy 2 O oU 0 aj O aV O (gy 3 O oU 3 aK O sizeOf75 O (jf 4 O oU (fun W hW => jv ny O ((Kp.h hW).f3).get.2 O) (gX 5 O oU O (jE 6 O oU O (gy 7 O oU 0 aj O aV O (gy 8 O oU 2 aK O sizeOf74 O (jf 9 O oU (fun W hW => jv ni O ((Kp.h hW).f3).get.2 O) (jE 10 O oU O (gy 11 O oU 0 iG O ay O (jf 12 O oU (fun W hW => jv aC O ((Kp.h hW).f4).get.2 O) (jf 13 O oU (fun W hW => Om (TN ((Kp.h hW)) ny aC zeroValue184 O O) (X0 D P k)) (iI 14 O oU (fun _ => dB O) (pq (aX (bM O (aQ (Af underlying184 O O) (jr O (fun h8 => ?_) (fun h8 => ?_)))))))))))))))))))))
    · (try simp only [Z] at h8)
      have hmem := Ul h8
      rw [Ub hmem]
      have HF := WH.f2
      rw [vW hmem] at HF
      have HF2 := HF.flat
      refine aB (bJ O (dS O func120 (QS HF2) ?_))
      rintro _ w2 ⟨rfl, H2⟩
      have V6 := H2.f2.f2
      have XQ := V.of_eq V6 (by rw [← dH, ← vW hmem])
      have Ho5 := XQ.f2
      have Hc6 := V.Fg hD1 hD2 Ho5
      refine gU O (bZ ?_)
      refine dD (()) ?_ ?_ ?_
      · exact (Sub.jW O (by first | (rw [hD2 _ hnm]; rfl) | (simp; done)) (Sub.nil _))
      · exact mO
      · (try dsimp only)
        first | done | exact Hc6.f4.f2.f4.f4
    · (try simp only [Z] at h8)
      have hnm := Rt h8
      have Ho7 := WH.f2.f2
      have Hc8 := V.Fg hD1 hD2 Ho7
      refine dh ?_
      refine dD (()) ?_ ?_ ?_
      · exact (Sub.jW O (by first | (rw [hD2 _ hnm]; rfl) | (simp; done)) (Sub.nil _))
      · exact mO
      · (try dsimp only)
        first | done | exact Hc8.f4.f2.f4.f4
theorem Du {x0 x2 x3 x4 x5 x6 x7 x8 x9 x10 x12 y7 x14 x15 x16 x17 x18 x19 x20 x21 zV x23 x24 x25 Ak x27 x28 x29 x30 x31 x32 Bh : Value} (H : V w0 w (eP e (.cells (x0 :: .pointer (some ⟨pr, 0, none⟩) :: x2 :: x3 :: x4 :: x5 :: x6 :: x7 :: x8 :: x9 :: x10 :: .pointer (some ⟨ph, 0, none⟩) :: x12 :: y7 :: x14 :: x15 :: x16 :: x17 :: x18 :: x19 :: x20 :: x21 :: zV :: x23 :: x24 :: x25 :: Ak :: x27 :: x28 :: x29 :: x30 :: x31 :: x32 :: Bh :: []).toArray 82 (0, 0)) • gq pr E a • F)) : iQ prog 33 #[.pointer (some ⟨e, 0, none⟩)] w fun v' w' =>
  ∃ us, V w0 w' (Row 22 1 v' E.length us • KG 21 .i32 us (Bq E a) • eP e (.cells (x0 :: .pointer (some ⟨pr, 0, none⟩) :: x2 :: x3 :: x4 :: x5 :: x6 :: x7 :: x8 :: x9 :: x10 :: .pointer (some ⟨ph, 0, none⟩) :: x12 :: y7 :: x14 :: x15 :: x16 :: x17 :: x18 :: x19 :: x20 :: x21 :: zV :: x23 :: x24 :: x25 :: Ak :: x27 :: x28 :: x29 :: x30 :: x31 :: x32 :: Bh :: []).toArray 82 (0, 0)) • gq pr E a • F) := by
 obtain ⟨hE1, hE2, hE3⟩ := VP H.swap
 refine ji func33 ntmps33 ?_
 refine ku O (aI (bM O (dS O func65 (EG H) ?_)))
 rintro _ _ ⟨rfl, rfl⟩
 refine iE (oh (fV (ku O (bM O (dK O (bI 0 aj O aV O (bI 1 aK O sizeOf73 O (fC uP O (H).get.2 O (dS O func85 (Ej H.f2) ?_)))))))))
 rintro _ w2 ⟨pc2, rfl, H2⟩
 refine uf O (bM O (dS O func86 (QL H2) ?_))
 rintro _ _ ⟨rfl, rfl⟩
 refine bJ O (iE (bf ?_))
 obtain ⟨R4, hR4, HR4⟩ := V.af7 (H2)
 refine iC [(4, _), (17, _)] (fun (⟨i, u⟩ : Nat × Value) => [(3, u), (18, .int .i64 (i : Int))]) (fun (⟨i, u⟩ : Nat × Value) W => i ≤ E.length ∧ ∃ us, V w0 W (Row 22 1 u i us • KG 21 .i32 us ((Bq E a).take i) • gq pc2 E (abf E.length a i) • R4)) (fun (⟨i, u⟩ : Nat × Value) => E.length - i) ((0, .slice none 0 0)) uh uh ⟨by omega, [], HR4.abd.jO none⟩ ?_
 rintro ⟨i, u⟩ w5 ⟨hi, us, HL⟩
 dsimp only [List.cons_append, List.nil_append]
 refine iy (aQ (gW O O) (rP (aZ O (fun h1 => ?_) (fun h1 => ?_))))
 ·(try simp only [Z] at h1)
  refine fV (aI (bf (bM O (dZ O (bM O (bJ O (aQ (wO O O) (dS O func87 (KD HL.f3) ?_))))))))
  rintro _ w6 ⟨u6, rfl, H6⟩
  have hne : ¬ E.length = 0 := by omega
  have HX := H6
  simp only [if_neg hne] at HX
  refine bJ O (pW O O (pW O O (gU O (dZ O (aB (jX O O (kF (lW (vs := [_]) HX jy bV zeroValue22 O O O (by decide) (bg (by first | rfl | exact Rd.one ((HX).aP)) bW)) ?_)))))))
  rintro l7 w7 H7
  refine kF (iY H7.f4 jy aek O O O ((H7).aP) (bg (by first | rfl | exact Rd.one ((H7.f2).aP)) bW) (by omega) (by omega)) ?_
  rintro l8 w8 H8
  have Hd9 := H8.f2.right
  refine gU O (bZ (aH (aX (aB (aQ (fQ O O (by omega)) (bJ O (bZ ?_)))))))
  have HS := (Hd9.f3.f2.f3.f4).Fq.f2
  refine dX ((i + 1, l8)) ?_ ?_ ?_ ?_
  ·exact uh
  ·exact uh
  ·(try dsimp only)
   first | done | exact ⟨by omega, _, by rw [Nh (d := []) (by rw [PZ]; omega), Zh (by omega) (by omega), ← Zg]; exact HS⟩
  ·(try dsimp only); omega
 ·(try simp only [Z] at h1)
  refine dR (aO ?_)
  obtain rfl : i = E.length := by omega
  have HK := HL
  rw [List.take_of_length_le (by rw [PZ]; exact Nat.le_refl _)] at HK
  subst hR4
  refine aO (bG (aX (bM O (fA O (dI results33 O ?_)))))
  exact ⟨_, HK.f3.right.f3.f4.f4.f4⟩
end
def WI (s : bF) (u ks sv : Value) : List Value := [u, .int .i64 s.c.pt, .int .i64 s.c.mark, .int .i64 s.c.mode, .bool s.c.over, .bool s.given, .bool s.minus, .int .i64 s.arg, .int .i64 s.DL, .int .i64 s.Z8, .int .i64 s.Z9, ks, .int .i64 s.c.place, sv, .int .i64 s.aaQ, .int .i64 s.c.res, .int .i64 s.qQ]
section
variable {w0 w : World} {F : HP} {e p ph pw pt pr pm pb : Nat} {s : bF} {k x place : Int} {hl : List tu} {base most cls : Int} {tx : Int → Option ByteArray} {v pv : Value} {U : Int → List (List jl)} {L : List Int} {pnt mk : Int}
theorem J3 {x1 x2 x3 x4 x5 x6 x7 x8 x9 x10 x12 y7 x14 x15 x16 x17 x18 x19 x20 x21 zV x23 x24 x25 Ak x27 x28 x29 x30 x31 x32 Bh : Value} (H : V w0 w (eP e (.cells (.pointer (some ⟨pb, 0, none⟩) :: x1 :: x2 :: x3 :: x4 :: x5 :: x6 :: x7 :: x8 :: x9 :: x10 :: .pointer (some ⟨ph, 0, none⟩) :: x12 :: y7 :: x14 :: x15 :: x16 :: x17 :: x18 :: x19 :: x20 :: x21 :: zV :: x23 :: x24 :: x25 :: Ak :: x27 :: x28 :: x29 :: x30 :: x31 :: x32 :: Bh :: []).toArray 82 (0, 0)) • jB pb L pnt mk • F)) : iQ prog 28 #[.pointer (some ⟨e, 0, none⟩)] w fun v' w' =>
  ∃ u, v' = .agg (xX u pnt mk) ∧ V w0 w' (jw 21 .i32 u L • eP e (.cells (.pointer (some ⟨pb, 0, none⟩) :: x1 :: x2 :: x3 :: x4 :: x5 :: x6 :: x7 :: x8 :: x9 :: x10 :: .pointer (some ⟨ph, 0, none⟩) :: x12 :: y7 :: x14 :: x15 :: x16 :: x17 :: x18 :: x19 :: x20 :: x21 :: zV :: x23 :: x24 :: x25 :: Ak :: x27 :: x28 :: x29 :: x30 :: x31 :: x32 :: Bh :: []).toArray 82 (0, 0)) • jB pb L pnt mk • F) := by
 refine ji func28 ntmps28 ?_
 refine iy (kF (iR (l := [_, _, _]) H zeroValue46 O) ?_)
 rintro _ w1 ⟨b1, rfl, H1⟩
 refine rP (bM O (dS O func65 (EG H1.f2) ?_))
 rintro _ _ ⟨rfl, rfl⟩
 refine iE (oh (fV (bM O (dK O (bI 0 aj O aV O (bI 0 aK O sD O (fC mZ O (H1.f2).get.2 O (dS O func79 (Ht H1.f3) ?_))))))))
 rintro _ w3 ⟨u3, rfl, H3⟩
 refine aJ (dG 0 (l' := [_, _, _]) (us := [_, _, _]) H3.f3 sizeOf46 O O O (bg (by first | rfl | exact Rd.one ((H3).aP)) (aG (aG bW))) O O) ?_
 rintro _ w4 H4
 refine zkc ?_
 refine sS (.inl O) (QA results28 O iD O (by rw [aat]; rfl) (H4).get.2) ?_
 exact ⟨_, O, H4.right.f2.f3.f3⟩
theorem zK {x0 x1 x3 x4 x5 x6 x7 x8 x9 x10 x12 y7 x14 x15 x16 x17 x18 x19 x20 x21 zV x23 x24 x25 Ak x27 x28 x29 x30 x31 x32 Bh : Value} (H : V w0 w (eP e (.cells (x0 :: x1 :: .pointer (some ⟨pw, 0, none⟩) :: x3 :: x4 :: x5 :: x6 :: x7 :: x8 :: x9 :: x10 :: .pointer (some ⟨ph, 0, none⟩) :: x12 :: y7 :: x14 :: x15 :: x16 :: x17 :: x18 :: x19 :: x20 :: x21 :: zV :: x23 :: x24 :: x25 :: Ak :: x27 :: x28 :: x29 :: x30 :: x31 :: x32 :: Bh :: []).toArray 82 (0, 0)) • eP pw (.cells #[.int .i64 place, .map (some pt)] 122 (0, 0)) • iV uT pt (xw tx) • jC ph hl base most • F)) :
    iQ prog 66 #[.pointer (some ⟨e, 0, none⟩)] w fun v' w' => V w0 w' (Row 133 2 v' (Dn hl tx place).length ((Dn hl tx place).flatMap Yd) •
      eP e (.cells (x0 :: x1 :: .pointer (some ⟨pw, 0, none⟩) :: x3 :: x4 :: x5 :: x6 :: x7 :: x8 :: x9 :: x10 :: .pointer (some ⟨ph, 0, none⟩) :: x12 :: y7 :: x14 :: x15 :: x16 :: x17 :: x18 :: x19 :: x20 :: x21 :: zV :: x23 :: x24 :: x25 :: Ak :: x27 :: x28 :: x29 :: x30 :: x31 :: x32 :: Bh :: []).toArray 82 (0, 0)) • eP pw (.cells #[.int .i64 place, .map (some pt)] 122 (0, 0)) • iV uT pt (xw tx) • jC ph hl base most • F) := by
  have hb : hl.length ≤ 4096 := by obtain ⟨v, h, _⟩ := H.r4.hist; exact h.1
  refine ji func66 ntmps66 ?_
  refine ku O (ku O (bM O (dK O (bI 11 aj O sizeOf78 O (fC lM O (H).get.2 O (dS O func117 (rE H.f4) ?_))))))
  rintro _ w1 ⟨rfl, H1⟩
  refine uf O (bM O (bJ O (iE (bf ?_))))
  refine iC [(0, _), (4, _), (11, _)] (fun (⟨i, u⟩ : Nat × Value) => [(3, u), (12, .int .i64 (i : Int))]) (fun (⟨i, u⟩ : Nat × Value) W => i ≤ hl.length ∧ V w0 W (Row 133 2 u (um hl tx place i).length ((um hl tx place i).flatMap Yd) • eP e (.cells (x0 :: x1 :: .pointer (some ⟨pw, 0, none⟩) :: x3 :: x4 :: x5 :: x6 :: x7 :: x8 :: x9 :: x10 :: .pointer (some ⟨ph, 0, none⟩) :: x12 :: y7 :: x14 :: x15 :: x16 :: x17 :: x18 :: x19 :: x20 :: x21 :: zV :: x23 :: x24 :: x25 :: Ak :: x27 :: x28 :: x29 :: x30 :: x31 :: x32 :: Bh :: []).toArray 82 (0, 0)) • eP pw (.cells #[.int .i64 place, .map (some pt)] 122 (0, 0)) • iV uT pt (xw tx) • jC ph hl base most • F)) (fun (⟨i, u⟩ : Nat × Value) => hl.length - i) ((0, .slice none 0 0)) vC uh ⟨by omega, H1.f4.f4.f4.jO none⟩ ?_
  rintro ⟨i, u⟩ w2 ⟨hi, HL⟩
  dsimp only [List.cons_append, List.nil_append]
  refine iy (aQ (gW O O) (rP (aZ O (fun h1 => ?_) (fun h1 => ?_))))
  · (try simp only [Z] at h1)
    refine fV (aI (bf (bM O (uf O ?_))))
    have hLen := yN hl tx place i
    refine aB (jX O O (dK O (bI 0 aj O aV O (bI 2 aK O sizeOf74 O (fC ni O (HL.f2).get.2 O (dK O (bI 0 iG O ay O (fC aC O (HL.f3).get.2 O (aQ (gY O O) (jm O (fun h2 => ?_) (fun h2 => ?_)))))))))))
    · (try simp only [Z] at h2)
      have hpl := h2
      refine aY (bJ O (aY (bJ O (aY (dS O func118 (BX HL.f5.f5.f5.f5) ?_)))))
      rintro _ w3 ⟨rfl, H3⟩
      refine aY (bJ O (aY (bJ O (aY (dS O func119 (Ir H3.f4.f2) ?_)))))
      rintro _ w4 ⟨rfl, H4⟩
      refine aY (aQ (kM O O) (je O O (jr O (fun h3 => ?_) (fun h3 => ?_))))
      · (try simp only [Z] at h3)
        have hsv := Um (hl := hl) (tx := tx) (place := place) (i := i) (by unfold Fb; rw [decide_eq_true hpl]; simpa using h3)
        refine aB (jX O O (jX O O (dS O func118 (BX H4.f2.f4.f4.f4) ?_)))
        rintro _ w5 ⟨rfl, H5⟩
        refine aQ (fU (zl := [.int .i64 0, .string .empty]) (pl := [(0, 1), (1, 1)]) [_, _] underlying133 zeroValue133 O (fun w => by kernel_rfl) O (.on (.on .nil)) O) ?_
        refine kF (vK H5 underlying48 sizeOf133 zeroValue133 O O O (by decide) (by decide)) ?_
        rintro l6 w6 H6
        refine kF (iY H6.f6 underlying48 abg O O O ((H6).aP) (aG (aG bW)) (by omega) (by omega)) ?_
        rintro l7 w7 H7
        have Hd8 := H7.f2.right
        refine gU O (bZ (aH (aX (aB (aQ (fQ O O (by omega)) (bJ O (bZ ?_)))))))
        have hLen := yN hl tx place i
        refine dX ((i + 1, l7)) ?_ ?_ ?_ ?_
        · exact uh
        · exact vC
        · (try dsimp only)
          first | done | exact ⟨by omega, by first | (rw [hsv, List.length_append, List.flatMap_append]; exact Hd8.f5.f5.f5.f5.f5) | (rw [hsv]; exact Hd8.f5.f5.f5.f5.f5)⟩
        · (try dsimp only); omega
      · (try simp only [Z] at h3)
        have hsv := Nc (hl := hl) (tx := tx) (place := place) (i := i) (by unfold Fb; rw [decide_eq_true hpl]; simpa using h3)
        refine dh (aH (aX (aB (aQ (fQ O O (by omega)) (bJ O (bZ ?_))))))
        have hLen := yN hl tx place i
        refine dX ((i + 1, u)) ?_ ?_ ?_ ?_
        · exact uh
        · exact vC
        · (try dsimp only)
          first | done | exact ⟨by omega, by first | (rw [hsv, List.length_append, List.flatMap_append]; exact H4.f2.f4.f4.f4.f5) | (rw [hsv]; exact H4.f2.f4.f4.f4.f5)⟩
        · (try dsimp only); omega
    · (try simp only [Z] at h2)
      have hsv := Nc (hl := hl) (tx := tx) (place := place) (i := i) (by unfold Fb; rw [decide_eq_false (by simpa using h2)]; rfl)
      refine bn (bn (bn (bn (bn (bn (bn (fG O O (iE (oh (dh (aH (aX (aB (aQ (fQ O O (by omega)) (bJ O (bZ ?_))))))))))))))))
      have hLen := yN hl tx place i
      refine dX ((i + 1, u)) ?_ ?_ ?_ ?_
      · exact uh
      · exact vC
      · (try dsimp only)
        first | done | exact ⟨by omega, by first | (rw [hsv, List.length_append, List.flatMap_append]; exact HL.f5.f5.f5.f5.f5) | (rw [hsv]; exact HL.f5.f5.f5.f5.f5)⟩
      · (try dsimp only); omega
  · (try simp only [Z] at h1)
    refine dR (aO ?_)
    obtain rfl : i = hl.length := by omega
    refine aO (bG (aX (aI (aI ?_))))
    have hLen := yN hl tx place hl.length
    refine aB (oq O O (bI 0 aj O aV O (bI 2 aK O sizeOf74 O (fC ni O (HL.f2).get.2 O (dK O (bI 0 iG O ay O (fC aC O (HL.f3).get.2 O (bJ O (aQ (gY O O) (jr O (fun h4 => ?_) (fun h4 => ?_)))))))))))
    · (try simp only [Z] at h4)
      have hsv : Dn hl tx place = um hl tx place hl.length ++ [((hl.length : Int), kJ hl tx hl.length)] := by unfold Dn; rw [if_pos h4]
      refine aB (jX O O (jX O O (dS O func118 (BX HL.f5.f5.f5.f5) ?_)))
      rintro _ w9 ⟨rfl, H9⟩
      refine aQ (fU (zl := [.int .i64 0, .string .empty]) (pl := [(0, 1), (1, 1)]) [_, _] underlying133 zeroValue133 O (fun w => by kernel_rfl) O (.on (.on .nil)) O) ?_
      refine kF (vK H9 underlying48 sizeOf133 zeroValue133 O O O (by decide) (by decide)) ?_
      rintro l10 w10 pz
      refine kF (iY pz.f6 underlying48 abg O O O ((pz).aP) (aG (aG bW)) (by omega) (by omega)) ?_
      rintro l11 FM rY
      have OD := rY.f2.right
      refine dZ O (bM O (fA O (dI results66 O ?_)))
      first
        | (rw [hsv, List.length_append, List.flatMap_append]; exact OD.f5.f5.f5.f5.f5)
        | (rw [hsv]; exact OD.f5.f5.f5.f5.f5)
    · (try simp only [Z] at h4)
      have hsv : Dn hl tx place = um hl tx place hl.length := by unfold Dn; rw [if_neg (by simpa using h4), List.append_nil]
      refine fV (bM O (fA O (dI results66 O ?_)))
      first
        | (rw [hsv, List.length_append, List.flatMap_append]; exact HL.f5.f5.f5.f5.f5)
        | (rw [hsv]; exact HL.f5.f5.f5.f5.f5)
theorem Zi {u0 u1 u2 u3 u4 u5 u6 u7 u8 u9 ua : Value} (hin : s.inn = true) (H : V w0 w (yL s.inn s.was [u0, u1, u2, u3, u4, u5, u6, u7, u8, u9, ua] • F)) : u6 = .int .i64 s.was.last ∧ u7 = .int .i64 s.was.fr ∧ u8 = .int .i64 s.was.to := by
  rw [hin] at H
  obtain ⟨qb, qr, qw, qt, qm, hu, -⟩ := H.was
  simp only [TU, List.cons.injEq, and_true] at hu
  exact ⟨hu.2.2.2.2.2.2.1, hu.2.2.2.2.2.2.2.1, hu.2.2.2.2.2.2.2.2.1⟩
set_option maxHeartbeats 1000000 in
theorem Ru (H : V w0 w (eH e s • F)) : iQ prog 23 #[.pointer (some ⟨e, 0, none⟩)] w fun v w' => ∃ u ks us sv, v = .agg (WI s u ks sv).toArray ∧
  V w0 w' (jw 21 .i32 u s.c.L • Row 22 1 ks s.c.E.length us • KG 21 .i32 us (Bq s.c.E s.c.at_) • Row 133 2 sv s.saved.length (s.saved.flatMap Yd) • eH e s • F) := by
 refine ji func23 ntmps23 ?_
 obtain ⟨zB, zC, zD, zF, zG, zH, zI, zJ, xM, wu, wz, wB, wC, wE, wF, wG, wH, wI, wJ, wK, iZ, dL, lU, jo⟩ := (H).JV
 have hU : (s.c.un s.c.place).length ≤ 16384 := by
  obtain ⟨D, P, hD1, hD2, HU⟩ := (jo.f6).ac0
  by_cases hm : s.c.place ∈ D
  ·have HF := HU.swap
   rw [vW hm] at HF
   obtain ⟨_, _, _, _, k1, _⟩ := HF.flat.Am
   have := k1.len; simpa using this
  ·rw [hD2 _ hm]; decide
 refine iy (kF (iR (l := [_, _, _, _, _, _, _, _, _, _, _, _, _, _, _, _, _]) jo kP O) ?_)
 rintro _ w2 ⟨b2, rfl, H2⟩
 refine rP (bM O (dS O func65 (EG H2.f2) ?_))
 rintro _ _ ⟨rfl, rfl⟩
 refine iE (oh (fV ?_))
 refine kL [(0, _)] (fun (⟨r, q, u, ks, sv, us⟩ : Nat × Nat × Value × Value × Value × List Value) => [(2, .pointer (some ⟨r, 0, none⟩)), (3, .pointer (some ⟨q, 0, none⟩))]) (fun (⟨r, q, u, ks, sv, us⟩ : Nat × Nat × Value × Value × Value × List Value) W => V w0 W (eP q (.cells (u :: .int .i64 s.c.pt :: .int .i64 s.c.mark :: .int .i64 s.c.mode :: .bool s.c.over :: .bool s.given :: .bool s.minus :: .int .i64 s.arg :: .int .i64 s.c.last :: .int .i64 s.c.fr :: .int .i64 s.c.to :: ks :: .int .i64 s.c.place :: sv :: .int .i64 s.aaQ :: .int .i64 s.c.res :: .int .i64 s.qQ :: []).toArray 50 (0, 0)) • jw 21 .i32 u s.c.L • Row 22 1 ks s.c.E.length us • KG 21 .i32 us (Bq s.c.E s.c.at_) • Row 133 2 sv s.saved.length (s.saved.flatMap Yd) • eP e (.cells (.pointer (some ⟨zB, 0, none⟩) :: .pointer (some ⟨zC, 0, none⟩) :: .pointer (some ⟨zD, 0, none⟩) :: .map (some zG) :: .int .i64 s.c.mode :: .bool s.c.over :: .int .i64 s.c.last :: .int .i64 s.c.fr :: .int .i64 s.c.to :: .int .i64 s.c.res :: .bool s.c.run :: .pointer (some ⟨zH, 0, none⟩) :: .pointer (some ⟨zI, 0, none⟩) :: .bool s.given :: .bool s.minus :: .int .i64 s.arg :: .bool s.inn :: wu :: wz :: wB :: wC :: wE :: wF :: wG :: wH :: wI :: wJ :: wK :: .int .i64 s.cls :: .bool s.killed :: .bool s.lT :: .bool s.argues :: .bool s.whole :: zJ :: []).toArray 82 (0, 0)) • jB zB s.c.L s.c.pt s.c.mark • gq zC s.c.E s.c.at_ • eP zD (.cells #[.int .i64 s.c.place, .map (some zF)] 122 (0, 0)) • iV uT zF (xw s.c.tx) • zy zG s.c.un • jC zH s.hl s.base s.most • eP zI (.cells #[.int .i64 s.qQ] 161 (0, 0)) • Row 189 3 zJ s.put.length (xM.flatMap fM.enc) • nC xM • yL s.inn s.was [wu, wz, wB, wC, wE, wF, wG, wH, wI, wJ, wK] • eP r (.cells (.slice none 0 0 :: .int .i64 0 :: .int .i64 0 :: .int .i64 0 :: .bool false :: .bool false :: .bool false :: .int .i64 0 :: .int .i64 0 :: .int .i64 0 :: .int .i64 0 :: .slice none 0 0 :: .int .i64 0 :: .slice none 0 0 :: .int .i64 0 :: .int .i64 0 :: .int .i64 0 :: []).toArray 50 (0, 0)) • F)) mO ?_ ?_
 ·rintro ⟨r, q, u, ks, sv, us⟩ w4 HJ
  dsimp only [List.cons_append, List.nil_append]
  refine aI (bM O (dK O (bI 16 aj O aS O (fC cZ O (HJ.f6).get.2 O (jr O (fun h1 => ?_) (fun h1 => ?_))))))
  ·(try simp only [Z] at h1)
   have hin := h1
   obtain ⟨rfl, rfl, rfl⟩ := Zi hin HJ.f16
   have ag2 := HJ.drew
   have yO := V.kp (ag2.right.f16.f16.f16.f16.f16.f16.f16.f16.f16.f16.f16.f16.f16.f16.f16.f16)
   refine uN [4, 9, 14] yO O (gX 0 O yO O (jE 1 O yO O (gy 2 O yO 17 aj O aV O (gy 3 O yO 6 aK O ay O (jf 4 O yO (fun W hW => jv aC O ((Kp.h hW).f5).get.2 O) (gX 5 O yO O (jE 6 O yO O (gy 7 O yO 17 aj O aV O (gy 8 O yO 7 aK O ay O (jf 9 O yO (fun W hW => jv aC O ((Kp.h hW).f5).get.2 O) (gX 10 O yO O (jE 11 O yO O (gy 12 O yO 17 aj O aV O (gy 13 O yO 8 aK O ay O (jf 14 O yO (fun W hW => jv aC O ((Kp.h hW).f5).get.2 O) (gy 15 O yO 8 jQ O ay O ?_))))))))))))))))
   refine iH 16 O (by kernel_rfl) (aeR 8 ag2 ay) ?_
   rintro _ w5 H5
   have Dj := V.kp (H5.right.f16.f16.f16.f16.f16.f16.f16.f16.f16.f16.f16.f16.f16.f16.f16.f16)
   refine fD Dj (fun W hW => (Kp.h hW).f16.f16.f16.f16.f16.f16.f16.f16.f16.f16.f16.f16.f16.f16.f16.f16) ?_
   refine gy 17 O Dj 9 jQ O ay O ?_
   refine iH 18 O (by kernel_rfl) (aeR 9 H5 ay) ?_
   rintro _ w6 H6
   have Gy := V.kp (H6.f17.f17.f17.f17.f17.f17.f17.f17.f17.f17.f17.f17.f17.f17.f17.f17.f17)
   refine fD Gy (fun W hW => (Kp.h hW).right.f16.f16.f16.f16.f16.f16.f16.f16.f16.f16.f16.f16.f16.f16.f16.f16) ?_
   refine gy 19 O Gy 10 jQ O ay O ?_
   refine iH 20 O (by kernel_rfl) (aeR 10 H6 ay) ?_
   rintro _ w7 H7
   have En := V.kp (H7.f17.f17.f17.f17.f17.f17.f17.f17.f17.f17.f17.f17.f17.f17.f17.f17.f17)
   refine iK En (by kernel_rfl) ?_
   refine pq (aX (iy (aQ (dV jQ O sizeOf50 O O (H7).get.2) (aJ (dG 0 (l' := [_, _, _, _, _, _, _, _, _, _, _, _, _, _, _, _, _]) (us := [_, _, _, _, _, _, _, _, _, _, _, _, _, _, _, _, _]) H7.f17 sizeOf50 O O O (bg (by first | rfl | exact Rd.one ((H7.f2).aP)) (aG (aG (aG (aG (aG (aG (aG (aG (aG (aG (bg (by first | rfl | exact Rd.one ((H7.f3).aP)) (aG (bg (by first | rfl | exact Rd.one ((H7.f5).aP)) (aG (aG (aG bW))))))))))))))))) O O) ?_))))
   rintro _ w8 H8
   refine zkc ?_
   refine sS (.inl O) (QA results23 O jQ O (by rw [ael]; rfl) (H8).get.2) ?_
   have aaN := H8.f17.f17.f17.f17.f17.f17.f17.f17.f17.f17.f17
   have aaO := V.jg (s := s) iZ dL aaN
   refine ⟨u, ks, us, sv, ?_, aaO.f2.right.f2.right.f5.f5.f5.f5⟩
   unfold WI bF.DL bF.Z8 bF.Z9
   rw [hin]
   rfl
  ·(try simp only [Z] at h1)
   have hin := h1
   refine fV (iy (aQ (dV jQ O sizeOf50 O O (HJ).get.2) (aJ (dG 0 (l' := [_, _, _, _, _, _, _, _, _, _, _, _, _, _, _, _, _]) (us := [_, _, _, _, _, _, _, _, _, _, _, _, _, _, _, _, _]) HJ.f17 sizeOf50 O O O (bg (by first | rfl | exact Rd.one ((HJ.f2).aP)) (aG (aG (aG (aG (aG (aG (aG (aG (aG (aG (bg (by first | rfl | exact Rd.one ((HJ.f3).aP)) (aG (bg (by first | rfl | exact Rd.one ((HJ.f5).aP)) (aG (aG (aG bW))))))))))))))))) O O) ?_)))
   rintro _ w12 vM
   refine zkc ?_
   refine sS (.inl O) (QA results23 O jQ O (by rw [ael]; rfl) (vM).get.2) ?_
   have ae4 := vM.f17.f17.f17.f17.f17.f17.f17.f17.f17.f17.f17
   have ae5 := V.jg (s := s) iZ dL ae4
   refine ⟨u, ks, us, sv, ?_, ae5.f2.right.f2.right.f5.f5.f5.f5⟩
   unfold WI bF.DL bF.Z8 bF.Z9
   rw [hin]
   rfl
 ·skip
  have abh := H2.drew
  have gK := V.kp (abh.f7.right.f7.right.f10.f10.f10.f10.f10.f10.f10.f10.f10.f10)
  refine uN [6, 11, 15, 19, 23, 28, 33, 38, 45, 48, 57, 61] gK O (gX 0 O gK O (gX 2 O gK O (jE 3 O gK O (gy 4 O gK 0 aj O aV O (gy 5 O gK 4 aK O ay O (jf 6 O gK (fun W hW => jv aC O ((Kp.h hW).f2).get.2 O) (gX 7 O gK O (jE 8 O gK O (gy 9 O gK 0 aj O aV O (gy 10 O gK 5 aK O aS O (jf 11 O gK (fun W hW => jv cZ O ((Kp.h hW).f2).get.2 O) (gX 12 O gK O (jE 13 O gK O (gy 14 O gK 13 aj O aS O (jf 15 O gK (fun W hW => jv cZ O ((Kp.h hW).f2).get.2 O) (gX 16 O gK O (jE 17 O gK O (gy 18 O gK 14 aj O aS O (jf 19 O gK (fun W hW => jv cZ O ((Kp.h hW).f2).get.2 O) (gX 20 O gK O (jE 21 O gK O (gy 22 O gK 15 aj O ay O (jf 23 O gK (fun W hW => jv aC O ((Kp.h hW).f2).get.2 O) (gX 24 O gK O (jE 25 O gK O (gy 26 O gK 0 aj O aV O (gy 27 O gK 6 aK O ay O (jf 28 O gK (fun W hW => jv aC O ((Kp.h hW).f2).get.2 O) (gX 29 O gK O (jE 30 O gK O (gy 31 O gK 0 aj O aV O (gy 32 O gK 7 aK O ay O (jf 33 O gK (fun W hW => jv aC O ((Kp.h hW).f2).get.2 O) (gX 34 O gK O (jE 35 O gK O (gy 36 O gK 0 aj O aV O (gy 37 O gK 8 aK O ay O (jf 38 O gK (fun W hW => jv aC O ((Kp.h hW).f2).get.2 O) (gX 39 O gK O ?_)))))))))))))))))))))))))))))))))))))))
  refine gX 41 O gK O (jE 42 O gK O (gy 43 O gK 0 aj O aV O (gy 44 O gK 2 aK O sizeOf74 O (jf 45 O gK (fun W hW => jv ni O ((Kp.h hW).f2).get.2 O) (jE 46 O gK O (gy 47 O gK 0 iG O ay O (jf 48 O gK (fun W hW => jv aC O ((Kp.h hW).f5).get.2 O) (gX 49 O gK O (gX 51 O gK O (gX 53 O gK O (jE 54 O gK O (gy 55 O gK 0 aj O aV O (gy 56 O gK 9 aK O ay O (jf 57 O gK (fun W hW => jv aC O ((Kp.h hW).f2).get.2 O) (gX 58 O gK O (jE 59 O gK O (gy 60 O gK 12 aj O sizeOf79 O (jf 61 O gK (fun W hW => jv underlying79 O ((Kp.h hW).f2).get.2 O) ?_))))))))))))))))))
  refine BI (i := 1) (j := 64) (by kernel_rfl) ?_ ?_
  ·skip
   refine lS 1 O (by kernel_rfl) (yU (Ag O func28 O O) (J3 abh.f3.f3)) (lN O) ?_
   rintro _ w16 ⟨u16, rfl, vN⟩
   have yI := V.kp (vN.f8.right.f8.right.f11.f11.f11.f11.f11.f11.f11.f11.f11.f11.f11)
   refine fD yI (fun W hW => (Kp.h hW).right.f10.f10.f10.f10.f10.f10.f10.f9.f9.f10) ?_
   refine BI (i := 40) (j := 64) (by kernel_rfl) ?_ ?_
   ·skip
    refine lS 40 O (by kernel_rfl) (yU (Ag O func33 O O) (Du vN.f5.f3)) (lN O) ?_
    rintro u17 Z5 ⟨aj5, DF⟩
    have Ep := V.kp (DF.f10.right.f10.right.f13.f13.f13.f13.f13.f13.f13.f13.f13.f13.f13.f13.f13)
    refine fD Ep (fun W hW => (Kp.h hW).right.right.f11.f11.f11.f11.f11.f11.f8.f11.f11.f10.f11) ?_
    refine BI (i := 50) (j := 64) (by kernel_rfl) ?_ ?_
    ·skip
     refine lS 50 O (by kernel_rfl) (yU (Ag O func66 O O) (zK DF.f11.f10.f10.f6)) (lN O) ?_
     rintro u18 w18 DZ
     have Me := V.kp (DZ.f12.right.f15.f15.f15.f15.f15.f15.f15.f15.f15.f15.f15.f15.f15.f15.f15)
     refine fD Me (fun W hW => (Kp.h hW).right.f4.right.f13.f13.f13.f13.f7.f7.f13.f13.f13.f13.f11.f13.f13) ?_
     refine BI (i := 52) (j := 64) (by kernel_rfl) ?_ ?_
     ·skip
      refine lS 52 O (by kernel_rfl) (yU (Ag O func67 O O) (uU DZ.f14.f13.f5.f5 hU)) (lN O) ?_
      rintro _ w19 ⟨rfl, Ef⟩
      have TR := V.kp (Ef.f16.f16.f16.f16.f16.f16.f16.f16.f16.f16.f16.f16.f16.f16.f16.f16)
      refine fD TR (fun W hW => (Kp.h hW).f3.right.f15.f15.f5.f15.f15.f15.f15.f15.f15.f15.f15.f15.f14.f14.f15) ?_
      refine BI (i := 62) (j := 64) (by kernel_rfl) ?_ ?_
      ·skip
       refine lS 62 O (by kernel_rfl) (yU (Ag O func68 O O) (qE Ef.f14)) (lN O) ?_
       rintro _ _ ⟨rfl, rfl⟩
       have Ez := V.kp (Ef.f16.f16.f16.f16.f16.f16.f16.f16.f16.f16.f16.f16.f16.f16.f16.f16)
       refine fD Ez (fun W hW => (Kp.h hW).f16.f16.f16.f16.f16.f16.f16.f16.f16.f16.f16.f16.f16.f16.f16.f16) ?_
       refine iI 63 O Ez (fun _ => fU (zl := [.slice none 0 0, .int .i64 0, .int .i64 0, .int .i64 0, .bool false, .bool false, .bool false, .int .i64 0, .int .i64 0, .int .i64 0, .int .i64 0, .slice none 0 0, .int .i64 0, .slice none 0 0, .int .i64 0, .int .i64 0, .int .i64 0]) (pl := [(0, 3), (3, 1), (4, 1), (5, 1), (6, 1), (7, 1), (8, 1), (9, 1), (10, 1), (11, 1), (12, 1), (13, 1), (14, 1), (15, 1), (16, 1)]) [_, _, _, _, _, _, _, _, _, _, _, _, _, _, _, _, _] jQ kP O (fun w => by kernel_rfl) O (.agg (us := [_, _, _]) (zs := [.slice none 0 0, .int .i64 0, .int .i64 0]) O O (.on (.on (.on (.on (.on (.on (.on (.on (.one (Rd.one ((Ef.f8).aP)) (.on (.one (Rd.one ((Ef.f5).aP)) (.on (.on (.on .nil))))))))))))))) O) ?_
       refine mQ 64 O (iR (l := [_, _, _, _, _, _, _, _, _, _, _, _, _, _, _, _, _]) Ef kP O) ?_
       rintro _ w21 ⟨b21, rfl, vF⟩
       have abj := V.kp (vF.f17.f17.f17.f17.f17.f17.f17.f17.f17.f17.f17.f17.f17.f17.f17.f17.f17)
       refine fD abj (fun W hW => (Kp.h hW).right.f16.f16.f16.f16.f16.f16.f16.f16.f16.f16.f16.f16.f16.f16.f16.f16) ?_
       refine iH 65 O (by kernel_rfl) (dG 0 (l' := [_, _, _, _, _, _, _, _, _, _, _, _, _, _, _, _, _]) (us := [_, _, _, _, _, _, _, _, _, _, _, _, _, _, _, _, _]) vF sizeOf50 O O O (bg (by first | rfl | exact Rd.one ((vF.f12).aP)) (aG (aG (aG (aG (aG (aG (aG (aG (aG (aG (bg (by first | rfl | exact Rd.one ((vF.f9).aP)) (aG (bg (by first | rfl | exact Rd.one ((vF.f6).aP)) (aG (aG (aG bW))))))))))))))))) O O) ?_
       rintro _ w22 KQ
       have Ig := V.kp (KQ.f17.f17.f17.f17.f17.f17.f17.f17.f17.f17.f17.f17.f17.f17.f17.f17.f17)
       refine iK Ig (by kernel_rfl) ?_
       refine pq ?_
       refine dD (_, _, _, _, _, _) uh mO (by (try dsimp only); exact KQ.f14.f17.f17.f8.f17.f12.f10.f12.f11.f15.f17.f13.f14.f16.f16.f17.f17)
      ·skip
       refine lS 64 O (by kernel_rfl) (iR (l := [_, _, _, _, _, _, _, _, _, _, _, _, _, _, _, _, _]) Ef kP O) (lN O) ?_
       rintro _ w23 ⟨b23, rfl, BK⟩
       have JR := V.kp (BK.f17.f17.f17.f17.f17.f17.f17.f17.f17.f17.f17.f17.f17.f17.f17.f17.f17)
       refine fD JR (fun W hW => (Kp.h hW).right.f16.f16.f16.f16.f16.f16.f16.f16.f16.f16.f16.f16.f16.f16.f16.f16) ?_
       refine mQ 62 O (wR O func68 (qE BK.f15)) ?_
       rintro _ _ ⟨rfl, rfl⟩
       have MS := V.kp (BK.f17.f17.f17.f17.f17.f17.f17.f17.f17.f17.f17.f17.f17.f17.f17.f17.f17)
       refine fD MS (fun W hW => (Kp.h hW).f17.f17.f17.f17.f17.f17.f17.f17.f17.f17.f17.f17.f17.f17.f17.f17.f17) ?_
       refine iI 63 O MS (fun _ => fU (zl := [.slice none 0 0, .int .i64 0, .int .i64 0, .int .i64 0, .bool false, .bool false, .bool false, .int .i64 0, .int .i64 0, .int .i64 0, .int .i64 0, .slice none 0 0, .int .i64 0, .slice none 0 0, .int .i64 0, .int .i64 0, .int .i64 0]) (pl := [(0, 3), (3, 1), (4, 1), (5, 1), (6, 1), (7, 1), (8, 1), (9, 1), (10, 1), (11, 1), (12, 1), (13, 1), (14, 1), (15, 1), (16, 1)]) [_, _, _, _, _, _, _, _, _, _, _, _, _, _, _, _, _] jQ kP O (fun w => by kernel_rfl) O (.agg (us := [_, _, _]) (zs := [.slice none 0 0, .int .i64 0, .int .i64 0]) O O (.on (.on (.on (.on (.on (.on (.on (.on (.one (Rd.one ((BK.f9).aP)) (.on (.one (Rd.one ((BK.f6).aP)) (.on (.on (.on .nil))))))))))))))) O) ?_
       refine iH 65 O (by kernel_rfl) (dG 0 (l' := [_, _, _, _, _, _, _, _, _, _, _, _, _, _, _, _, _]) (us := [_, _, _, _, _, _, _, _, _, _, _, _, _, _, _, _, _]) BK sizeOf50 O O O (bg (by first | rfl | exact Rd.one ((BK.f12).aP)) (aG (aG (aG (aG (aG (aG (aG (aG (aG (aG (bg (by first | rfl | exact Rd.one ((BK.f9).aP)) (aG (bg (by first | rfl | exact Rd.one ((BK.f6).aP)) (aG (aG (aG bW))))))))))))))))) O O) ?_
       rintro _ w25 Sz
       have JW := V.kp (Sz.f17.f17.f17.f17.f17.f17.f17.f17.f17.f17.f17.f17.f17.f17.f17.f17.f17)
       refine iK JW (by kernel_rfl) ?_
       refine pq ?_
       refine dD (_, _, _, _, _, _) uh mO (by (try dsimp only); exact Sz.f14.f17.f17.f8.f17.f12.f10.f12.f11.f15.f17.f13.f14.f16.f16.f17.f17)
     ·skip
      refine lS 64 O (by kernel_rfl) (iR (l := [_, _, _, _, _, _, _, _, _, _, _, _, _, _, _, _, _]) DZ kP O) (lN O) ?_
      rintro _ w26 ⟨b26, rfl, Tf⟩
      have Ye := V.kp (Tf.f13.right.f16.f16.f16.f16.f16.f16.f16.f16.f16.f16.f16.f16.f16.f16.f16.f16)
      refine fD Ye (fun W hW => (Kp.h hW).right.f15.f15.f15.f15.f15.f15.f15.f15.f15.f15.f15.f15.f15.f15.f15) ?_
      refine mQ 52 O (wR O func67 (uU Tf.f15.f14.f6.f6 hU)) ?_
      rintro _ w27 ⟨rfl, KR⟩
      have Yf := V.kp (KR.f17.f17.f17.f17.f17.f17.f17.f17.f17.f17.f17.f17.f17.f17.f17.f17.f17)
      refine fD Yf (fun W hW => (Kp.h hW).f3.right.f16.f16.f5.f16.f16.f16.f16.f16.f16.f16.f16.f16.f14.f14.f16.f16) ?_
      refine mQ 62 O (wR O func68 (qE KR.f15)) ?_
      rintro _ _ ⟨rfl, rfl⟩
      have aem := V.kp (KR.f17.f17.f17.f17.f17.f17.f17.f17.f17.f17.f17.f17.f17.f17.f17.f17.f17)
      refine fD aem (fun W hW => (Kp.h hW).f17.f17.f17.f17.f17.f17.f17.f17.f17.f17.f17.f17.f17.f17.f17.f17.f17) ?_
      refine iI 63 O aem (fun _ => fU (zl := [.slice none 0 0, .int .i64 0, .int .i64 0, .int .i64 0, .bool false, .bool false, .bool false, .int .i64 0, .int .i64 0, .int .i64 0, .int .i64 0, .slice none 0 0, .int .i64 0, .slice none 0 0, .int .i64 0, .int .i64 0, .int .i64 0]) (pl := [(0, 3), (3, 1), (4, 1), (5, 1), (6, 1), (7, 1), (8, 1), (9, 1), (10, 1), (11, 1), (12, 1), (13, 1), (14, 1), (15, 1), (16, 1)]) [_, _, _, _, _, _, _, _, _, _, _, _, _, _, _, _, _] jQ kP O (fun w => by kernel_rfl) O (.agg (us := [_, _, _]) (zs := [.slice none 0 0, .int .i64 0, .int .i64 0]) O O (.on (.on (.on (.on (.on (.on (.on (.on (.one (Rd.one ((KR.f9).aP)) (.on (.one (Rd.one ((KR.f6).aP)) (.on (.on (.on .nil))))))))))))))) O) ?_
      refine iH 65 O (by kernel_rfl) (dG 0 (l' := [_, _, _, _, _, _, _, _, _, _, _, _, _, _, _, _, _]) (us := [_, _, _, _, _, _, _, _, _, _, _, _, _, _, _, _, _]) KR.f5 sizeOf50 O O O (bg (by first | rfl | exact Rd.one ((KR.f12).aP)) (aG (aG (aG (aG (aG (aG (aG (aG (aG (aG (bg (by first | rfl | exact Rd.one ((KR.f9).aP)) (aG (bg (by first | rfl | exact Rd.one ((KR.f6).aP)) (aG (aG (aG bW))))))))))))))))) O O) ?_
      rintro _ w29 Z7
      have ag3 := V.kp (Z7.f17.f17.f17.f17.f17.f17.f17.f17.f17.f17.f17.f17.f17.f17.f17.f17.f17)
      refine iK ag3 (by kernel_rfl) ?_
      refine pq ?_
      refine dD (_, _, _, _, _, _) uh mO (by (try dsimp only); exact Z7.f14.f17.f17.f8.f17.f12.f10.f12.f11.f15.f17.f13.f14.f16.f16.f17.f17)
    ·skip
     refine lS 64 O (by kernel_rfl) (iR (l := [_, _, _, _, _, _, _, _, _, _, _, _, _, _, _, _, _]) DF kP O) (lN O) ?_
     rintro _ w30 ⟨b30, rfl, Vm⟩
     have ag4 := V.kp (Vm.f11.right.f11.right.f14.f14.f14.f14.f14.f14.f14.f14.f14.f14.f14.f14.f14.f14)
     refine fD ag4 (fun W hW => (Kp.h hW).right.f13.f13.f13.f13.f13.f13.f13.f13.f13.f13.f13.f13.f13) ?_
     refine mQ 50 O (wR O func66 (zK Vm.f12.f11.f11.f7)) ?_
     rintro u31 w31 Vo
     have aaY := V.kp (Vo.f13.right.f16.f16.f16.f16.f16.f16.f16.f16.f16.f16.f16.f16.f16.f16.f16.f16)
     refine fD aaY (fun W hW => (Kp.h hW).right.f4.right.f14.f14.f14.f14.f7.f7.f14.f14.f14.f14.f11.f14.f14.f14) ?_
     refine mQ 52 O (wR O func67 (uU Vo.f15.f14.f5.f5 hU)) ?_
     rintro _ w32 ⟨rfl, PE⟩
     have X3 := V.kp (PE.f17.f17.f17.f17.f17.f17.f17.f17.f17.f17.f17.f17.f17.f17.f17.f17.f17)
     refine fD X3 (fun W hW => (Kp.h hW).f3.right.f16.f16.f5.f16.f16.f16.f16.f16.f16.f16.f16.f16.f16.f15.f15.f16) ?_
     refine mQ 62 O (wR O func68 (qE PE.f15)) ?_
     rintro _ _ ⟨rfl, rfl⟩
     have X5 := V.kp (PE.f17.f17.f17.f17.f17.f17.f17.f17.f17.f17.f17.f17.f17.f17.f17.f17.f17)
     refine fD X5 (fun W hW => (Kp.h hW).f17.f17.f17.f17.f17.f17.f17.f17.f17.f17.f17.f17.f17.f17.f17.f17.f17) ?_
     refine iI 63 O X5 (fun _ => fU (zl := [.slice none 0 0, .int .i64 0, .int .i64 0, .int .i64 0, .bool false, .bool false, .bool false, .int .i64 0, .int .i64 0, .int .i64 0, .int .i64 0, .slice none 0 0, .int .i64 0, .slice none 0 0, .int .i64 0, .int .i64 0, .int .i64 0]) (pl := [(0, 3), (3, 1), (4, 1), (5, 1), (6, 1), (7, 1), (8, 1), (9, 1), (10, 1), (11, 1), (12, 1), (13, 1), (14, 1), (15, 1), (16, 1)]) [_, _, _, _, _, _, _, _, _, _, _, _, _, _, _, _, _] jQ kP O (fun w => by kernel_rfl) O (.agg (us := [_, _, _]) (zs := [.slice none 0 0, .int .i64 0, .int .i64 0]) O O (.on (.on (.on (.on (.on (.on (.on (.on (.one (Rd.one ((PE.f9).aP)) (.on (.one (Rd.one ((PE.f5).aP)) (.on (.on (.on .nil))))))))))))))) O) ?_
     refine iH 65 O (by kernel_rfl) (dG 0 (l' := [_, _, _, _, _, _, _, _, _, _, _, _, _, _, _, _, _]) (us := [_, _, _, _, _, _, _, _, _, _, _, _, _, _, _, _, _]) PE.f8 sizeOf50 O O O (bg (by first | rfl | exact Rd.one ((PE.f12).aP)) (aG (aG (aG (aG (aG (aG (aG (aG (aG (aG (bg (by first | rfl | exact Rd.one ((PE.f9).aP)) (aG (bg (by first | rfl | exact Rd.one ((PE.f5).aP)) (aG (aG (aG bW))))))))))))))))) O O) ?_
     rintro _ w34 X6
     have PV := V.kp (X6.f17.f17.f17.f17.f17.f17.f17.f17.f17.f17.f17.f17.f17.f17.f17.f17.f17)
     refine iK PV (by kernel_rfl) ?_
     refine pq ?_
     refine dD (_, _, _, _, _, _) uh mO (by (try dsimp only); exact X6.f14.f17.f17.f8.f17.f12.f10.f12.f11.f15.f17.f13.f14.f16.f16.f17.f17)
   ·skip
    refine lS 64 O (by kernel_rfl) (iR (l := [_, _, _, _, _, _, _, _, _, _, _, _, _, _, _, _, _]) vN kP O) (lN O) ?_
    rintro _ w35 ⟨b35, rfl, H35⟩
    have JX := V.kp (H35.f9.right.f9.right.f12.f12.f12.f12.f12.f12.f12.f12.f12.f12.f12.f12)
    refine fD JX (fun W hW => (Kp.h hW).right.f11.f11.f11.f11.f11.f11.f11.f11.f11.f11.f11) ?_
    refine mQ 40 O (wR O func33 (Du H35.f6.f4)) ?_
    rintro u36 w36 ⟨aj6, H36⟩
    have Yg := V.kp (H36.f11.right.f11.right.f14.f14.f14.f14.f14.f14.f14.f14.f14.f14.f14.f14.f14.f14)
    refine fD Yg (fun W hW => (Kp.h hW).right.right.f12.f12.f12.f12.f12.f12.f8.f12.f12.f10.f12.f12) ?_
    refine mQ 50 O (wR O func66 (zK H36.f12.f11.f11.f6)) ?_
    rintro u37 w37 H37
    have ag5 := V.kp (H37.f13.right.f16.f16.f16.f16.f16.f16.f16.f16.f16.f16.f16.f16.f16.f16.f16.f16)
    refine fD ag5 (fun W hW => (Kp.h hW).right.f4.right.f14.f14.f14.f14.f7.f7.f14.f14.f14.f14.f14.f12.f14.f14) ?_
    refine mQ 52 O (wR O func67 (uU H37.f15.f14.f5.f5 hU)) ?_
    rintro _ w38 ⟨rfl, Wu⟩
    have ag6 := V.kp (Wu.f17.f17.f17.f17.f17.f17.f17.f17.f17.f17.f17.f17.f17.f17.f17.f17.f17)
    refine fD ag6 (fun W hW => (Kp.h hW).f3.right.f16.f16.f5.f16.f16.f16.f16.f16.f16.f16.f16.f16.f16.f15.f15.f16) ?_
    refine mQ 62 O (wR O func68 (qE Wu.f15)) ?_
    rintro _ _ ⟨rfl, rfl⟩
    have Ui := V.kp (Wu.f17.f17.f17.f17.f17.f17.f17.f17.f17.f17.f17.f17.f17.f17.f17.f17.f17)
    refine fD Ui (fun W hW => (Kp.h hW).f17.f17.f17.f17.f17.f17.f17.f17.f17.f17.f17.f17.f17.f17.f17.f17.f17) ?_
    refine iI 63 O Ui (fun _ => fU (zl := [.slice none 0 0, .int .i64 0, .int .i64 0, .int .i64 0, .bool false, .bool false, .bool false, .int .i64 0, .int .i64 0, .int .i64 0, .int .i64 0, .slice none 0 0, .int .i64 0, .slice none 0 0, .int .i64 0, .int .i64 0, .int .i64 0]) (pl := [(0, 3), (3, 1), (4, 1), (5, 1), (6, 1), (7, 1), (8, 1), (9, 1), (10, 1), (11, 1), (12, 1), (13, 1), (14, 1), (15, 1), (16, 1)]) [_, _, _, _, _, _, _, _, _, _, _, _, _, _, _, _, _] jQ kP O (fun w => by kernel_rfl) O (.agg (us := [_, _, _]) (zs := [.slice none 0 0, .int .i64 0, .int .i64 0]) O O (.on (.on (.on (.on (.on (.on (.on (.on (.one (Rd.one ((Wu.f8).aP)) (.on (.one (Rd.one ((Wu.f5).aP)) (.on (.on (.on .nil))))))))))))))) O) ?_
    refine iH 65 O (by kernel_rfl) (dG 0 (l' := [_, _, _, _, _, _, _, _, _, _, _, _, _, _, _, _, _]) (us := [_, _, _, _, _, _, _, _, _, _, _, _, _, _, _, _, _]) Wu.f11 sizeOf50 O O O (bg (by first | rfl | exact Rd.one ((Wu.f12).aP)) (aG (aG (aG (aG (aG (aG (aG (aG (aG (aG (bg (by first | rfl | exact Rd.one ((Wu.f8).aP)) (aG (bg (by first | rfl | exact Rd.one ((Wu.f5).aP)) (aG (aG (aG bW))))))))))))))))) O O) ?_
    rintro _ w40 H40
    have ag7 := V.kp (H40.f17.f17.f17.f17.f17.f17.f17.f17.f17.f17.f17.f17.f17.f17.f17.f17.f17)
    refine iK ag7 (by kernel_rfl) ?_
    refine pq ?_
    refine dD (_, _, _, _, _, _) uh mO (by (try dsimp only); exact H40.f14.f17.f17.f8.f17.f12.f10.f12.f11.f15.f17.f13.f14.f16.f16.f17.f17)
  ·skip
   refine lS 64 O (by kernel_rfl) (iR (l := [_, _, _, _, _, _, _, _, _, _, _, _, _, _, _, _, _]) abh kP O) (lN O) ?_
   rintro _ w41 ⟨b41, rfl, H41⟩
   have aaZ := V.kp (H41.f8.right.f8.right.f11.f11.f11.f11.f11.f11.f11.f11.f11.f11.f11)
   refine fD aaZ (fun W hW => (Kp.h hW).right.f10.f10.f10.f10.f10.f10.f10.f10.f10.f10) ?_
   refine mQ 1 O (wR O func28 (J3 H41.f4.f4)) ?_
   rintro _ w42 ⟨u42, rfl, H42⟩
   have PW := V.kp (H42.f9.right.f9.right.f12.f12.f12.f12.f12.f12.f12.f12.f12.f12.f12.f12)
   refine fD PW (fun W hW => (Kp.h hW).right.f11.f11.f11.f11.f11.f11.f11.f9.f9.f11.f11) ?_
   refine mQ 40 O (wR O func33 (Du H42.f6.f3)) ?_
   rintro u43 w43 ⟨aj7, H43⟩
   have aa0 := V.kp (H43.f11.right.f11.right.f14.f14.f14.f14.f14.f14.f14.f14.f14.f14.f14.f14.f14.f14)
   refine fD aa0 (fun W hW => (Kp.h hW).right.right.f12.f12.f12.f12.f12.f12.f8.f12.f12.f12.f11.f12) ?_
   refine mQ 50 O (wR O func66 (zK H43.f12.f11.f11.f6)) ?_
   rintro u44 w44 H44
   have ag8 := V.kp (H44.f13.right.f16.f16.f16.f16.f16.f16.f16.f16.f16.f16.f16.f16.f16.f16.f16.f16)
   refine fD ag8 (fun W hW => (Kp.h hW).right.f4.right.f14.f14.f14.f14.f7.f7.f14.f14.f14.f14.f14.f12.f14.f14) ?_
   refine mQ 52 O (wR O func67 (uU H44.f15.f14.f5.f5 hU)) ?_
   rintro _ w45 ⟨rfl, Vq⟩
   have ag9 := V.kp (Vq.f17.f17.f17.f17.f17.f17.f17.f17.f17.f17.f17.f17.f17.f17.f17.f17.f17)
   refine fD ag9 (fun W hW => (Kp.h hW).f3.right.f16.f16.f5.f16.f16.f16.f16.f16.f16.f16.f16.f16.f16.f15.f15.f16) ?_
   refine mQ 62 O (wR O func68 (qE Vq.f15)) ?_
   rintro _ _ ⟨rfl, rfl⟩
   have aen := V.kp (Vq.f17.f17.f17.f17.f17.f17.f17.f17.f17.f17.f17.f17.f17.f17.f17.f17.f17)
   refine fD aen (fun W hW => (Kp.h hW).f17.f17.f17.f17.f17.f17.f17.f17.f17.f17.f17.f17.f17.f17.f17.f17.f17) ?_
   refine iI 63 O aen (fun _ => fU (zl := [.slice none 0 0, .int .i64 0, .int .i64 0, .int .i64 0, .bool false, .bool false, .bool false, .int .i64 0, .int .i64 0, .int .i64 0, .int .i64 0, .slice none 0 0, .int .i64 0, .slice none 0 0, .int .i64 0, .int .i64 0, .int .i64 0]) (pl := [(0, 3), (3, 1), (4, 1), (5, 1), (6, 1), (7, 1), (8, 1), (9, 1), (10, 1), (11, 1), (12, 1), (13, 1), (14, 1), (15, 1), (16, 1)]) [_, _, _, _, _, _, _, _, _, _, _, _, _, _, _, _, _] jQ kP O (fun w => by kernel_rfl) O (.agg (us := [_, _, _]) (zs := [.slice none 0 0, .int .i64 0, .int .i64 0]) O O (.on (.on (.on (.on (.on (.on (.on (.on (.one (Rd.one ((Vq.f8).aP)) (.on (.one (Rd.one ((Vq.f5).aP)) (.on (.on (.on .nil))))))))))))))) O) ?_
   refine iH 65 O (by kernel_rfl) (dG 0 (l' := [_, _, _, _, _, _, _, _, _, _, _, _, _, _, _, _, _]) (us := [_, _, _, _, _, _, _, _, _, _, _, _, _, _, _, _, _]) Vq.f13 sizeOf50 O O O (bg (by first | rfl | exact Rd.one ((Vq.f11).aP)) (aG (aG (aG (aG (aG (aG (aG (aG (aG (aG (bg (by first | rfl | exact Rd.one ((Vq.f8).aP)) (aG (bg (by first | rfl | exact Rd.one ((Vq.f5).aP)) (aG (aG (aG bW))))))))))))))))) O O) ?_
   rintro _ w47 H47
   have aha := V.kp (H47.f17.f17.f17.f17.f17.f17.f17.f17.f17.f17.f17.f17.f17.f17.f17.f17.f17)
   refine iK aha (by kernel_rfl) ?_
   refine pq ?_
   refine dD (_, _, _, _, _, _) uh mO (by (try dsimp only); exact H47.f14.f17.f17.f8.f17.f12.f10.f12.f11.f15.f17.f13.f14.f16.f16.f17.f17)
end
end Go.Proofs.YtpdeedplgmbopaaGreatDoor
end
section
namespace Go.Proofs.YtpdeedplgmbopaaGreatDoor

def Un (x : Int) : Nat := if x < 128 then 1 else if 194 ≤ x ∧ x ≤ 223 then 2 else if 224 ≤ x ∧ x ≤ 239 then 3 else if 240 ≤ x ∧ x ≤ 244 then 4 else 0
def aiU (x : Int) : Int := if x = 224 then 160 else if x = 240 then 144 else 128
def ahb (x : Int) : Int := if x = 237 then 159 else if x = 244 then 143 else 191
def aiV (b : List Int) (j : Nat) : Bool := j == 0 || (decide (128 ≤ b.getD j 0 ∧ b.getD j 0 ≤ 191) && (j != 1 || decide (aiU (b.getD 0 0) ≤ b.getD 1 0 ∧ b.getD 1 0 ≤ ahb (b.getD 0 0))))
def aeo (b : List Int) : Nat → Bool
  | 0 => true
  | k + 1 => aeo b k && aiV b k
def J4 (b : List Int) : Nat × Nat := if b = [] then (0, 0) else if Un (b.getD 0 0) = 0 then (0, 0) else if aeo b (min (Un (b.getD 0 0)) b.length) then (min (Un (b.getD 0 0)) b.length, Un (b.getD 0 0)) else (0, Un (b.getD 0 0))
def aiW (b : List Int) (n : Nat) : Int :=
  if n = 1 then b.getD 0 0 else if n = 2 then b.getD 0 0 % 32 * 64 + b.getD 1 0 % 64 else if n = 3 then b.getD 0 0 % 16 * 4096 + b.getD 1 0 % 64 * 64 + b.getD 2 0 % 64
  else b.getD 0 0 % 8 * 262144 + b.getD 1 0 % 64 * 4096 + b.getD 2 0 % 64 * 64 + b.getD 3 0 % 64
def afh (b : List Int) : Bool := decide ((J4 b).1 = (J4 b).2 ∧ 0 < (J4 b).2)
def abk (b : List Int) : Int × Nat := if afh b then (aiW b (J4 b).2, (J4 b).2) else (65533, 1)
def ahc (b : List Int) : Bool := decide (0 < (J4 b).1 ∧ (J4 b).1 < (J4 b).2)
def abl : Nat → List Int → List Int
  | 0, _ => []
  | f + 1, b => if b = [] then [] else (abk b).1 :: abl f (b.drop (abk b).2)
def abm (b : List Int) : List Int := abl b.length b
def afi : Nat → List Int → List Int × List Int
  | 0, b => ([], b)
  | f + 1, b => if b = [] ∨ ahc b = true then ([], b) else ((abk b).1 :: (afi f (b.drop (abk b).2)).1, (afi f (b.drop (abk b).2)).2)
def abn (b : List Int) : List Int × List Int := afi b.length b
def afj (l : List Int) : List Int := l.flatMap Lib.encodeRuneZ
def aj8 (b : List Int) : Prop := ∀ x ∈ b, 0 ≤ x ∧ x < 256
end Go.Proofs.YtpdeedplgmbopaaGreatDoor
end
section
namespace Go.Proofs.YtpdeedplgmbopaaGreatDoor
open Go.RowKit
section
variable {P : Program} {L : List (Nat × Value)} {w : World} {ty t t' : TypeId} {x y : Operand} {k k2 : IntKind} {m n : Int}
theorem ac7 (o : BinOp) {r : Value} (ho : o = .shl ∨ o = .shr) (hx : ev L x = some (.int k m)) (hy : ev L y = some (.int k2 n)) (h : (Op.shift o k m k2 n).run P w = .ok r w) : Val P L (.binOp o t x y t') ty w r w := fun ρ hρ _ _ _ _ => by
  simp only [execOp, hρ _ _ hx, hρ _ _ hy]
  have h1 : (eqGuard o t x y (.int k m) (.int k2 n)).run P w = .ok () w := by rcases ho with rfl | rfl <;> rfl
  have h2 : (binOp o t (.int k m) (.int k2 n)).run P w = .ok r w := by
    rcases ho with rfl | rfl <;> simpa [binOp] using h
  simp [h1, h2]
theorem afk (i : Nat) (hx : ev L x = some (.int k m)) (hy : ev L y = some (.int k2 (i : Int))) (hi : i ≤ k.bits) : Val P L (.binOp .shr t x y t') ty w (.int k (m / 2 ^ i)) w :=
  ac7 .shr (.inr rfl) hx hy (by unfold Op.shift; rw [if_neg (by omega), show min (i : Int).toNat k.bits = i from by omega]; show _ = _; rw [← Int.fdiv_eq_ediv_of_nonneg _ (by exact Int.le_of_lt (Int.pow_pos (by decide)))]; rfl)
theorem ahd (i : Nat) (c : Int) (hc : (2 : Int) ^ i = c) (hi : i ≤ k.bits) (hx : ev L x = some (.int k m)) (hy : ev L y = some (.int k2 (i : Int))) : Val P L (.binOp .shr t x y t') ty w (.int k (m / c)) w := by
  have := afk (P := P) (w := w) (ty := ty) (t := t) (t' := t') i hx hy hi
  rwa [hc] at this
theorem Yh (o : BinOp) (hx : ev L x = some (.int k m)) (hy : ev L y = some (.int k n)) (ho : o = .and ∨ o = .or ∨ o = .xor ∨ o = .andNot) : Val P L (.binOp o t x y t') ty w (.int k (bits o k m n)) w :=
  aeP o hx hy ho (by rcases ho with rfl | rfl | rfl | rfl <;> rfl)
theorem Fv {n : Int} (h : -2147483648 ≤ n ∧ n < 2147483648) : IntKind.i32.wrap n = n := by rw [IntKind.wrap_i32]; omega
theorem La {n : Int} (h : -9223372036854775808 ≤ n ∧ n < 9223372036854775808) : IntKind.i64.wrap n = n := by rw [IntKind.wrap_i64]; omega
theorem P5 {src dst : TypeId} (hx : ev L x = some (.int k m)) (hs : (P.underlying src).isSome = true) (hd : P.underlying dst = some (.int .u8)) : Val P L (.convert src dst x) ty w (.int .u8 (m % 256)) w := fun ρ hρ _ _ _ _ => by
  obtain ⟨ds, hs'⟩ := Option.isSome_iff_exists.1 hs
  simp only [execOp, hρ _ _ hx]
  simp [convert, run_underlying hs', run_underlying hd, Conv.intToInt, IntKind.wrap_u8]
end
def firstM (x : Nat) : Int := ((Go.Pinned.utf8FirstZ.getD x 0 : Nat) : Int)
def ahe : List (Int × Int) := [(128, 191), (160, 191), (128, 159), (144, 191), (128, 143)]
structure ajx (w : World) : Prop where
  first : ∀ x : Nat, x < 256 → w.cell? ⟨0, x, none⟩ = some (.int .u8 (firstM x))
  acc : ∀ i : Nat, i < 5 → w.cell? ⟨1, i * 2, none⟩ = some (.int .u8 (ahe.getD i (0, 0)).1) ∧ w.cell? ⟨1, i * 2 + 1, none⟩ = some (.int .u8 (ahe.getD i (0, 0)).2)
section
variable {b : List Int}
end
section
variable {w0 w : World} {F : HP} {v : Value} {b : List Int}
end
def ends (T : List (Int × Int)) : List Int := T.flatMap fun x => [x.1, x.2]
section
variable {w0 w : World} {F : HP} {r : Int}
abbrev aiX : List (Int × Int) := [(48, 57), (65, 90), (97, 122)]
abbrev aj9 : List (Int × Int) := [(215, 215), (247, 247), (8192, 8303), (12288, 12351), (65280, 65295), (65533, 65533)]
end
section
variable {w0 w : World} {F : HP} {v : Value} {b l : List Int} {r x y : Int}
end
section
variable {w0 w : World} {F : HP} {v : Value} {b l : List Int} {r x y : Int}
end
section
variable {w0 w : World} {F : HP} {v : Value} {b l : List Int} {r x y : Int}
end
end Go.Proofs.YtpdeedplgmbopaaGreatDoor
end
