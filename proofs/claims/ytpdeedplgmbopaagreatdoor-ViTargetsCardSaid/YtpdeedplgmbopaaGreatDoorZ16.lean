import Derived.Test.YtpdeedplgmbopaaGreatDoorZ4
import Derived.Test.YtpdeedplgmbopaaGreatDoorZ15
import Derived.Test.YtpdeedplgmbopaaGreatDoorZ2
set_option linter.unusedSimpArgs false
set_option linter.unusedVariables false
/- Texts of mine, joined, their names in short: EdS2 EdS3 FieldVal. -/
section
namespace Go.Proofs.YtpdeedplgmbopaaGreatDoor
open Go.RowKit
open _root_.Go.Proofs.Tryz
theorem OZ {D : List Int} {P : Int → Nat} {k : Int} (h : (IJ D P k).isSome = true) : k ∈ D := by
  unfold IJ at h
  split at h
  · assumption
  · cases h
theorem MG {D : List Int} {P : Int → Nat} {k : Int} (h : (IJ D P k).isSome = false) : k ∉ D := by
  unfold IJ at h
  split at h
  · cases h
  · assumption
def Td (x : Int × ByteArray) : List Value := [.int .i64 x.1, .string x.2]
theorem O4 {hl : List qQ} {tx : Int → Option ByteArray} {place : Int} {i : Nat} (h : BK hl tx place i = true) : qR hl tx place (i + 1) = qR hl tx place i ++ [((i : Int), jS hl tx i)] := by
  unfold qR; rw [List.range_succ, List.filter_append, List.map_append]; simp [List.filter, h]
theorem IX {hl : List qQ} {tx : Int → Option ByteArray} {place : Int} {i : Nat} (h : BK hl tx place i = false) : qR hl tx place (i + 1) = qR hl tx place i := by
  unfold qR; rw [List.range_succ, List.filter_append, List.map_append]; simp [List.filter, h]
theorem vO (hl : List qQ) (tx : Int → Option ByteArray) (place : Int) (i : Nat) : (qR hl tx place i).length ≤ i := by
  unfold qR; rw [List.length_map]
  exact Nat.le_trans (List.length_filter_le _ _) (by simp)
def yw (E : List (List Int)) (a : Nat) : List (List Int) := E.drop a ++ E.take a
def Xz (n a i : Nat) : Nat := if i = 0 then a else (a + (i - 1)) % n
theorem Uy {n a i : Nat} : EJ n (Xz n a i) (min (i : Int) 1) = Xz n a (i + 1) := by
  cases i with
  | zero =>
    show (((a : Int) + min ((0 : Nat) : Int) 1) % (n : Int)).toNat = (a + (0 + 1 - 1)) % n
    rw [show min ((0 : Nat) : Int) 1 = 0 by omega, Int.add_zero, show ((a : Int) % (n : Int)) = ((a % n : Nat) : Int) from rfl, Int.toNat_natCast]
    rfl
  | succ j =>
    show (((((a + (j + 1 - 1)) % n : Nat) : Int) + min ((j + 1 : Nat) : Int) 1) % (n : Int)).toNat = (a + (j + 1 + 1 - 1)) % n
    rw [show min ((j + 1 : Nat) : Int) 1 = ((1 : Nat) : Int) by omega, show ((((a + (j + 1 - 1)) % n : Nat) : Int) + ((1 : Nat) : Int)) % (n : Int) = ((((a + (j + 1 - 1)) % n + 1) % n : Nat) : Int) from rfl, Int.toNat_natCast, Nat.mod_add_mod]
    congr 1
theorem Uz {E : List (List Int)} {a i : Nat} (h : i < E.length) (ha : a < E.length) : (yw E a).getD i [] = E.getD (Xz E.length a (i + 1)) [] := by
  unfold yw Xz
  rw [if_neg (by omega), Nat.add_sub_cancel, List.getD_eq_getElem?_getD, List.getD_eq_getElem?_getD]
  by_cases hi : i < E.length - a
  · rw [List.getElem?_append_left (by simpa using hi), List.getElem?_drop, Nat.mod_eq_of_lt (by omega)]
  · rw [List.getElem?_append_right (by simpa using hi), List.length_drop, List.getElem?_take, if_pos (by omega)]
    have : (a + i) % E.length = i - (E.length - a) := by
      rw [show a + i = (i - (E.length - a)) + E.length by omega, Nat.add_mod_right, Nat.mod_eq_of_lt (by omega)]
    rw [this]
theorem IY {α : Type _} {l : List α} {k : Nat} {d : α} (h : k < l.length) : l.take (k + 1) = l.take k ++ [l.getD k d] := by rw [List.take_succ_eq_append_getElem h, List.getD_eq_getElem?_getD, List.getElem?_eq_getElem h]; rfl
theorem KO (E : List (List Int)) (a : Nat) : (yw E a).length = E.length := by unfold yw; simp; omega
section
variable {w0 w : World} {F : HP} {e p ph pw pt pr pm pb : Nat} {s : dN} {k x place : Int} {hl : List qQ} {base most cls : Int} {tx : Int → Option ByteArray} {v pv : Value} {U : Int → List (List jq)} {put : List jq} {xs : List Value} {inn run whole : Bool} {E : List (List Int)} {a : Nat} {L : List Int} {pnt mk : Int}
theorem Bj {x0 x1 x2 x3 x4 x5 x6 x7 x8 x9 x10 x12 wC x14 x15 x16 x17 x18 x19 x20 x21 wQ x23 x24 x25 xq x27 x28 x29 x30 x31 x32 yc : Value} (H : V w0 w (dS e (.cells (x0 :: x1 :: x2 :: x3 :: x4 :: x5 :: x6 :: x7 :: x8 :: x9 :: x10 :: .pointer (some ⟨ph, 0, none⟩) :: x12 :: wC :: x14 :: x15 :: x16 :: x17 :: x18 :: x19 :: x20 :: x21 :: wQ :: x23 :: x24 :: x25 :: xq :: x27 :: x28 :: x29 :: x30 :: x31 :: x32 :: yc :: []).toArray 82 (0, 0)) • F)) : ig prog 65 #[.pointer (some ⟨e, 0, none⟩)] w fun v w' => v = .bool false ∧ w = w' := by
  refine iK func65 ntmps65 ?_
  refine jy O (bM O (Z (jm kU O O) (iZ O (fun h1 => ?_) (fun h1 => ?_))))
  · (try simp only [aC] at h1)
    exfalso; first | contradiction | omega
  · (try simp only [aC] at h1)
    refine bg (bG O (bg (dQ O (bg (bK 11 ah O sizeOf78 O (bg (gJ kC O (H).get.2 O (bg (Z (jm kC O O) (gI O O (dU O (dF results65 O ?_))))))))))))
    exact ⟨O, O⟩
theorem rH {x0 x1 x4 x5 x6 x7 x8 x9 x11 x12 wC x14 x15 x17 x18 x19 x20 x21 wQ x23 x24 x25 xq x27 x29 x30 x31 : Value} (H : V w0 w (dS e (.cells (x0 :: x1 :: .pointer (some ⟨pw, 0, none⟩) :: .map (some pm) :: x4 :: x5 :: x6 :: x7 :: x8 :: x9 :: .bool run :: x11 :: x12 :: wC :: x14 :: x15 :: .bool inn :: x17 :: x18 :: x19 :: x20 :: x21 :: wQ :: x23 :: x24 :: x25 :: xq :: x27 :: .int .i64 cls :: x29 :: x30 :: x31 :: .bool whole :: pv :: []).toArray 82 (0, 0)) • dS pw (.cells #[.int .i64 k, .map (some pt)] 122 (0, 0)) • xR pm U • Row 189 3 pv put.length xs • F)) (hU : (U k).length ≤ 16384) :
    ig prog 67 #[.pointer (some ⟨e, 0, none⟩)] w fun v' w' => v' = .int .i64 (rF (U k) inn put (cls == 3 && whole) run) ∧
      V w0 w' (dS e (.cells (x0 :: x1 :: .pointer (some ⟨pw, 0, none⟩) :: .map (some pm) :: x4 :: x5 :: x6 :: x7 :: x8 :: x9 :: .bool run :: x11 :: x12 :: wC :: x14 :: x15 :: .bool inn :: x17 :: x18 :: x19 :: x20 :: x21 :: wQ :: x23 :: x24 :: x25 :: xq :: x27 :: .int .i64 cls :: x29 :: x30 :: x31 :: .bool whole :: pv :: []).toArray 82 (0, 0)) • dS pw (.cells #[.int .i64 k, .map (some pt)] 122 (0, 0)) • xR pm U • Row 189 3 pv put.length xs • F) := by
  refine iK func67 ntmps67 ?_
  refine jy O (jy O ?_)
  refine iY [(0, _)] (fun (_ : Unit) => [(3, .int .i64 ((U k).length : Int))]) (fun (_ : Unit) W => V w0 W (dS e (.cells (x0 :: x1 :: .pointer (some ⟨pw, 0, none⟩) :: .map (some pm) :: x4 :: x5 :: x6 :: x7 :: x8 :: x9 :: .bool run :: x11 :: x12 :: wC :: x14 :: x15 :: .bool inn :: x17 :: x18 :: x19 :: x20 :: x21 :: wQ :: x23 :: x24 :: x25 :: xq :: x27 :: .int .i64 cls :: x29 :: x30 :: x31 :: .bool whole :: pv :: []).toArray 82 (0, 0)) • dS pw (.cells #[.int .i64 k, .map (some pt)] 122 (0, 0)) • xR pm U • Row 189 3 pv put.length xs • F)) ji ?_ ?_
  · rintro _ w1 HJ
    dsimp only [List.cons_append, List.nil_append]
    refine aK (bM O (dQ O (bK 16 ah O aT O (gJ bW O (HJ).get.2 O (iZ O (fun h1 => ?_) (fun h1 => ?_))))))
    · (try simp only [aC] at h1)
      have hin := h1
      refine bg (bG O (bg (dQ O (bg (bK 33 ah O bV O (bg (gJ aZ O (HJ).get.2 O (bg (Z (jU ((HJ.f4).aY) aZ O) (bg (Z (iw O O) (iM O O (iZ O (fun h2 => ?_) (fun h2 => ?_))))))))))))))
      · (try simp only [aC] at h2)
        have hno : put.isEmpty = false := by rw [pV]; exact decide_eq_false (by omega)
        refine bg (bG O (bg (dQ O (bg (bK 28 ah O aF O (bg (gJ aP O (HJ).get.2 O (bg (Z (cZ O O) (bg (iZ O (fun h3 => ?_) (fun h3 => ?_))))))))))))
        · (try simp only [aC] at h3)
          have hcl := h3
          refine bg (bG O (bg (dQ O (bg (bK 32 ah O aT O (bg (gJ bW O (HJ).get.2 O (bg (iM O O (bg (iZ O (fun h4 => ?_) (fun h4 => ?_))))))))))))
          · (try simp only [aC] at h4)
            have hwh := h4
            refine bg (bG O (bg (dQ O (bg (bK 0 ah O aX O (bg (bK 10 aJ O aT O (bg (gJ bW O (HJ).get.2 O (bg (iM O O (bg (Z (mD O) (iM O O (gQ O (fun h5 => ?_) (fun h5 => ?_))))))))))))))))
            · (try simp only [aC] at h5)
              have hrn := h5
              refine aA (bG O (Z (dP O O (by omega)) (fV O (bM O (dU O (dF results67 O ?_))))))
              refine ⟨?_, HJ.f4.f4.f4.f4⟩
              congr 1
              unfold rF
              first
                | exact absurd hrn (by decide)
                | (simp [hin]; done)
                | (simp [hin, hno]; done)
                | (simp [hin, hno, hcl]; done)
                | (simp [hin, hno, hcl, hwh]; done)
                | (simp [hin, hno, hcl, hwh, hrn]; done)
            · (try simp only [aC] at h5)
              have hrn := h5
              refine fG (bM O (dU O (dF results67 O ?_)))
              refine ⟨?_, HJ.f4.f4.f4.f4⟩
              congr 1
              unfold rF
              first
                | exact absurd hrn (by decide)
                | (simp [hin]; done)
                | (simp [hin, hno]; done)
                | (simp [hin, hno, hcl]; done)
                | (simp [hin, hno, hcl, hwh]; done)
                | (simp [hin, hno, hcl, hwh, hrn]; done)
          · (try simp only [aC] at h4)
            have hwh := h4
            refine bn (bn (bn (bn (bn (bg (gI O O (bg (Z (mD O) (iM O O (gQ O (fun h6 => ?_) (fun h6 => ?_)))))))))))
            · (try simp only [aC] at h6)
              have hrn := h6
              refine aA (bG O (Z (dP O O (by omega)) (fV O (bM O (dU O (dF results67 O ?_))))))
              refine ⟨?_, HJ.f4.f4.f4.f4⟩
              congr 1
              unfold rF
              first
                | exact absurd hrn (by decide)
                | (simp [hin]; done)
                | (simp [hin, hno]; done)
                | (simp [hin, hno, hcl]; done)
                | (simp [hin, hno, hcl, hwh]; done)
                | (simp [hin, hno, hcl, hwh, hrn]; done)
            · (try simp only [aC] at h6)
              have hrn := h6
              refine fG (bM O (dU O (dF results67 O ?_)))
              refine ⟨?_, HJ.f4.f4.f4.f4⟩
              congr 1
              unfold rF
              first
                | exact absurd hrn (by decide)
                | (simp [hin]; done)
                | (simp [hin, hno]; done)
                | (simp [hin, hno, hcl]; done)
                | (simp [hin, hno, hcl, hwh]; done)
                | (simp [hin, hno, hcl, hwh, hrn]; done)
        · (try simp only [aC] at h3)
          have hcl := h3
          refine bn (bn (bn (bn (bg (gI O O (bg (bG O (bn (bn (bn (bn (bn (bg (gI O O (bg (Z (mD O) (iM O O (gQ O (fun h7 => ?_) (fun h7 => ?_)))))))))))))))))))
          · (try simp only [aC] at h7)
            have hrn := h7
            refine aA (bG O (Z (dP O O (by omega)) (fV O (bM O (dU O (dF results67 O ?_))))))
            refine ⟨?_, HJ.f4.f4.f4.f4⟩
            congr 1
            unfold rF
            first
              | exact absurd hrn (by decide)
              | (simp [hin]; done)
              | (simp [hin, hno]; done)
              | (simp [hin, hno, hcl]; done)
              | (simp [hin, hno, hcl, hwh]; done)
              | (simp [hin, hno, hcl, hwh, hrn]; done)
          · (try simp only [aC] at h7)
            have hrn := h7
            refine fG (bM O (dU O (dF results67 O ?_)))
            refine ⟨?_, HJ.f4.f4.f4.f4⟩
            congr 1
            unfold rF
            first
              | exact absurd hrn (by decide)
              | (simp [hin]; done)
              | (simp [hin, hno]; done)
              | (simp [hin, hno, hcl]; done)
              | (simp [hin, hno, hcl, hwh]; done)
              | (simp [hin, hno, hcl, hwh, hrn]; done)
      · (try simp only [aC] at h2)
        have hno : put.isEmpty = true := by rw [pV]; exact decide_eq_true (by omega)
        refine bn (bn (bn (bn (bn (bn (mV (mV (mV (mV (bn (bn (mV (mV (mV (mV (mV (bn (bn (gI O O (iy (oD (fG (bM O (dU O (dF results67 O ?_)))))))))))))))))))))))))
        refine ⟨?_, HJ.f4.f4.f4.f4⟩
        congr 1
        unfold rF
        first
          | exact absurd hrn (by decide)
          | (simp [hin]; done)
          | (simp [hin, hno]; done)
          | (simp [hin, hno, hcl]; done)
          | (simp [hin, hno, hcl, hwh]; done)
          | (simp [hin, hno, hcl, hwh, hrn]; done)
    · (try simp only [aC] at h1)
      have hin := h1
      refine bn (bn (bn (bn (bn (bn (gI O O (bG O (bn (bn (bn (bn (bn (bn (mV (mV (mV (mV (bn (bn (mV (mV (mV (mV (mV (bn (bn (gI O O (iy (oD (fG (bM O (dU O ?_))))))))))))))))))))))))))))))))
      refine dF results67 O ?_
      refine ⟨?_, HJ.f4.f4.f4.f4⟩
      congr 1
      unfold rF
      first
        | exact absurd hrn (by decide)
        | (simp [hin]; done)
        | (simp [hin, hno]; done)
        | (simp [hin, hno, hcl]; done)
        | (simp [hin, hno, hcl, hwh]; done)
        | (simp [hin, hno, hcl, hwh, hrn]; done)
  · skip
    refine aK ?_
    obtain ⟨D, P, hD1, hD2, HU⟩ := (H.f3).YV
    have QZ := HU.drew
    have mG := V.kp (QZ.f5.f5.f5.f5.f5)
    refine yY [4, 9, 12, 13] mG O (jW 0 O mG O (kV 1 O mG O (iJ 2 O mG 0 ah O aX O (iJ 3 O mG 3 aJ O sizeOf75 O (kK 4 O mG (fun W hW => kQ kT O ((Kp.h hW).f3).get.2 O) (jW 5 O mG O (kV 6 O mG O (iJ 7 O mG 0 ah O aX O (iJ 8 O mG 2 aJ O sizeOf74 O (kK 9 O mG (fun W hW => kQ kS O ((Kp.h hW).f3).get.2 O) (kV 10 O mG O (iJ 11 O mG 0 fK O aF O (kK 12 O mG (fun W hW => kQ aP O ((Kp.h hW).f4).get.2 O) (kK 13 O mG (fun W hW => Jq (Og ((Kp.h hW)) kT aP zeroValue184 O O) (SK D P k)) (jQ 14 O mG (fun _ => dY O) (sK (aW (bM O (Z (PY underlying184 O O) (gQ O (fun h8 => ?_) (fun h8 => ?_)))))))))))))))))))))
    · (try simp only [aC] at h8)
      have hmem := OZ h8
      rw [OI hmem]
      have HF := QZ.f2
      rw [sD hmem] at HF
      have HF2 := HF.flat
      refine aA (bG O (dX O func120 (LK HF2) ?_))
      rintro _ w2 ⟨rfl, H2⟩
      have Ua := H2.f2.f2
      have RV := V.of_eq Ua (by rw [← dB, ← sD hmem])
      have Ho5 := RV.f2
      have Hc6 := V.BM hD1 hD2 Ho5
      refine dL O (bD ?_)
      refine cO (()) ?_ ?_ ?_
      · exact (Sub.eP O (by first | (rw [hD2 _ hnm]; rfl) | (simp; done)) (Sub.nil _))
      · exact ji
      · (try dsimp only)
        first | done | exact Hc6.f4.f2.f4.f4
    · (try simp only [aC] at h8)
      have hnm := MG h8
      have VX := QZ.f2.f2
      have VY := V.BM hD1 hD2 VX
      refine bY ?_
      refine cO (()) ?_ ?_ ?_
      · exact (Sub.eP O (by first | (rw [hD2 _ hnm]; rfl) | (simp; done)) (Sub.nil _))
      · exact ji
      · (try dsimp only)
        first | done | exact VY.f4.f2.f4.f4
theorem zU {x0 x2 x3 x4 x5 x6 x7 x8 x9 x10 x12 wC x14 x15 x16 x17 x18 x19 x20 x21 wQ x23 x24 x25 xq x27 x28 x29 x30 x31 x32 yc : Value} (H : V w0 w (dS e (.cells (x0 :: .pointer (some ⟨pr, 0, none⟩) :: x2 :: x3 :: x4 :: x5 :: x6 :: x7 :: x8 :: x9 :: x10 :: .pointer (some ⟨ph, 0, none⟩) :: x12 :: wC :: x14 :: x15 :: x16 :: x17 :: x18 :: x19 :: x20 :: x21 :: wQ :: x23 :: x24 :: x25 :: xq :: x27 :: x28 :: x29 :: x30 :: x31 :: x32 :: yc :: []).toArray 82 (0, 0)) • jc pr E a • F)) : ig prog 33 #[.pointer (some ⟨e, 0, none⟩)] w fun v' w' =>
  ∃ us, V w0 w' (Row 22 1 v' E.length us • F9 21 .i32 us (yw E a) • dS e (.cells (x0 :: .pointer (some ⟨pr, 0, none⟩) :: x2 :: x3 :: x4 :: x5 :: x6 :: x7 :: x8 :: x9 :: x10 :: .pointer (some ⟨ph, 0, none⟩) :: x12 :: wC :: x14 :: x15 :: x16 :: x17 :: x18 :: x19 :: x20 :: x21 :: wQ :: x23 :: x24 :: x25 :: xq :: x27 :: x28 :: x29 :: x30 :: x31 :: x32 :: yc :: []).toArray 82 (0, 0)) • jc pr E a • F) := by
 obtain ⟨hE1, hE2, hE3⟩ := Qi H.swap
 refine iK func33 ntmps33 ?_
 refine jy O (aK (bM O (dX O func65 (Bj H) ?_)))
 rintro _ _ ⟨rfl, rfl⟩
 refine iy (oD (fG (jy O (bM O (dQ O (bK 0 ah O aX O (bK 1 aJ O sizeOf73 O (gJ uX O (H).get.2 O (dX O func85 (AA H.f2) ?_)))))))))
 rintro _ w2 ⟨pc2, rfl, H2⟩
 refine tX O (bM O (dX O func86 (LG H2) ?_))
 rintro _ _ ⟨rfl, rfl⟩
 refine bG O (iy (aV ?_))
 obtain ⟨R4, hR4, HR4⟩ := V.abL (H2)
 refine dJ [(4, _), (17, _)] (fun (⟨i, u⟩ : Nat × Value) => [(3, u), (18, .int .i64 (i : Int))]) (fun (⟨i, u⟩ : Nat × Value) W => i ≤ E.length ∧ ∃ us, V w0 W (Row 22 1 u i us • F9 21 .i32 us ((yw E a).take i) • jc pc2 E (Xz E.length a i) • R4)) (fun (⟨i, u⟩ : Nat × Value) => E.length - i) ((0, .slice none 0 0)) mW mW ⟨by omega, [], HR4.Xy.jk none⟩ ?_
 rintro ⟨i, u⟩ w5 ⟨hi, us, HL⟩
 dsimp only [List.cons_append, List.nil_append]
 refine gW (Z (fF O O) (qW (bI O (fun h1 => ?_) (fun h1 => ?_))))
 ·(try simp only [aC] at h1)
  refine fG (aK (aV (bM O (fV O (bM O (bG O (Z (xY O O) (dX O func87 (FY HL.f3) ?_))))))))
  rintro _ w6 ⟨u6, rfl, H6⟩
  have hne : ¬ E.length = 0 := by omega
  have HX := H6
  simp only [if_neg hne] at HX
  refine bG O (rW O O (rW O O (dL O (fV O (aA (jr O O (jL (kH (vs := [_]) HX jh dV zeroValue22 O O O (by decide) (bf (by first | rfl | exact Rd.one ((HX).aY)) bP)) ?_)))))))
  rintro l7 w7 H7
  refine jL (gZ H7.f4 jh aag O O O ((H7).aY) (bf (by first | rfl | exact Rd.one ((H7.f2).aY)) bP) (by omega) (by omega)) ?_
  rintro l8 w8 H8
  have Hd9 := H8.f2.right
  refine dL O (bD (aG (aW (aA (Z (dP O O (by omega)) (bG O (bD ?_)))))))
  have HS := (Hd9.f3.f2.f3.f4).BQ.f2
  refine bZ ((i + 1, l8)) ?_ ?_ ?_ ?_
  ·exact mW
  ·exact mW
  ·(try dsimp only)
   first | done | exact ⟨by omega, _, by rw [IY (d := []) (by rw [KO]; omega), Uz (by omega) (by omega), ← Uy]; exact HS⟩
  ·(try dsimp only); omega
 ·(try simp only [aC] at h1)
  refine bQ (aB ?_)
  obtain rfl : i = E.length := by omega
  have HK := HL
  rw [List.take_of_length_le (by rw [KO]; exact Nat.le_refl _)] at HK
  subst hR4
  refine aB (aU (aW (bM O (dU O (dF results33 O ?_)))))
  exact ⟨_, HK.f3.right.f3.f4.f4.f4⟩
end
def Q5 (s : dN) (u ks sv : Value) : List Value := [u, .int .i64 s.c.pt, .int .i64 s.c.mark, .int .i64 s.c.mode, .bool s.c.over, .bool s.given, .bool s.minus, .int .i64 s.arg, .int .i64 s.Ae, .int .i64 s.U8, .int .i64 s.U9, ks, .int .i64 s.c.place, sv, .int .i64 s.Wh, .int .i64 s.c.res, .int .i64 s.su]
section
variable {w0 w : World} {F : HP} {e p ph pw pt pr pm pb : Nat} {s : dN} {k x place : Int} {hl : List qQ} {base most cls : Int} {tx : Int → Option ByteArray} {v pv : Value} {U : Int → List (List jq)} {L : List Int} {pnt mk : Int}
theorem FP {x1 x2 x3 x4 x5 x6 x7 x8 x9 x10 x12 wC x14 x15 x16 x17 x18 x19 x20 x21 wQ x23 x24 x25 xq x27 x28 x29 x30 x31 x32 yc : Value} (H : V w0 w (dS e (.cells (.pointer (some ⟨pb, 0, none⟩) :: x1 :: x2 :: x3 :: x4 :: x5 :: x6 :: x7 :: x8 :: x9 :: x10 :: .pointer (some ⟨ph, 0, none⟩) :: x12 :: wC :: x14 :: x15 :: x16 :: x17 :: x18 :: x19 :: x20 :: x21 :: wQ :: x23 :: x24 :: x25 :: xq :: x27 :: x28 :: x29 :: x30 :: x31 :: x32 :: yc :: []).toArray 82 (0, 0)) • jH pb L pnt mk • F)) : ig prog 28 #[.pointer (some ⟨e, 0, none⟩)] w fun v' w' =>
  ∃ u, v' = .agg (uq u pnt mk) ∧ V w0 w' (lD 21 .i32 u L • dS e (.cells (.pointer (some ⟨pb, 0, none⟩) :: x1 :: x2 :: x3 :: x4 :: x5 :: x6 :: x7 :: x8 :: x9 :: x10 :: .pointer (some ⟨ph, 0, none⟩) :: x12 :: wC :: x14 :: x15 :: x16 :: x17 :: x18 :: x19 :: x20 :: x21 :: wQ :: x23 :: x24 :: x25 :: xq :: x27 :: x28 :: x29 :: x30 :: x31 :: x32 :: yc :: []).toArray 82 (0, 0)) • jH pb L pnt mk • F) := by
 refine iK func28 ntmps28 ?_
 refine gW (jL (gK (l := [_, _, _]) H zeroValue46 O) ?_)
 rintro _ w1 ⟨b1, rfl, H1⟩
 refine qW (bM O (dX O func65 (Bj H1.f2) ?_))
 rintro _ _ ⟨rfl, rfl⟩
 refine iy (oD (fG (bM O (dQ O (bK 0 ah O aX O (bK 0 aJ O wS O (gJ rE O (H1.f2).get.2 O (dX O func79 (DW H1.f3) ?_))))))))
 rintro _ w3 ⟨u3, rfl, H3⟩
 refine aO (dw 0 (l' := [_, _, _]) (us := [_, _, _]) H3.f3 sizeOf46 O O O (bf (by first | rfl | exact Rd.one ((H3).aY)) (aH (aH bP))) O O) ?_
 rintro _ w4 H4
 refine ZH ?_
 refine qY (.inl O) (Lh results28 O jR O (by rw [Vu]; rfl) (H4).get.2) ?_
 exact ⟨_, O, H4.right.f2.f3.f3⟩
theorem wM {x0 x1 x3 x4 x5 x6 x7 x8 x9 x10 x12 wC x14 x15 x16 x17 x18 x19 x20 x21 wQ x23 x24 x25 xq x27 x28 x29 x30 x31 x32 yc : Value} (H : V w0 w (dS e (.cells (x0 :: x1 :: .pointer (some ⟨pw, 0, none⟩) :: x3 :: x4 :: x5 :: x6 :: x7 :: x8 :: x9 :: x10 :: .pointer (some ⟨ph, 0, none⟩) :: x12 :: wC :: x14 :: x15 :: x16 :: x17 :: x18 :: x19 :: x20 :: x21 :: wQ :: x23 :: x24 :: x25 :: xq :: x27 :: x28 :: x29 :: x30 :: x31 :: x32 :: yc :: []).toArray 82 (0, 0)) • dS pw (.cells #[.int .i64 place, .map (some pt)] 122 (0, 0)) • gy rQ pt (tZ tx) • iH ph hl base most • F)) :
    ig prog 66 #[.pointer (some ⟨e, 0, none⟩)] w fun v' w' => V w0 w' (Row 133 2 v' (zL hl tx place).length ((zL hl tx place).flatMap Td) •
      dS e (.cells (x0 :: x1 :: .pointer (some ⟨pw, 0, none⟩) :: x3 :: x4 :: x5 :: x6 :: x7 :: x8 :: x9 :: x10 :: .pointer (some ⟨ph, 0, none⟩) :: x12 :: wC :: x14 :: x15 :: x16 :: x17 :: x18 :: x19 :: x20 :: x21 :: wQ :: x23 :: x24 :: x25 :: xq :: x27 :: x28 :: x29 :: x30 :: x31 :: x32 :: yc :: []).toArray 82 (0, 0)) • dS pw (.cells #[.int .i64 place, .map (some pt)] 122 (0, 0)) • gy rQ pt (tZ tx) • iH ph hl base most • F) := by
  have hb : hl.length ≤ 4096 := by obtain ⟨v, h, _⟩ := H.r4.hist; exact h.1
  refine iK func66 ntmps66 ?_
  refine jy O (jy O (bM O (dQ O (bK 11 ah O sizeOf78 O (gJ kC O (H).get.2 O (dX O func117 (oW H.f4) ?_))))))
  rintro _ w1 ⟨rfl, H1⟩
  refine tX O (bM O (bG O (iy (aV ?_))))
  refine dJ [(0, _), (4, _), (11, _)] (fun (⟨i, u⟩ : Nat × Value) => [(3, u), (12, .int .i64 (i : Int))]) (fun (⟨i, u⟩ : Nat × Value) W => i ≤ hl.length ∧ V w0 W (Row 133 2 u (qR hl tx place i).length ((qR hl tx place i).flatMap Td) • dS e (.cells (x0 :: x1 :: .pointer (some ⟨pw, 0, none⟩) :: x3 :: x4 :: x5 :: x6 :: x7 :: x8 :: x9 :: x10 :: .pointer (some ⟨ph, 0, none⟩) :: x12 :: wC :: x14 :: x15 :: x16 :: x17 :: x18 :: x19 :: x20 :: x21 :: wQ :: x23 :: x24 :: x25 :: xq :: x27 :: x28 :: x29 :: x30 :: x31 :: x32 :: yc :: []).toArray 82 (0, 0)) • dS pw (.cells #[.int .i64 place, .map (some pt)] 122 (0, 0)) • gy rQ pt (tZ tx) • iH ph hl base most • F)) (fun (⟨i, u⟩ : Nat × Value) => hl.length - i) ((0, .slice none 0 0)) qC mW ⟨by omega, H1.f4.f4.f4.jk none⟩ ?_
  rintro ⟨i, u⟩ w2 ⟨hi, HL⟩
  dsimp only [List.cons_append, List.nil_append]
  refine gW (Z (fF O O) (qW (bI O (fun h1 => ?_) (fun h1 => ?_))))
  · (try simp only [aC] at h1)
    refine fG (aK (aV (bM O (tX O ?_))))
    have hLen := vO hl tx place i
    refine aA (jr O O (dQ O (bK 0 ah O aX O (bK 2 aJ O sizeOf74 O (gJ kS O (HL.f2).get.2 O (dQ O (bK 0 fK O aF O (gJ aP O (HL.f3).get.2 O (Z (jv O O) (iZ O (fun h2 => ?_) (fun h2 => ?_)))))))))))
    · (try simp only [aC] at h2)
      have hpl := h2
      refine bg (bG O (bg (bG O (bg (dX O func118 (yS HL.f5.f5.f5.f5) ?_)))))
      rintro _ w3 ⟨rfl, H3⟩
      refine bg (bG O (bg (bG O (bg (dX O func119 (Em H3.f4.f2) ?_)))))
      rintro _ w4 ⟨rfl, H4⟩
      refine bg (Z (J8 O O) (iM O O (gQ O (fun h3 => ?_) (fun h3 => ?_))))
      · (try simp only [aC] at h3)
        have hsv := O4 (hl := hl) (tx := tx) (place := place) (i := i) (by unfold BK; rw [decide_eq_true hpl]; simpa using h3)
        refine aA (jr O O (jr O O (dX O func118 (yS H4.f2.f4.f4.f4) ?_)))
        rintro _ w5 ⟨rfl, H5⟩
        refine Z (eX (zl := [.int .i64 0, .string .empty]) (pl := [(0, 1), (1, 1)]) [_, _] underlying133 zeroValue133 O (fun w => by kernel_rfl) O (.on (.on .nil)) O) ?_
        refine jL (wP H5 underlying48 sizeOf133 zeroValue133 O O O (by decide) (by decide)) ?_
        rintro l6 w6 H6
        refine jL (gZ H6.f6 underlying48 XA O O O ((H6).aY) (aH (aH bP)) (by omega) (by omega)) ?_
        rintro l7 w7 H7
        have Hd8 := H7.f2.right
        refine dL O (bD (aG (aW (aA (Z (dP O O (by omega)) (bG O (bD ?_)))))))
        have hLen := vO hl tx place i
        refine bZ ((i + 1, l7)) ?_ ?_ ?_ ?_
        · exact mW
        · exact qC
        · (try dsimp only)
          first | done | exact ⟨by omega, by first | (rw [hsv, List.length_append, List.flatMap_append]; exact Hd8.f5.f5.f5.f5.f5) | (rw [hsv]; exact Hd8.f5.f5.f5.f5.f5)⟩
        · (try dsimp only); omega
      · (try simp only [aC] at h3)
        have hsv := IX (hl := hl) (tx := tx) (place := place) (i := i) (by unfold BK; rw [decide_eq_true hpl]; simpa using h3)
        refine bY (aG (aW (aA (Z (dP O O (by omega)) (bG O (bD ?_))))))
        have hLen := vO hl tx place i
        refine bZ ((i + 1, u)) ?_ ?_ ?_ ?_
        · exact mW
        · exact qC
        · (try dsimp only)
          first | done | exact ⟨by omega, by first | (rw [hsv, List.length_append, List.flatMap_append]; exact H4.f2.f4.f4.f4.f5) | (rw [hsv]; exact H4.f2.f4.f4.f4.f5)⟩
        · (try dsimp only); omega
    · (try simp only [aC] at h2)
      have hsv := IX (hl := hl) (tx := tx) (place := place) (i := i) (by unfold BK; rw [decide_eq_false (by simpa using h2)]; rfl)
      refine bn (bn (bn (bn (bn (bn (bn (gI O O (iy (oD (bY (aG (aW (aA (Z (dP O O (by omega)) (bG O (bD ?_))))))))))))))))
      have hLen := vO hl tx place i
      refine bZ ((i + 1, u)) ?_ ?_ ?_ ?_
      · exact mW
      · exact qC
      · (try dsimp only)
        first | done | exact ⟨by omega, by first | (rw [hsv, List.length_append, List.flatMap_append]; exact HL.f5.f5.f5.f5.f5) | (rw [hsv]; exact HL.f5.f5.f5.f5.f5)⟩
      · (try dsimp only); omega
  · (try simp only [aC] at h1)
    refine bQ (aB ?_)
    obtain rfl : i = hl.length := by omega
    refine aB (aU (aW (aK (aK ?_))))
    have hLen := vO hl tx place hl.length
    refine aA (nZ O O (bK 0 ah O aX O (bK 2 aJ O sizeOf74 O (gJ kS O (HL.f2).get.2 O (dQ O (bK 0 fK O aF O (gJ aP O (HL.f3).get.2 O (bG O (Z (jv O O) (gQ O (fun h4 => ?_) (fun h4 => ?_)))))))))))
    · (try simp only [aC] at h4)
      have hsv : zL hl tx place = qR hl tx place hl.length ++ [((hl.length : Int), jS hl tx hl.length)] := by unfold zL; rw [if_pos h4]
      refine aA (jr O O (jr O O (dX O func118 (yS HL.f5.f5.f5.f5) ?_)))
      rintro _ w9 ⟨rfl, H9⟩
      refine Z (eX (zl := [.int .i64 0, .string .empty]) (pl := [(0, 1), (1, 1)]) [_, _] underlying133 zeroValue133 O (fun w => by kernel_rfl) O (.on (.on .nil)) O) ?_
      refine jL (wP H9 underlying48 sizeOf133 zeroValue133 O O O (by decide) (by decide)) ?_
      rintro l10 w10 rD
      refine jL (gZ rD.f6 underlying48 XA O O O ((rD).aY) (aH (aH bP)) (by omega) (by omega)) ?_
      rintro l11 ED rM
      have Jy := rM.f2.right
      refine fV O (bM O (dU O (dF results66 O ?_)))
      first
        | (rw [hsv, List.length_append, List.flatMap_append]; exact Jy.f5.f5.f5.f5.f5)
        | (rw [hsv]; exact Jy.f5.f5.f5.f5.f5)
    · (try simp only [aC] at h4)
      have hsv : zL hl tx place = qR hl tx place hl.length := by unfold zL; rw [if_neg (by simpa using h4), List.append_nil]
      refine fG (bM O (dU O (dF results66 O ?_)))
      first
        | (rw [hsv, List.length_append, List.flatMap_append]; exact HL.f5.f5.f5.f5.f5)
        | (rw [hsv]; exact HL.f5.f5.f5.f5.f5)
theorem UA {u0 u1 u2 u3 u4 u5 u6 u7 u8 u9 ua : Value} (hin : s.inn = true) (H : V w0 w (wG s.inn s.was [u0, u1, u2, u3, u4, u5, u6, u7, u8, u9, ua] • F)) : u6 = .int .i64 s.was.last ∧ u7 = .int .i64 s.was.fr ∧ u8 = .int .i64 s.was.to := by
  rw [hin] at H
  obtain ⟨qb, qr, qw, qt, qm, hu, -⟩ := H.was
  simp only [Oq, List.cons.injEq, and_true] at hu
  exact ⟨hu.2.2.2.2.2.2.1, hu.2.2.2.2.2.2.2.1, hu.2.2.2.2.2.2.2.2.1⟩
set_option maxHeartbeats 1000000 in
theorem MH (H : V w0 w (iC e s • F)) : ig prog 23 #[.pointer (some ⟨e, 0, none⟩)] w fun v w' => ∃ u ks us sv, v = .agg (Q5 s u ks sv).toArray ∧
  V w0 w' (lD 21 .i32 u s.c.L • Row 22 1 ks s.c.E.length us • F9 21 .i32 us (yw s.c.E s.c.at_) • Row 133 2 sv s.saved.length (s.saved.flatMap Td) • iC e s • F) := by
 refine iK func23 ntmps23 ?_
 obtain ⟨yI, yJ, yK, yL, yM, yN, yO, yP, wu, uF, uG, uH, uI, uJ, uK, uM, uN, uO, uP, uQ, iR, dM, lJ, jg⟩ := (H).Ik
 have hU : (s.c.un s.c.place).length ≤ 16384 := by
  obtain ⟨D, P, hD1, hD2, HU⟩ := (jg.f6).YV
  by_cases hm : s.c.place ∈ D
  ·have HF := HU.swap
   rw [sD hm] at HF
   obtain ⟨_, _, _, _, k1, _⟩ := HF.flat.y8
   have := k1.len; simpa using this
  ·rw [hD2 _ hm]; decide
 refine gW (jL (gK (l := [_, _, _, _, _, _, _, _, _, _, _, _, _, _, _, _, _]) jg jC O) ?_)
 rintro _ w2 ⟨b2, rfl, H2⟩
 refine qW (bM O (dX O func65 (Bj H2.f2) ?_))
 rintro _ _ ⟨rfl, rfl⟩
 refine iy (oD (fG ?_))
 refine iY [(0, _)] (fun (⟨r, q, u, ks, sv, us⟩ : Nat × Nat × Value × Value × Value × List Value) => [(2, .pointer (some ⟨r, 0, none⟩)), (3, .pointer (some ⟨q, 0, none⟩))]) (fun (⟨r, q, u, ks, sv, us⟩ : Nat × Nat × Value × Value × Value × List Value) W => V w0 W (dS q (.cells (u :: .int .i64 s.c.pt :: .int .i64 s.c.mark :: .int .i64 s.c.mode :: .bool s.c.over :: .bool s.given :: .bool s.minus :: .int .i64 s.arg :: .int .i64 s.c.last :: .int .i64 s.c.fr :: .int .i64 s.c.to :: ks :: .int .i64 s.c.place :: sv :: .int .i64 s.Wh :: .int .i64 s.c.res :: .int .i64 s.su :: []).toArray 50 (0, 0)) • lD 21 .i32 u s.c.L • Row 22 1 ks s.c.E.length us • F9 21 .i32 us (yw s.c.E s.c.at_) • Row 133 2 sv s.saved.length (s.saved.flatMap Td) • dS e (.cells (.pointer (some ⟨yI, 0, none⟩) :: .pointer (some ⟨yJ, 0, none⟩) :: .pointer (some ⟨yK, 0, none⟩) :: .map (some yM) :: .int .i64 s.c.mode :: .bool s.c.over :: .int .i64 s.c.last :: .int .i64 s.c.fr :: .int .i64 s.c.to :: .int .i64 s.c.res :: .bool s.c.run :: .pointer (some ⟨yN, 0, none⟩) :: .pointer (some ⟨yO, 0, none⟩) :: .bool s.given :: .bool s.minus :: .int .i64 s.arg :: .bool s.inn :: uF :: uG :: uH :: uI :: uJ :: uK :: uM :: uN :: uO :: uP :: uQ :: .int .i64 s.cls :: .bool s.killed :: .bool s.lT :: .bool s.argues :: .bool s.whole :: yP :: []).toArray 82 (0, 0)) • jH yI s.c.L s.c.pt s.c.mark • jc yJ s.c.E s.c.at_ • dS yK (.cells #[.int .i64 s.c.place, .map (some yL)] 122 (0, 0)) • gy rQ yL (tZ s.c.tx) • xR yM s.c.un • iH yN s.hl s.base s.most • dS yO (.cells #[.int .i64 s.su] 161 (0, 0)) • Row 189 3 yP s.put.length (wu.flatMap eG.enc) • kW wu • wG s.inn s.was [uF, uG, uH, uI, uJ, uK, uM, uN, uO, uP, uQ] • dS r (.cells (.slice none 0 0 :: .int .i64 0 :: .int .i64 0 :: .int .i64 0 :: .bool false :: .bool false :: .bool false :: .int .i64 0 :: .int .i64 0 :: .int .i64 0 :: .int .i64 0 :: .slice none 0 0 :: .int .i64 0 :: .slice none 0 0 :: .int .i64 0 :: .int .i64 0 :: .int .i64 0 :: []).toArray 50 (0, 0)) • F)) ji ?_ ?_
 ·rintro ⟨r, q, u, ks, sv, us⟩ w4 HJ
  dsimp only [List.cons_append, List.nil_append]
  refine aK (bM O (dQ O (bK 16 ah O aT O (gJ bW O (HJ.f6).get.2 O (gQ O (fun h1 => ?_) (fun h1 => ?_))))))
  ·(try simp only [aC] at h1)
   have hin := h1
   obtain ⟨rfl, rfl, rfl⟩ := UA hin HJ.f16
   have acS := HJ.drew
   have vP := V.kp (acS.right.f16.f16.f16.f16.f16.f16.f16.f16.f16.f16.f16.f16.f16.f16.f16.f16)
   refine yY [4, 9, 14] vP O (jW 0 O vP O (kV 1 O vP O (iJ 2 O vP 17 ah O aX O (iJ 3 O vP 6 aJ O aF O (kK 4 O vP (fun W hW => kQ aP O ((Kp.h hW).f5).get.2 O) (jW 5 O vP O (kV 6 O vP O (iJ 7 O vP 17 ah O aX O (iJ 8 O vP 7 aJ O aF O (kK 9 O vP (fun W hW => kQ aP O ((Kp.h hW).f5).get.2 O) (jW 10 O vP O (kV 11 O vP O (iJ 12 O vP 17 ah O aX O (iJ 13 O vP 8 aJ O aF O (kK 14 O vP (fun W hW => kQ aP O ((Kp.h hW).f5).get.2 O) (iJ 15 O vP 8 iQ O aF O ?_))))))))))))))))
   refine gX 16 O (by kernel_rfl) (aay 8 acS aF) ?_
   rintro _ w5 H5
   have AQ := V.kp (H5.right.f16.f16.f16.f16.f16.f16.f16.f16.f16.f16.f16.f16.f16.f16.f16.f16)
   refine eU AQ (fun W hW => (Kp.h hW).f16.f16.f16.f16.f16.f16.f16.f16.f16.f16.f16.f16.f16.f16.f16.f16) ?_
   refine iJ 17 O AQ 9 iQ O aF O ?_
   refine gX 18 O (by kernel_rfl) (aay 9 H5 aF) ?_
   rintro _ w6 H6
   have Dj := V.kp (H6.f17.f17.f17.f17.f17.f17.f17.f17.f17.f17.f17.f17.f17.f17.f17.f17.f17)
   refine eU Dj (fun W hW => (Kp.h hW).right.f16.f16.f16.f16.f16.f16.f16.f16.f16.f16.f16.f16.f16.f16.f16.f16) ?_
   refine iJ 19 O Dj 10 iQ O aF O ?_
   refine gX 20 O (by kernel_rfl) (aay 10 H6 aF) ?_
   rintro _ w7 H7
   have Jw := V.kp (H7.f17.f17.f17.f17.f17.f17.f17.f17.f17.f17.f17.f17.f17.f17.f17.f17.f17)
   refine iD Jw (by kernel_rfl) ?_
   refine sK (aW (gW (Z (fP iQ O sizeOf50 O O (H7).get.2) (aO (dw 0 (l' := [_, _, _, _, _, _, _, _, _, _, _, _, _, _, _, _, _]) (us := [_, _, _, _, _, _, _, _, _, _, _, _, _, _, _, _, _]) H7.f17 sizeOf50 O O O (bf (by first | rfl | exact Rd.one ((H7.f2).aY)) (aH (aH (aH (aH (aH (aH (aH (aH (aH (aH (bf (by first | rfl | exact Rd.one ((H7.f3).aY)) (aH (bf (by first | rfl | exact Rd.one ((H7.f5).aY)) (aH (aH (aH bP))))))))))))))))) O O) ?_))))
   rintro _ w8 H8
   refine ZH ?_
   refine qY (.inl O) (Lh results23 O iQ O (by rw [aah]; rfl) (H8).get.2) ?_
   have V5 := H8.f17.f17.f17.f17.f17.f17.f17.f17.f17.f17.f17
   have V6 := V.je (s := s) iR dM V5
   refine ⟨u, ks, us, sv, ?_, V6.f2.right.f2.right.f5.f5.f5.f5⟩
   unfold Q5 dN.Ae dN.U8 dN.U9
   rw [hin]
   rfl
  ·(try simp only [aC] at h1)
   have hin := h1
   refine fG (gW (Z (fP iQ O sizeOf50 O O (HJ).get.2) (aO (dw 0 (l' := [_, _, _, _, _, _, _, _, _, _, _, _, _, _, _, _, _]) (us := [_, _, _, _, _, _, _, _, _, _, _, _, _, _, _, _, _]) HJ.f17 sizeOf50 O O O (bf (by first | rfl | exact Rd.one ((HJ.f2).aY)) (aH (aH (aH (aH (aH (aH (aH (aH (aH (aH (bf (by first | rfl | exact Rd.one ((HJ.f3).aY)) (aH (bf (by first | rfl | exact Rd.one ((HJ.f5).aY)) (aH (aH (aH bP))))))))))))))))) O O) ?_)))
   rintro _ w12 vX
   refine ZH ?_
   refine qY (.inl O) (Lh results23 O iQ O (by rw [aah]; rfl) (vX).get.2) ?_
   have aaQ := vX.f17.f17.f17.f17.f17.f17.f17.f17.f17.f17.f17
   have aaR := V.je (s := s) iR dM aaQ
   refine ⟨u, ks, us, sv, ?_, aaR.f2.right.f2.right.f5.f5.f5.f5⟩
   unfold Q5 dN.Ae dN.U8 dN.U9
   rw [hin]
   rfl
 ·skip
  have XB := H2.drew
  have fC := V.kp (XB.f7.right.f7.right.f10.f10.f10.f10.f10.f10.f10.f10.f10.f10)
  refine yY [6, 11, 15, 19, 23, 28, 33, 38, 45, 48, 57, 61] fC O (jW 0 O fC O (jW 2 O fC O (kV 3 O fC O (iJ 4 O fC 0 ah O aX O (iJ 5 O fC 4 aJ O aF O (kK 6 O fC (fun W hW => kQ aP O ((Kp.h hW).f2).get.2 O) (jW 7 O fC O (kV 8 O fC O (iJ 9 O fC 0 ah O aX O (iJ 10 O fC 5 aJ O aT O (kK 11 O fC (fun W hW => kQ bW O ((Kp.h hW).f2).get.2 O) (jW 12 O fC O (kV 13 O fC O (iJ 14 O fC 13 ah O aT O (kK 15 O fC (fun W hW => kQ bW O ((Kp.h hW).f2).get.2 O) (jW 16 O fC O (kV 17 O fC O (iJ 18 O fC 14 ah O aT O (kK 19 O fC (fun W hW => kQ bW O ((Kp.h hW).f2).get.2 O) (jW 20 O fC O (kV 21 O fC O (iJ 22 O fC 15 ah O aF O (kK 23 O fC (fun W hW => kQ aP O ((Kp.h hW).f2).get.2 O) (jW 24 O fC O (kV 25 O fC O (iJ 26 O fC 0 ah O aX O (iJ 27 O fC 6 aJ O aF O (kK 28 O fC (fun W hW => kQ aP O ((Kp.h hW).f2).get.2 O) (jW 29 O fC O (kV 30 O fC O (iJ 31 O fC 0 ah O aX O (iJ 32 O fC 7 aJ O aF O (kK 33 O fC (fun W hW => kQ aP O ((Kp.h hW).f2).get.2 O) (jW 34 O fC O (kV 35 O fC O (iJ 36 O fC 0 ah O aX O (iJ 37 O fC 8 aJ O aF O (kK 38 O fC (fun W hW => kQ aP O ((Kp.h hW).f2).get.2 O) (jW 39 O fC O ?_)))))))))))))))))))))))))))))))))))))))
  refine jW 41 O fC O (kV 42 O fC O (iJ 43 O fC 0 ah O aX O (iJ 44 O fC 2 aJ O sizeOf74 O (kK 45 O fC (fun W hW => kQ kS O ((Kp.h hW).f2).get.2 O) (kV 46 O fC O (iJ 47 O fC 0 fK O aF O (kK 48 O fC (fun W hW => kQ aP O ((Kp.h hW).f5).get.2 O) (jW 49 O fC O (jW 51 O fC O (jW 53 O fC O (kV 54 O fC O (iJ 55 O fC 0 ah O aX O (iJ 56 O fC 9 aJ O aF O (kK 57 O fC (fun W hW => kQ aP O ((Kp.h hW).f2).get.2 O) (jW 58 O fC O (kV 59 O fC O (iJ 60 O fC 12 ah O sizeOf79 O (kK 61 O fC (fun W hW => kQ underlying79 O ((Kp.h hW).f2).get.2 O) ?_))))))))))))))))))
  refine yB (i := 1) (j := 64) (by kernel_rfl) ?_ ?_
  ·skip
   refine kE 1 O (by kernel_rfl) (sQ (um O func28 O O) (FP XB.f3.f3)) (kM O) ?_
   rintro _ w16 ⟨u16, rfl, zB⟩
   have D7 := V.kp (zB.f8.right.f8.right.f11.f11.f11.f11.f11.f11.f11.f11.f11.f11.f11)
   refine eU D7 (fun W hW => (Kp.h hW).right.f10.f10.f10.f10.f10.f10.f10.f9.f9.f10) ?_
   refine yB (i := 40) (j := 64) (by kernel_rfl) ?_ ?_
   ·skip
    refine kE 40 O (by kernel_rfl) (sQ (um O func33 O O) (zU zB.f5.f3)) (kM O) ?_
    rintro u17 ZY ⟨afQ, Jo⟩
    have FH := V.kp (Jo.f10.right.f10.right.f13.f13.f13.f13.f13.f13.f13.f13.f13.f13.f13.f13.f13)
    refine eU FH (fun W hW => (Kp.h hW).right.right.f11.f11.f11.f11.f11.f11.f8.f11.f11.f10.f11) ?_
    refine yB (i := 50) (j := 64) (by kernel_rfl) ?_ ?_
    ·skip
     refine kE 50 O (by kernel_rfl) (sQ (um O func66 O O) (wM Jo.f11.f10.f10.f6)) (kM O) ?_
     rintro u18 YE DT
     have VJ := V.kp (DT.f12.right.f15.f15.f15.f15.f15.f15.f15.f15.f15.f15.f15.f15.f15.f15.f15)
     refine eU VJ (fun W hW => (Kp.h hW).right.f4.right.f13.f13.f13.f13.f7.f7.f13.f13.f13.f13.f11.f13.f13) ?_
     refine yB (i := 52) (j := 64) (by kernel_rfl) ?_ ?_
     ·skip
      refine kE 52 O (by kernel_rfl) (sQ (um O func67 O O) (rH DT.f14.f13.f5.f5 hU)) (kM O) ?_
      rintro _ w19 ⟨rfl, EO⟩
      have Wq := V.kp (EO.f16.f16.f16.f16.f16.f16.f16.f16.f16.f16.f16.f16.f16.f16.f16.f16)
      refine eU Wq (fun W hW => (Kp.h hW).f3.right.f15.f15.f5.f15.f15.f15.f15.f15.f15.f15.f15.f15.f14.f14.f15) ?_
      refine yB (i := 62) (j := 64) (by kernel_rfl) ?_ ?_
      ·skip
       refine kE 62 O (by kernel_rfl) (sQ (um O func68 O O) (nR EO.f14)) (kM O) ?_
       rintro _ _ ⟨rfl, rfl⟩
       have D9 := V.kp (EO.f16.f16.f16.f16.f16.f16.f16.f16.f16.f16.f16.f16.f16.f16.f16.f16)
       refine eU D9 (fun W hW => (Kp.h hW).f16.f16.f16.f16.f16.f16.f16.f16.f16.f16.f16.f16.f16.f16.f16.f16) ?_
       refine jQ 63 O D9 (fun _ => eX (zl := [.slice none 0 0, .int .i64 0, .int .i64 0, .int .i64 0, .bool false, .bool false, .bool false, .int .i64 0, .int .i64 0, .int .i64 0, .int .i64 0, .slice none 0 0, .int .i64 0, .slice none 0 0, .int .i64 0, .int .i64 0, .int .i64 0]) (pl := [(0, 3), (3, 1), (4, 1), (5, 1), (6, 1), (7, 1), (8, 1), (9, 1), (10, 1), (11, 1), (12, 1), (13, 1), (14, 1), (15, 1), (16, 1)]) [_, _, _, _, _, _, _, _, _, _, _, _, _, _, _, _, _] iQ jC O (fun w => by kernel_rfl) O (.agg (us := [_, _, _]) (zs := [.slice none 0 0, .int .i64 0, .int .i64 0]) O O (.on (.on (.on (.on (.on (.on (.on (.on (.one (Rd.one ((EO.f8).aY)) (.on (.one (Rd.one ((EO.f5).aY)) (.on (.on (.on .nil))))))))))))))) O) ?_
       refine oV 64 O (gK (l := [_, _, _, _, _, _, _, _, _, _, _, _, _, _, _, _, _]) EO jC O) ?_
       rintro _ w21 ⟨b21, rfl, Jz⟩
       have XC := V.kp (Jz.f17.f17.f17.f17.f17.f17.f17.f17.f17.f17.f17.f17.f17.f17.f17.f17.f17)
       refine eU XC (fun W hW => (Kp.h hW).right.f16.f16.f16.f16.f16.f16.f16.f16.f16.f16.f16.f16.f16.f16.f16.f16) ?_
       refine gX 65 O (by kernel_rfl) (dw 0 (l' := [_, _, _, _, _, _, _, _, _, _, _, _, _, _, _, _, _]) (us := [_, _, _, _, _, _, _, _, _, _, _, _, _, _, _, _, _]) Jz sizeOf50 O O O (bf (by first | rfl | exact Rd.one ((Jz.f12).aY)) (aH (aH (aH (aH (aH (aH (aH (aH (aH (aH (bf (by first | rfl | exact Rd.one ((Jz.f9).aY)) (aH (bf (by first | rfl | exact Rd.one ((Jz.f6).aY)) (aH (aH (aH bP))))))))))))))))) O O) ?_
       rintro _ w22 Qe
       have Oj := V.kp (Qe.f17.f17.f17.f17.f17.f17.f17.f17.f17.f17.f17.f17.f17.f17.f17.f17.f17)
       refine iD Oj (by kernel_rfl) ?_
       refine sK ?_
       refine cO (_, _, _, _, _, _) mW ji (by (try dsimp only); exact Qe.f14.f17.f17.f8.f17.f12.f10.f12.f11.f15.f17.f13.f14.f16.f16.f17.f17)
      ·skip
       refine kE 64 O (by kernel_rfl) (gK (l := [_, _, _, _, _, _, _, _, _, _, _, _, _, _, _, _, _]) EO jC O) (kM O) ?_
       rintro _ w23 ⟨b23, rfl, JA⟩
       have KC := V.kp (JA.f17.f17.f17.f17.f17.f17.f17.f17.f17.f17.f17.f17.f17.f17.f17.f17.f17)
       refine eU KC (fun W hW => (Kp.h hW).right.f16.f16.f16.f16.f16.f16.f16.f16.f16.f16.f16.f16.f16.f16.f16.f16) ?_
       refine oV 62 O (zx O func68 (nR JA.f15)) ?_
       rintro _ _ ⟨rfl, rfl⟩
       have IK := V.kp (JA.f17.f17.f17.f17.f17.f17.f17.f17.f17.f17.f17.f17.f17.f17.f17.f17.f17)
       refine eU IK (fun W hW => (Kp.h hW).f17.f17.f17.f17.f17.f17.f17.f17.f17.f17.f17.f17.f17.f17.f17.f17.f17) ?_
       refine jQ 63 O IK (fun _ => eX (zl := [.slice none 0 0, .int .i64 0, .int .i64 0, .int .i64 0, .bool false, .bool false, .bool false, .int .i64 0, .int .i64 0, .int .i64 0, .int .i64 0, .slice none 0 0, .int .i64 0, .slice none 0 0, .int .i64 0, .int .i64 0, .int .i64 0]) (pl := [(0, 3), (3, 1), (4, 1), (5, 1), (6, 1), (7, 1), (8, 1), (9, 1), (10, 1), (11, 1), (12, 1), (13, 1), (14, 1), (15, 1), (16, 1)]) [_, _, _, _, _, _, _, _, _, _, _, _, _, _, _, _, _] iQ jC O (fun w => by kernel_rfl) O (.agg (us := [_, _, _]) (zs := [.slice none 0 0, .int .i64 0, .int .i64 0]) O O (.on (.on (.on (.on (.on (.on (.on (.on (.one (Rd.one ((JA.f9).aY)) (.on (.one (Rd.one ((JA.f6).aY)) (.on (.on (.on .nil))))))))))))))) O) ?_
       refine gX 65 O (by kernel_rfl) (dw 0 (l' := [_, _, _, _, _, _, _, _, _, _, _, _, _, _, _, _, _]) (us := [_, _, _, _, _, _, _, _, _, _, _, _, _, _, _, _, _]) JA sizeOf50 O O O (bf (by first | rfl | exact Rd.one ((JA.f12).aY)) (aH (aH (aH (aH (aH (aH (aH (aH (aH (aH (bf (by first | rfl | exact Rd.one ((JA.f9).aY)) (aH (bf (by first | rfl | exact Rd.one ((JA.f6).aY)) (aH (aH (aH bP))))))))))))))))) O O) ?_
       rintro _ w25 Vb
       have Xf := V.kp (Vb.f17.f17.f17.f17.f17.f17.f17.f17.f17.f17.f17.f17.f17.f17.f17.f17.f17)
       refine iD Xf (by kernel_rfl) ?_
       refine sK ?_
       refine cO (_, _, _, _, _, _) mW ji (by (try dsimp only); exact Vb.f14.f17.f17.f8.f17.f12.f10.f12.f11.f15.f17.f13.f14.f16.f16.f17.f17)
     ·skip
      refine kE 64 O (by kernel_rfl) (gK (l := [_, _, _, _, _, _, _, _, _, _, _, _, _, _, _, _, _]) DT jC O) (kM O) ?_
      rintro _ w26 ⟨b26, rfl, Xg⟩
      have acT := V.kp (Xg.f13.right.f16.f16.f16.f16.f16.f16.f16.f16.f16.f16.f16.f16.f16.f16.f16.f16)
      refine eU acT (fun W hW => (Kp.h hW).right.f15.f15.f15.f15.f15.f15.f15.f15.f15.f15.f15.f15.f15.f15.f15) ?_
      refine oV 52 O (zx O func67 (rH Xg.f15.f14.f6.f6 hU)) ?_
      rintro _ w27 ⟨rfl, OM⟩
      have acU := V.kp (OM.f17.f17.f17.f17.f17.f17.f17.f17.f17.f17.f17.f17.f17.f17.f17.f17.f17)
      refine eU acU (fun W hW => (Kp.h hW).f3.right.f16.f16.f5.f16.f16.f16.f16.f16.f16.f16.f16.f16.f14.f14.f16.f16) ?_
      refine oV 62 O (zx O func68 (nR OM.f15)) ?_
      rintro _ _ ⟨rfl, rfl⟩
      have aai := V.kp (OM.f17.f17.f17.f17.f17.f17.f17.f17.f17.f17.f17.f17.f17.f17.f17.f17.f17)
      refine eU aai (fun W hW => (Kp.h hW).f17.f17.f17.f17.f17.f17.f17.f17.f17.f17.f17.f17.f17.f17.f17.f17.f17) ?_
      refine jQ 63 O aai (fun _ => eX (zl := [.slice none 0 0, .int .i64 0, .int .i64 0, .int .i64 0, .bool false, .bool false, .bool false, .int .i64 0, .int .i64 0, .int .i64 0, .int .i64 0, .slice none 0 0, .int .i64 0, .slice none 0 0, .int .i64 0, .int .i64 0, .int .i64 0]) (pl := [(0, 3), (3, 1), (4, 1), (5, 1), (6, 1), (7, 1), (8, 1), (9, 1), (10, 1), (11, 1), (12, 1), (13, 1), (14, 1), (15, 1), (16, 1)]) [_, _, _, _, _, _, _, _, _, _, _, _, _, _, _, _, _] iQ jC O (fun w => by kernel_rfl) O (.agg (us := [_, _, _]) (zs := [.slice none 0 0, .int .i64 0, .int .i64 0]) O O (.on (.on (.on (.on (.on (.on (.on (.on (.one (Rd.one ((OM.f9).aY)) (.on (.one (Rd.one ((OM.f6).aY)) (.on (.on (.on .nil))))))))))))))) O) ?_
      refine gX 65 O (by kernel_rfl) (dw 0 (l' := [_, _, _, _, _, _, _, _, _, _, _, _, _, _, _, _, _]) (us := [_, _, _, _, _, _, _, _, _, _, _, _, _, _, _, _, _]) OM.f5 sizeOf50 O O O (bf (by first | rfl | exact Rd.one ((OM.f12).aY)) (aH (aH (aH (aH (aH (aH (aH (aH (aH (aH (bf (by first | rfl | exact Rd.one ((OM.f9).aY)) (aH (bf (by first | rfl | exact Rd.one ((OM.f6).aY)) (aH (aH (aH bP))))))))))))))))) O O) ?_
      rintro _ w29 Za
      have acV := V.kp (Za.f17.f17.f17.f17.f17.f17.f17.f17.f17.f17.f17.f17.f17.f17.f17.f17.f17)
      refine iD acV (by kernel_rfl) ?_
      refine sK ?_
      refine cO (_, _, _, _, _, _) mW ji (by (try dsimp only); exact Za.f14.f17.f17.f8.f17.f12.f10.f12.f11.f15.f17.f13.f14.f16.f16.f17.f17)
    ·skip
     refine kE 64 O (by kernel_rfl) (gK (l := [_, _, _, _, _, _, _, _, _, _, _, _, _, _, _, _, _]) Jo jC O) (kM O) ?_
     rintro _ w30 ⟨b30, rfl, Wv⟩
     have acW := V.kp (Wv.f11.right.f11.right.f14.f14.f14.f14.f14.f14.f14.f14.f14.f14.f14.f14.f14.f14)
     refine eU acW (fun W hW => (Kp.h hW).right.f13.f13.f13.f13.f13.f13.f13.f13.f13.f13.f13.f13.f13) ?_
     refine oV 50 O (zx O func66 (wM Wv.f12.f11.f11.f7)) ?_
     rintro u31 w31 Ug
     have Xh := V.kp (Ug.f13.right.f16.f16.f16.f16.f16.f16.f16.f16.f16.f16.f16.f16.f16.f16.f16.f16)
     refine eU Xh (fun W hW => (Kp.h hW).right.f4.right.f14.f14.f14.f14.f7.f7.f14.f14.f14.f14.f11.f14.f14.f14) ?_
     refine oV 52 O (zx O func67 (rH Ug.f15.f14.f5.f5 hU)) ?_
     rintro _ w32 ⟨rfl, OO⟩
     have SN := V.kp (OO.f17.f17.f17.f17.f17.f17.f17.f17.f17.f17.f17.f17.f17.f17.f17.f17.f17)
     refine eU SN (fun W hW => (Kp.h hW).f3.right.f16.f16.f5.f16.f16.f16.f16.f16.f16.f16.f16.f16.f16.f15.f15.f16) ?_
     refine oV 62 O (zx O func68 (nR OO.f15)) ?_
     rintro _ _ ⟨rfl, rfl⟩
     have SQ := V.kp (OO.f17.f17.f17.f17.f17.f17.f17.f17.f17.f17.f17.f17.f17.f17.f17.f17.f17)
     refine eU SQ (fun W hW => (Kp.h hW).f17.f17.f17.f17.f17.f17.f17.f17.f17.f17.f17.f17.f17.f17.f17.f17.f17) ?_
     refine jQ 63 O SQ (fun _ => eX (zl := [.slice none 0 0, .int .i64 0, .int .i64 0, .int .i64 0, .bool false, .bool false, .bool false, .int .i64 0, .int .i64 0, .int .i64 0, .int .i64 0, .slice none 0 0, .int .i64 0, .slice none 0 0, .int .i64 0, .int .i64 0, .int .i64 0]) (pl := [(0, 3), (3, 1), (4, 1), (5, 1), (6, 1), (7, 1), (8, 1), (9, 1), (10, 1), (11, 1), (12, 1), (13, 1), (14, 1), (15, 1), (16, 1)]) [_, _, _, _, _, _, _, _, _, _, _, _, _, _, _, _, _] iQ jC O (fun w => by kernel_rfl) O (.agg (us := [_, _, _]) (zs := [.slice none 0 0, .int .i64 0, .int .i64 0]) O O (.on (.on (.on (.on (.on (.on (.on (.on (.one (Rd.one ((OO.f9).aY)) (.on (.one (Rd.one ((OO.f5).aY)) (.on (.on (.on .nil))))))))))))))) O) ?_
     refine gX 65 O (by kernel_rfl) (dw 0 (l' := [_, _, _, _, _, _, _, _, _, _, _, _, _, _, _, _, _]) (us := [_, _, _, _, _, _, _, _, _, _, _, _, _, _, _, _, _]) OO.f8 sizeOf50 O O O (bf (by first | rfl | exact Rd.one ((OO.f12).aY)) (aH (aH (aH (aH (aH (aH (aH (aH (aH (aH (bf (by first | rfl | exact Rd.one ((OO.f9).aY)) (aH (bf (by first | rfl | exact Rd.one ((OO.f5).aY)) (aH (aH (aH bP))))))))))))))))) O O) ?_
     rintro _ w34 Xi
     have KI := V.kp (Xi.f17.f17.f17.f17.f17.f17.f17.f17.f17.f17.f17.f17.f17.f17.f17.f17.f17)
     refine iD KI (by kernel_rfl) ?_
     refine sK ?_
     refine cO (_, _, _, _, _, _) mW ji (by (try dsimp only); exact Xi.f14.f17.f17.f8.f17.f12.f10.f12.f11.f15.f17.f13.f14.f16.f16.f17.f17)
   ·skip
    refine kE 64 O (by kernel_rfl) (gK (l := [_, _, _, _, _, _, _, _, _, _, _, _, _, _, _, _, _]) zB jC O) (kM O) ?_
    rintro _ w35 ⟨b35, rfl, H35⟩
    have Xj := V.kp (H35.f9.right.f9.right.f12.f12.f12.f12.f12.f12.f12.f12.f12.f12.f12.f12)
    refine eU Xj (fun W hW => (Kp.h hW).right.f11.f11.f11.f11.f11.f11.f11.f11.f11.f11.f11) ?_
    refine oV 40 O (zx O func33 (zU H35.f6.f4)) ?_
    rintro u36 w36 ⟨afR, H36⟩
    have acX := V.kp (H36.f11.right.f11.right.f14.f14.f14.f14.f14.f14.f14.f14.f14.f14.f14.f14.f14.f14)
    refine eU acX (fun W hW => (Kp.h hW).right.right.f12.f12.f12.f12.f12.f12.f8.f12.f12.f10.f12.f12) ?_
    refine oV 50 O (zx O func66 (wM H36.f12.f11.f11.f6)) ?_
    rintro u37 w37 H37
    have acY := V.kp (H37.f13.right.f16.f16.f16.f16.f16.f16.f16.f16.f16.f16.f16.f16.f16.f16.f16.f16)
    refine eU acY (fun W hW => (Kp.h hW).right.f4.right.f14.f14.f14.f14.f7.f7.f14.f14.f14.f14.f14.f12.f14.f14) ?_
    refine oV 52 O (zx O func67 (rH H37.f15.f14.f5.f5 hU)) ?_
    rintro _ w38 ⟨rfl, QS⟩
    have acZ := V.kp (QS.f17.f17.f17.f17.f17.f17.f17.f17.f17.f17.f17.f17.f17.f17.f17.f17.f17)
    refine eU acZ (fun W hW => (Kp.h hW).f3.right.f16.f16.f5.f16.f16.f16.f16.f16.f16.f16.f16.f16.f16.f15.f15.f16) ?_
    refine oV 62 O (zx O func68 (nR QS.f15)) ?_
    rintro _ _ ⟨rfl, rfl⟩
    have OW := V.kp (QS.f17.f17.f17.f17.f17.f17.f17.f17.f17.f17.f17.f17.f17.f17.f17.f17.f17)
    refine eU OW (fun W hW => (Kp.h hW).f17.f17.f17.f17.f17.f17.f17.f17.f17.f17.f17.f17.f17.f17.f17.f17.f17) ?_
    refine jQ 63 O OW (fun _ => eX (zl := [.slice none 0 0, .int .i64 0, .int .i64 0, .int .i64 0, .bool false, .bool false, .bool false, .int .i64 0, .int .i64 0, .int .i64 0, .int .i64 0, .slice none 0 0, .int .i64 0, .slice none 0 0, .int .i64 0, .int .i64 0, .int .i64 0]) (pl := [(0, 3), (3, 1), (4, 1), (5, 1), (6, 1), (7, 1), (8, 1), (9, 1), (10, 1), (11, 1), (12, 1), (13, 1), (14, 1), (15, 1), (16, 1)]) [_, _, _, _, _, _, _, _, _, _, _, _, _, _, _, _, _] iQ jC O (fun w => by kernel_rfl) O (.agg (us := [_, _, _]) (zs := [.slice none 0 0, .int .i64 0, .int .i64 0]) O O (.on (.on (.on (.on (.on (.on (.on (.on (.one (Rd.one ((QS.f8).aY)) (.on (.one (Rd.one ((QS.f5).aY)) (.on (.on (.on .nil))))))))))))))) O) ?_
    refine gX 65 O (by kernel_rfl) (dw 0 (l' := [_, _, _, _, _, _, _, _, _, _, _, _, _, _, _, _, _]) (us := [_, _, _, _, _, _, _, _, _, _, _, _, _, _, _, _, _]) QS.f11 sizeOf50 O O O (bf (by first | rfl | exact Rd.one ((QS.f12).aY)) (aH (aH (aH (aH (aH (aH (aH (aH (aH (aH (bf (by first | rfl | exact Rd.one ((QS.f8).aY)) (aH (bf (by first | rfl | exact Rd.one ((QS.f5).aY)) (aH (aH (aH bP))))))))))))))))) O O) ?_
    rintro _ w40 H40
    have ac0 := V.kp (H40.f17.f17.f17.f17.f17.f17.f17.f17.f17.f17.f17.f17.f17.f17.f17.f17.f17)
    refine iD ac0 (by kernel_rfl) ?_
    refine sK ?_
    refine cO (_, _, _, _, _, _) mW ji (by (try dsimp only); exact H40.f14.f17.f17.f8.f17.f12.f10.f12.f11.f15.f17.f13.f14.f16.f16.f17.f17)
  ·skip
   refine kE 64 O (by kernel_rfl) (gK (l := [_, _, _, _, _, _, _, _, _, _, _, _, _, _, _, _, _]) XB jC O) (kM O) ?_
   rintro _ w41 ⟨b41, rfl, Y5⟩
   have Xk := V.kp (Y5.f8.right.f8.right.f11.f11.f11.f11.f11.f11.f11.f11.f11.f11.f11)
   refine eU Xk (fun W hW => (Kp.h hW).right.f10.f10.f10.f10.f10.f10.f10.f10.f10.f10) ?_
   refine oV 1 O (zx O func28 (FP Y5.f4.f4)) ?_
   rintro _ w42 ⟨u42, rfl, H42⟩
   have KJ := V.kp (H42.f9.right.f9.right.f12.f12.f12.f12.f12.f12.f12.f12.f12.f12.f12.f12)
   refine eU KJ (fun W hW => (Kp.h hW).right.f11.f11.f11.f11.f11.f11.f11.f9.f9.f11.f11) ?_
   refine oV 40 O (zx O func33 (zU H42.f6.f3)) ?_
   rintro u43 w43 ⟨afS, H43⟩
   have Xl := V.kp (H43.f11.right.f11.right.f14.f14.f14.f14.f14.f14.f14.f14.f14.f14.f14.f14.f14.f14)
   refine eU Xl (fun W hW => (Kp.h hW).right.right.f12.f12.f12.f12.f12.f12.f8.f12.f12.f12.f11.f12) ?_
   refine oV 50 O (zx O func66 (wM H43.f12.f11.f11.f6)) ?_
   rintro u44 w44 Z9
   have ac1 := V.kp (Z9.f13.right.f16.f16.f16.f16.f16.f16.f16.f16.f16.f16.f16.f16.f16.f16.f16.f16)
   refine eU ac1 (fun W hW => (Kp.h hW).right.f4.right.f14.f14.f14.f14.f7.f7.f14.f14.f14.f14.f14.f12.f14.f14) ?_
   refine oV 52 O (zx O func67 (rH Z9.f15.f14.f5.f5 hU)) ?_
   rintro _ w45 ⟨rfl, PU⟩
   have ac2 := V.kp (PU.f17.f17.f17.f17.f17.f17.f17.f17.f17.f17.f17.f17.f17.f17.f17.f17.f17)
   refine eU ac2 (fun W hW => (Kp.h hW).f3.right.f16.f16.f5.f16.f16.f16.f16.f16.f16.f16.f16.f16.f16.f15.f15.f16) ?_
   refine oV 62 O (zx O func68 (nR PU.f15)) ?_
   rintro _ _ ⟨rfl, rfl⟩
   have aaj := V.kp (PU.f17.f17.f17.f17.f17.f17.f17.f17.f17.f17.f17.f17.f17.f17.f17.f17.f17)
   refine eU aaj (fun W hW => (Kp.h hW).f17.f17.f17.f17.f17.f17.f17.f17.f17.f17.f17.f17.f17.f17.f17.f17.f17) ?_
   refine jQ 63 O aaj (fun _ => eX (zl := [.slice none 0 0, .int .i64 0, .int .i64 0, .int .i64 0, .bool false, .bool false, .bool false, .int .i64 0, .int .i64 0, .int .i64 0, .int .i64 0, .slice none 0 0, .int .i64 0, .slice none 0 0, .int .i64 0, .int .i64 0, .int .i64 0]) (pl := [(0, 3), (3, 1), (4, 1), (5, 1), (6, 1), (7, 1), (8, 1), (9, 1), (10, 1), (11, 1), (12, 1), (13, 1), (14, 1), (15, 1), (16, 1)]) [_, _, _, _, _, _, _, _, _, _, _, _, _, _, _, _, _] iQ jC O (fun w => by kernel_rfl) O (.agg (us := [_, _, _]) (zs := [.slice none 0 0, .int .i64 0, .int .i64 0]) O O (.on (.on (.on (.on (.on (.on (.on (.on (.one (Rd.one ((PU.f8).aY)) (.on (.one (Rd.one ((PU.f5).aY)) (.on (.on (.on .nil))))))))))))))) O) ?_
   refine gX 65 O (by kernel_rfl) (dw 0 (l' := [_, _, _, _, _, _, _, _, _, _, _, _, _, _, _, _, _]) (us := [_, _, _, _, _, _, _, _, _, _, _, _, _, _, _, _, _]) PU.f13 sizeOf50 O O O (bf (by first | rfl | exact Rd.one ((PU.f11).aY)) (aH (aH (aH (aH (aH (aH (aH (aH (aH (aH (bf (by first | rfl | exact Rd.one ((PU.f8).aY)) (aH (bf (by first | rfl | exact Rd.one ((PU.f5).aY)) (aH (aH (aH bP))))))))))))))))) O O) ?_
   rintro _ w47 H47
   have ac3 := V.kp (H47.f17.f17.f17.f17.f17.f17.f17.f17.f17.f17.f17.f17.f17.f17.f17.f17.f17)
   refine iD ac3 (by kernel_rfl) ?_
   refine sK ?_
   refine cO (_, _, _, _, _, _) mW ji (by (try dsimp only); exact H47.f14.f17.f17.f8.f17.f12.f10.f12.f11.f15.f17.f13.f14.f16.f16.f17.f17)
end
end Go.Proofs.YtpdeedplgmbopaaGreatDoor
end
section
namespace Go.Proofs.YtpdeedplgmbopaaGreatDoor
open Go.RowKit
theorem FQ {P : Program} {L : List (Nat × Value)} {w : World} {ty t : TypeId} {fs : Array Field} {f : Field} {i : Nat} {x : Operand} {cs : Array Value} {u : Value} (off : Nat) (ht : P.underlying t = some (.struct fs)) (hf : fs[i]? = some f) (ho : f.offset = off) (hp : qN P f.type = true) (hx : ev L x = some (.agg cs)) (hc : cs[off]? = some u) :
    Val P L (.field t x i) ty w u w := fun ρ hρ _ _ _ _ => by
  simp [execOp, hρ _ _ hx, Instr.field, run_underlying ht, hf, part, asAgg, DJ hp, ho, hc]
end Go.Proofs.YtpdeedplgmbopaaGreatDoor
end
