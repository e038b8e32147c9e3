import Derived.Test.YtgofgnlkpeghcaaGreatDoorZ4
import Derived.Test.YtgofgnlkpeghcaaGreatDoorZ13
import Derived.Test.YtgofgnlkpeghcaaGreatDoorZ5
set_option linter.unusedSimpArgs false
set_option linter.unusedVariables false
/- Texts of mine, joined, their names in short: EdS2 EdS3 RefTab. -/
section
namespace Go.Proofs.YtgofgnlkpeghcaaGreatDoor
open Go.RowKit
open _root_.Go.Proofs.Tryz
theorem U8 {D : List Int} {P : Int → Nat} {k : Int} (h : (OA D P k).isSome = true) : k ∈ D := by
  unfold OA at h
  split at h
  · assumption
  · cases h
theorem SC {D : List Int} {P : Int → Nat} {k : Int} (h : (OA D P k).isSome = false) : k ∉ D := by
  unfold OA at h
  split at h
  · cases h
  · assumption
def BP (x : Int × ByteArray) : List Value := [.int .i64 x.1, .string x.2]
theorem J4 (x : Int × ByteArray) : (BP x).length = 2 := rfl
theorem U9 {hl : List oH} {tx : Int → Option ByteArray} {place : Int} {i : Nat} (h : zF hl tx place i = true) : o9 hl tx place (i + 1) = o9 hl tx place i ++ [((i : Int), dR hl tx i)] := by
  unfold o9; rw [List.range_succ, List.filter_append, List.map_append]; simp [List.filter, h]
theorem OM {hl : List oH} {tx : Int → Option ByteArray} {place : Int} {i : Nat} (h : zF hl tx place i = false) : o9 hl tx place (i + 1) = o9 hl tx place i := by
  unfold o9; rw [List.range_succ, List.filter_append, List.map_append]; simp [List.filter, h]
theorem uO (hl : List oH) (tx : Int → Option ByteArray) (place : Int) (i : Nat) : (o9 hl tx place i).length ≤ i := by
  unfold o9; rw [List.length_map]
  exact Nat.le_trans (List.length_filter_le _ _) (by simp)
def uj (E : List (List Int)) (a : Nat) : List (List Int) := E.drop a ++ E.take a
def abq (n a i : Nat) : Nat := if i = 0 then a else (a + (i - 1)) % n
theorem Ze {n a i : Nat} : JU n (abq n a i) (min (i : Int) 1) = abq n a (i + 1) := by
  cases i with
  | zero =>
    show (((a : Int) + min ((0 : Nat) : Int) 1) % (n : Int)).toNat = (a + (0 + 1 - 1)) % n
    rw [show min ((0 : Nat) : Int) 1 = 0 by omega, Int.add_zero, show ((a : Int) % (n : Int)) = ((a % n : Nat) : Int) from rfl, Int.toNat_natCast]
    rfl
  | succ j =>
    show (((((a + (j + 1 - 1)) % n : Nat) : Int) + min ((j + 1 : Nat) : Int) 1) % (n : Int)).toNat = (a + (j + 1 + 1 - 1)) % n
    rw [show min ((j + 1 : Nat) : Int) 1 = ((1 : Nat) : Int) by omega, show ((((a + (j + 1 - 1)) % n : Nat) : Int) + ((1 : Nat) : Int)) % (n : Int) = ((((a + (j + 1 - 1)) % n + 1) % n : Nat) : Int) from rfl, Int.toNat_natCast, Nat.mod_add_mod]
    congr 1
theorem Zf {E : List (List Int)} {a i : Nat} (h : i < E.length) (ha : a < E.length) : (uj E a).getD i [] = E.getD (abq E.length a (i + 1)) [] := by
  unfold uj abq
  rw [if_neg (by omega), Nat.add_sub_cancel, List.getD_eq_getElem?_getD, List.getD_eq_getElem?_getD]
  by_cases hi : i < E.length - a
  · rw [List.getElem?_append_left (by simpa using hi), List.getElem?_drop, Nat.mod_eq_of_lt (by omega)]
  · rw [List.getElem?_append_right (by simpa using hi), List.length_drop, List.getElem?_take, if_pos (by omega)]
    have : (a + i) % E.length = i - (E.length - a) := by
      rw [show a + i = (i - (E.length - a)) + E.length by omega, Nat.add_mod_right, Nat.mod_eq_of_lt (by omega)]
    rw [this]
theorem OO {α : Type _} {l : List α} {k : Nat} {d : α} (h : k < l.length) : l.take (k + 1) = l.take k ++ [l.getD k d] := by rw [List.take_succ_eq_append_getElem h, List.getD_eq_getElem?_getD, List.getElem?_eq_getElem h]; rfl
theorem F5 (E : List (List Int)) (a : Nat) : (uj E a).length = E.length := by unfold uj; simp; omega
section
variable {w0 w : World} {F : HP} {e p ph pw pt pr pm pb : Nat} {s : dw} {k x place : Int} {hl : List oH} {base most cls : Int} {tx : Int → Option ByteArray} {v pv : Value} {U : Int → List (List kC)} {put : List kC} {xs : List Value} {inn run whole : Bool} {E : List (List Int)} {a : Nat} {L : List Int} {pnt mk : Int}
theorem Fg {x0 x1 x2 x3 x4 x5 x6 x7 x8 x9 x10 x12 tZ x14 x15 x16 x17 x18 x19 x20 x21 uq x23 x24 x25 uz x27 x28 x29 x30 x31 x32 uX : Value} (H : V w0 w (eF e (.cells (x0 :: x1 :: x2 :: x3 :: x4 :: x5 :: x6 :: x7 :: x8 :: x9 :: x10 :: .pointer (some ⟨ph, 0, none⟩) :: x12 :: tZ :: x14 :: x15 :: x16 :: x17 :: x18 :: x19 :: x20 :: x21 :: uq :: x23 :: x24 :: x25 :: uz :: x27 :: x28 :: x29 :: x30 :: x31 :: x32 :: uX :: []).toArray 113 (0, 0)) • F)) : iM prog 49 #[.pointer (some ⟨e, 0, none⟩)] w fun v w' => v = .bool false ∧ w = w' := by
  refine iQ func49 ntmps49 ?_
  refine kQ O (bY O (aW (iJ lZ O O) (mX O (fun h1 => ?_) (fun h1 => ?_))))
  · (try simp only [aF] at h1)
    exfalso; first | contradiction | omega
  · (try simp only [aF] at h1)
    refine bW (bT O (bW (dO O (bW (bn 11 ah O sizeOf54 O (bW (fB lu O (H).get.2 O (bW (aW (iJ lu O O) (kX O O (ig O (fD results49 O ?_))))))))))))
    exact ⟨O, O⟩
theorem wo {x0 x1 x4 x5 x6 x7 x8 x9 x11 x12 tZ x14 x15 x17 x18 x19 x20 x21 uq x23 x24 x25 uz x27 x29 x30 x31 : Value} (H : V w0 w (eF e (.cells (x0 :: x1 :: .pointer (some ⟨pw, 0, none⟩) :: .map (some pm) :: x4 :: x5 :: x6 :: x7 :: x8 :: x9 :: .bool run :: x11 :: x12 :: tZ :: x14 :: x15 :: .bool inn :: x17 :: x18 :: x19 :: x20 :: x21 :: uq :: x23 :: x24 :: x25 :: uz :: x27 :: .int .i64 cls :: x29 :: x30 :: x31 :: .bool whole :: pv :: []).toArray 113 (0, 0)) • eF pw (.cells #[.int .i64 k, .map (some pt)] 130 (0, 0)) • Ag pm U • Row 183 3 pv put.length xs • F)) (hU : (U k).length ≤ 16384) :
    iM prog 85 #[.pointer (some ⟨e, 0, none⟩)] w fun v' w' => v' = .int .i64 (uM (U k) inn put (cls == 3 && whole) run) ∧
      V w0 w' (eF e (.cells (x0 :: x1 :: .pointer (some ⟨pw, 0, none⟩) :: .map (some pm) :: x4 :: x5 :: x6 :: x7 :: x8 :: x9 :: .bool run :: x11 :: x12 :: tZ :: x14 :: x15 :: .bool inn :: x17 :: x18 :: x19 :: x20 :: x21 :: uq :: x23 :: x24 :: x25 :: uz :: x27 :: .int .i64 cls :: x29 :: x30 :: x31 :: .bool whole :: pv :: []).toArray 113 (0, 0)) • eF pw (.cells #[.int .i64 k, .map (some pt)] 130 (0, 0)) • Ag pm U • Row 183 3 pv put.length xs • F) := by
  refine iQ func85 ntmps85 ?_
  refine kQ O (kQ O ?_)
  refine rU [(0, _)] (fun (_ : Unit) => [(3, .int .i64 ((U k).length : Int))]) (fun (_ : Unit) W => V w0 W (eF e (.cells (x0 :: x1 :: .pointer (some ⟨pw, 0, none⟩) :: .map (some pm) :: x4 :: x5 :: x6 :: x7 :: x8 :: x9 :: .bool run :: x11 :: x12 :: tZ :: x14 :: x15 :: .bool inn :: x17 :: x18 :: x19 :: x20 :: x21 :: uq :: x23 :: x24 :: x25 :: uz :: x27 :: .int .i64 cls :: x29 :: x30 :: x31 :: .bool whole :: pv :: []).toArray 113 (0, 0)) • eF pw (.cells #[.int .i64 k, .map (some pt)] 130 (0, 0)) • Ag pm U • Row 183 3 pv put.length xs • F)) oO ?_ ?_
  · rintro _ w1 HJ
    dsimp only [List.cons_append, List.nil_append]
    refine aO (bY O (dO O (bn 16 ah O aQ O (fB cZ O (HJ).get.2 O (mX O (fun h1 => ?_) (fun h1 => ?_))))))
    · (try simp only [aF] at h1)
      have hin := h1
      refine bW (bT O (bW (dO O (bW (bn 33 ah O bG O (bW (fB aV O (HJ).get.2 O (bW (aW (fV ((HJ.f4).aN) aV O) (bW (aW (iT O O) (nZ O O (mX O (fun h2 => ?_) (fun h2 => ?_))))))))))))))
      · (try simp only [aF] at h2)
        have hno : put.isEmpty = false := by rw [tX]; exact decide_eq_false (by omega)
        refine bW (bT O (bW (dO O (bW (bn 28 ah O aj O (bW (fB aB O (HJ).get.2 O (bW (aW (kP O O) (bW (mX O (fun h3 => ?_) (fun h3 => ?_))))))))))))
        · (try simp only [aF] at h3)
          have hcl := h3
          refine bW (bT O (bW (dO O (bW (bn 32 ah O aQ O (bW (fB cZ O (HJ).get.2 O (bW (nZ O O (bW (mX O (fun h4 => ?_) (fun h4 => ?_))))))))))))
          · (try simp only [aF] at h4)
            have hwh := h4
            refine bW (bT O (bW (dO O (bW (bn 0 ah O aS O (bW (bn 10 aK O aQ O (bW (fB cZ O (HJ).get.2 O (bW (nZ O O (bW (aW (mG O) (nZ O O (jv O (fun h5 => ?_) (fun h5 => ?_))))))))))))))))
            · (try simp only [aF] at h5)
              have hrn := h5
              refine aA (bT O (aW (fP O O (by omega)) (iP O (bY O (ig O (fD results85 O ?_))))))
              refine ⟨?_, HJ.f4.f4.f4.f4⟩
              congr 1
              unfold uM
              first
                | exact absurd hrn (by decide)
                | (simp [hin]; done)
                | (simp [hin, hno]; done)
                | (simp [hin, hno, hcl]; done)
                | (simp [hin, hno, hcl, hwh]; done)
                | (simp [hin, hno, hcl, hwh, hrn]; done)
            · (try simp only [aF] at h5)
              have hrn := h5
              refine iy (bY O (ig O (fD results85 O ?_)))
              refine ⟨?_, HJ.f4.f4.f4.f4⟩
              congr 1
              unfold uM
              first
                | exact absurd hrn (by decide)
                | (simp [hin]; done)
                | (simp [hin, hno]; done)
                | (simp [hin, hno, hcl]; done)
                | (simp [hin, hno, hcl, hwh]; done)
                | (simp [hin, hno, hcl, hwh, hrn]; done)
          · (try simp only [aF] at h4)
            have hwh := h4
            refine dF (dF (dF (dF (dF (bW (kX O O (bW (aW (mG O) (nZ O O (jv O (fun h6 => ?_) (fun h6 => ?_)))))))))))
            · (try simp only [aF] at h6)
              have hrn := h6
              refine aA (bT O (aW (fP O O (by omega)) (iP O (bY O (ig O (fD results85 O ?_))))))
              refine ⟨?_, HJ.f4.f4.f4.f4⟩
              congr 1
              unfold uM
              first
                | exact absurd hrn (by decide)
                | (simp [hin]; done)
                | (simp [hin, hno]; done)
                | (simp [hin, hno, hcl]; done)
                | (simp [hin, hno, hcl, hwh]; done)
                | (simp [hin, hno, hcl, hwh, hrn]; done)
            · (try simp only [aF] at h6)
              have hrn := h6
              refine iy (bY O (ig O (fD results85 O ?_)))
              refine ⟨?_, HJ.f4.f4.f4.f4⟩
              congr 1
              unfold uM
              first
                | exact absurd hrn (by decide)
                | (simp [hin]; done)
                | (simp [hin, hno]; done)
                | (simp [hin, hno, hcl]; done)
                | (simp [hin, hno, hcl, hwh]; done)
                | (simp [hin, hno, hcl, hwh, hrn]; done)
        · (try simp only [aF] at h3)
          have hcl := h3
          refine dF (dF (dF (dF (bW (kX O O (bW (bT O (dF (dF (dF (dF (dF (bW (kX O O (bW (aW (mG O) (nZ O O (jv O (fun h7 => ?_) (fun h7 => ?_)))))))))))))))))))
          · (try simp only [aF] at h7)
            have hrn := h7
            refine aA (bT O (aW (fP O O (by omega)) (iP O (bY O (ig O (fD results85 O ?_))))))
            refine ⟨?_, HJ.f4.f4.f4.f4⟩
            congr 1
            unfold uM
            first
              | exact absurd hrn (by decide)
              | (simp [hin]; done)
              | (simp [hin, hno]; done)
              | (simp [hin, hno, hcl]; done)
              | (simp [hin, hno, hcl, hwh]; done)
              | (simp [hin, hno, hcl, hwh, hrn]; done)
          · (try simp only [aF] at h7)
            have hrn := h7
            refine iy (bY O (ig O (fD results85 O ?_)))
            refine ⟨?_, HJ.f4.f4.f4.f4⟩
            congr 1
            unfold uM
            first
              | exact absurd hrn (by decide)
              | (simp [hin]; done)
              | (simp [hin, hno]; done)
              | (simp [hin, hno, hcl]; done)
              | (simp [hin, hno, hcl, hwh]; done)
              | (simp [hin, hno, hcl, hwh, hrn]; done)
      · (try simp only [aF] at h2)
        have hno : put.isEmpty = true := by rw [tX]; exact decide_eq_true (by omega)
        refine dF (dF (dF (dF (dF (dF (uT (uT (uT (uT (dF (dF (uT (uT (uT (uT (uT (dF (dF (kX O O (jd (vS (iy (bY O (ig O (fD results85 O ?_)))))))))))))))))))))))))
        refine ⟨?_, HJ.f4.f4.f4.f4⟩
        congr 1
        unfold uM
        first
          | exact absurd hrn (by decide)
          | (simp [hin]; done)
          | (simp [hin, hno]; done)
          | (simp [hin, hno, hcl]; done)
          | (simp [hin, hno, hcl, hwh]; done)
          | (simp [hin, hno, hcl, hwh, hrn]; done)
    · (try simp only [aF] at h1)
      have hin := h1
      refine dF (dF (dF (dF (dF (dF (kX O O (bT O (dF (dF (dF (dF (dF (dF (uT (uT (uT (uT (dF (dF (uT (uT (uT (uT (uT (dF (dF (kX O O (jd (vS (iy (bY O (ig O ?_))))))))))))))))))))))))))))))))
      refine fD results85 O ?_
      refine ⟨?_, HJ.f4.f4.f4.f4⟩
      congr 1
      unfold uM
      first
        | exact absurd hrn (by decide)
        | (simp [hin]; done)
        | (simp [hin, hno]; done)
        | (simp [hin, hno, hcl]; done)
        | (simp [hin, hno, hcl, hwh]; done)
        | (simp [hin, hno, hcl, hwh, hrn]; done)
  · skip
    refine aO ?_
    obtain ⟨D, P, hD1, hD2, HU⟩ := (H.f3).aaW
    have J5 := HU.drew
    have kH := V.kp (J5.f5.f5.f5.f5.f5)
    refine uU [4, 9, 12, 13] kH O (gQ 0 O kH O (jQ 1 O kH O (fQ 2 O kH 0 ah O aS O (fQ 3 O kH 3 aK O sizeOf108 O (iO 4 O kH (fun W hW => jT nD O ((Kp.h hW).f3).get.2 O) (gQ 5 O kH O (jQ 6 O kH O (fQ 7 O kH 0 ah O aS O (fQ 8 O kH 2 aK O lK O (iO 9 O kH (fun W hW => jT jr O ((Kp.h hW).f3).get.2 O) (jQ 10 O kH O (fQ 11 O kH 0 fF O aj O (iO 12 O kH (fun W hW => jT aB O ((Kp.h hW).f4).get.2 O) (iO 13 O kH (fun W hW => EP (UF ((Kp.h hW)) nD aB zeroValue174 O O) (X9 D P k)) (iL 14 O kH (fun _ => fU O) (qj (aZ (bY O (aW (Ns underlying174 O O) (jv O (fun h8 => ?_) (fun h8 => ?_)))))))))))))))))))))
    · (try simp only [aF] at h8)
      have hmem := U8 h8
      rw [UR hmem]
      have HF := J5.f2
      rw [wV hmem] at HF
      have HF2 := HF.flat
      refine aA (bT O (fE O func132 (RJ HF2) ?_))
      rintro _ w2 ⟨rfl, H2⟩
      have PN := H2.f2.f2
      have LP := V.of_eq PN (by rw [← dK, ← wV hmem])
      have Ho5 := LP.f2
      have Hc6 := V.FX hD1 hD2 Ho5
      refine iC O (bZ ?_)
      refine gB (()) ?_ ?_ ?_
      · exact (Sub.qP O (by first | (rw [hD2 _ hnm]; rfl) | (simp; done)) (Sub.nil _))
      · exact oO
      · (try dsimp only)
        first | done | exact Hc6.f4.f2.f4.f4
    · (try simp only [aF] at h8)
      have hnm := SC h8
      have RY := J5.f2.f2
      have PS := V.FX hD1 hD2 RY
      refine dS ?_
      refine gB (()) ?_ ?_ ?_
      · exact (Sub.qP O (by first | (rw [hD2 _ hnm]; rfl) | (simp; done)) (Sub.nil _))
      · exact oO
      · (try dsimp only)
        first | done | exact PS.f4.f2.f4.f4
theorem En {x0 x2 x3 x4 x5 x6 x7 x8 x9 x10 x12 tZ x14 x15 x16 x17 x18 x19 x20 x21 uq x23 x24 x25 uz x27 x28 x29 x30 x31 x32 uX : Value} (H : V w0 w (eF e (.cells (x0 :: .pointer (some ⟨pr, 0, none⟩) :: x2 :: x3 :: x4 :: x5 :: x6 :: x7 :: x8 :: x9 :: x10 :: .pointer (some ⟨ph, 0, none⟩) :: x12 :: tZ :: x14 :: x15 :: x16 :: x17 :: x18 :: x19 :: x20 :: x21 :: uq :: x23 :: x24 :: x25 :: uz :: x27 :: x28 :: x29 :: x30 :: x31 :: x32 :: uX :: []).toArray 113 (0, 0)) • jV pr E a • F)) : iM prog 83 #[.pointer (some ⟨e, 0, none⟩)] w fun v' w' =>
  ∃ us, V w0 w' (Row 23 1 v' E.length us • LY 21 .i32 us (uj E a) • eF e (.cells (x0 :: .pointer (some ⟨pr, 0, none⟩) :: x2 :: x3 :: x4 :: x5 :: x6 :: x7 :: x8 :: x9 :: x10 :: .pointer (some ⟨ph, 0, none⟩) :: x12 :: tZ :: x14 :: x15 :: x16 :: x17 :: x18 :: x19 :: x20 :: x21 :: uq :: x23 :: x24 :: x25 :: uz :: x27 :: x28 :: x29 :: x30 :: x31 :: x32 :: uX :: []).toArray 113 (0, 0)) • jV pr E a • F) := by
 obtain ⟨hE1, hE2, hE3⟩ := Wu H.swap
 refine iQ func83 ntmps83 ?_
 refine kQ O (aO (bY O (fE O func49 (Fg H) ?_)))
 rintro _ _ ⟨rfl, rfl⟩
 refine jd (vS (iy (kQ O (bY O (dO O (bn 0 ah O aS O (bn 1 aK O sizeOf106 O (fB underlying106 O (H).get.2 O (fE O func100 (E5 H.f2) ?_)))))))))
 rintro _ w2 ⟨pc2, rfl, H2⟩
 refine sS O (bY O (fE O func130 (RH H2) ?_))
 rintro _ _ ⟨rfl, rfl⟩
 refine bT O (jd (bg ?_))
 obtain ⟨R4, hR4, HR4⟩ := V.ae8 (H2)
 refine gq [(4, _), (17, _)] (fun (⟨i, u⟩ : Nat × Value) => [(3, u), (18, .int .i64 (i : Int))]) (fun (⟨i, u⟩ : Nat × Value) W => i ≤ E.length ∧ ∃ us, V w0 W (Row 23 1 u i us • LY 21 .i32 us ((uj E a).take i) • jV pc2 E (abq E.length a i) • R4)) (fun (⟨i, u⟩ : Nat × Value) => E.length - i) ((0, .slice none 0 0)) rP rP ⟨by omega, [], HR4.abn.gG none⟩ ?_
 rintro ⟨i, u⟩ w5 ⟨hi, us, HL⟩
 dsimp only [List.cons_append, List.nil_append]
 refine jw (aW (fG O O) (rV (dA O (fun h1 => ?_) (fun h1 => ?_))))
 ·(try simp only [aF] at h1)
  refine iy (aO (bg (bY O (iP O (bY O (bT O (aW (ZY O O) (fE O func131 (LJ HL.f3) ?_))))))))
  rintro _ w6 ⟨u6, rfl, H6⟩
  have hne : ¬ E.length = 0 := by omega
  have HX := H6
  simp only [if_neg hne] at HX
  refine bT O (sD O O (sD O O (iC O (iP O (aA (jy O O (iY (kU (vs := [_]) HX bH bF zeroValue23 O O O (by decide) (aY (by first | rfl | exact Rd.one ((HX).aN)) bK)) ?_)))))))
  rintro l7 w7 H7
  refine iY (eX H7.f4 bH Va O O O ((H7).aN) (aY (by first | rfl | exact Rd.one ((H7.f2).aN)) bK) (by omega) (by omega)) ?_
  rintro l8 w8 H8
  have Hd9 := H8.f2.right
  refine iC O (bZ (aP (aZ (aA (aW (fP O O (by omega)) (bT O (bZ ?_)))))))
  have HS := (Hd9.f3.f2.f3.f4).FZ.f2
  refine dN ((i + 1, l8)) ?_ ?_ ?_ ?_
  ·exact rP
  ·exact rP
  ·(try dsimp only)
   first | done | exact ⟨by omega, _, by rw [OO (d := []) (by rw [F5]; omega), Zf (by omega) (by omega), ← Ze]; exact HS⟩
  ·(try dsimp only); omega
 ·(try simp only [aF] at h1)
  refine eH (aT ?_)
  obtain rfl : i = E.length := by omega
  have HK := HL
  rw [List.take_of_length_le (by rw [F5]; exact Nat.le_refl _)] at HK
  subst hR4
  refine aT (bU (aZ (bY O (ig O (fD results83 O ?_)))))
  exact ⟨_, HK.f3.right.f3.f4.f4.f4⟩
end
def Hz (s : dw) (u ks sv : Value) : List Value := [u, .int .i64 s.c.pt, .int .i64 s.c.mark, .int .i64 s.c.mode, .bool s.c.over, .bool s.given, .bool s.minus, .int .i64 s.arg, .int .i64 s.zV, .int .i64 s.UA, .int .i64 s.UC, ks, .int .i64 s.c.place, sv, .int .i64 s.Oq, .int .i64 s.c.res, .int .i64 s.sK]
section
variable {w0 w : World} {F : HP} {e p ph pw pt pr pm pb : Nat} {s : dw} {k x place : Int} {hl : List oH} {base most cls : Int} {tx : Int → Option ByteArray} {v pv : Value} {U : Int → List (List kC)} {L : List Int} {pnt mk : Int}
theorem KR {x1 x2 x3 x4 x5 x6 x7 x8 x9 x10 x12 tZ x14 x15 x16 x17 x18 x19 x20 x21 uq x23 x24 x25 uz x27 x28 x29 x30 x31 x32 uX : Value} (H : V w0 w (eF e (.cells (.pointer (some ⟨pb, 0, none⟩) :: x1 :: x2 :: x3 :: x4 :: x5 :: x6 :: x7 :: x8 :: x9 :: x10 :: .pointer (some ⟨ph, 0, none⟩) :: x12 :: tZ :: x14 :: x15 :: x16 :: x17 :: x18 :: x19 :: x20 :: x21 :: uq :: x23 :: x24 :: x25 :: uz :: x27 :: x28 :: x29 :: x30 :: x31 :: x32 :: uX :: []).toArray 113 (0, 0)) • ji pb L pnt mk • F)) : iM prog 18 #[.pointer (some ⟨e, 0, none⟩)] w fun v' w' =>
  ∃ u, v' = .agg (qX u pnt mk) ∧ V w0 w' (jR 21 .i32 u L • eF e (.cells (.pointer (some ⟨pb, 0, none⟩) :: x1 :: x2 :: x3 :: x4 :: x5 :: x6 :: x7 :: x8 :: x9 :: x10 :: .pointer (some ⟨ph, 0, none⟩) :: x12 :: tZ :: x14 :: x15 :: x16 :: x17 :: x18 :: x19 :: x20 :: x21 :: uq :: x23 :: x24 :: x25 :: uz :: x27 :: x28 :: x29 :: x30 :: x31 :: x32 :: uX :: []).toArray 113 (0, 0)) • ji pb L pnt mk • F) := by
 refine iQ func18 ntmps18 ?_
 refine jw (iY (fK (l := [_, _, _]) H sU O) ?_)
 rintro _ w1 ⟨b1, rfl, H1⟩
 refine rV (bY O (fE O func49 (Fg H1.f2) ?_))
 rintro _ _ ⟨rfl, rfl⟩
 refine jd (vS (iy (bY O (dO O (bn 0 ah O aS O (bn 0 aK O oh O (fB lX O (H1.f2).get.2 O (fE O func50 (IU H1.f3) ?_))))))))
 rintro _ w3 ⟨u3, rfl, H3⟩
 refine aI (dG 0 (l' := [_, _, _]) (us := [_, _, _]) H3.f3 sizeOf52 O O O (aY (by first | rfl | exact Rd.one ((H3).aN)) (aG (aG bK))) O O) ?_
 rintro _ w4 H4
 refine zkc ?_
 refine rW (.inl O) (Lr results18 O lC O (by rw [Uo]; rfl) (H4).get.2) ?_
 exact ⟨_, O, H4.right.f2.f3.f3⟩
theorem AO {x0 x1 x3 x4 x5 x6 x7 x8 x9 x10 x12 tZ x14 x15 x16 x17 x18 x19 x20 x21 uq x23 x24 x25 uz x27 x28 x29 x30 x31 x32 uX : Value} (H : V w0 w (eF e (.cells (x0 :: x1 :: .pointer (some ⟨pw, 0, none⟩) :: x3 :: x4 :: x5 :: x6 :: x7 :: x8 :: x9 :: x10 :: .pointer (some ⟨ph, 0, none⟩) :: x12 :: tZ :: x14 :: x15 :: x16 :: x17 :: x18 :: x19 :: x20 :: x21 :: uq :: x23 :: x24 :: x25 :: uz :: x27 :: x28 :: x29 :: x30 :: x31 :: x32 :: uX :: []).toArray 113 (0, 0)) • eF pw (.cells #[.int .i64 place, .map (some pt)] 130 (0, 0)) • jM vF pt (vG tx) • iI ph hl base most • F)) :
    iM prog 84 #[.pointer (some ⟨e, 0, none⟩)] w fun v' w' => V w0 w' (Row 82 2 v' (pW hl tx place).length ((pW hl tx place).flatMap BP) •
      eF e (.cells (x0 :: x1 :: .pointer (some ⟨pw, 0, none⟩) :: x3 :: x4 :: x5 :: x6 :: x7 :: x8 :: x9 :: x10 :: .pointer (some ⟨ph, 0, none⟩) :: x12 :: tZ :: x14 :: x15 :: x16 :: x17 :: x18 :: x19 :: x20 :: x21 :: uq :: x23 :: x24 :: x25 :: uz :: x27 :: x28 :: x29 :: x30 :: x31 :: x32 :: uX :: []).toArray 113 (0, 0)) • eF pw (.cells #[.int .i64 place, .map (some pt)] 130 (0, 0)) • jM vF pt (vG tx) • iI ph hl base most • F) := by
  have hb : hl.length ≤ 4096 := by obtain ⟨v, h, _⟩ := H.r4.hist; exact h.1
  refine iQ func84 ntmps84 ?_
  refine kQ O (kQ O (bY O (dO O (bn 11 ah O sizeOf54 O (fB lu O (H).get.2 O (fE O func60 (ru H.f4) ?_))))))
  rintro _ w1 ⟨rfl, H1⟩
  refine sS O (bY O (bT O (jd (bg ?_))))
  refine gq [(0, _), (4, _), (11, _)] (fun (⟨i, u⟩ : Nat × Value) => [(3, u), (12, .int .i64 (i : Int))]) (fun (⟨i, u⟩ : Nat × Value) W => i ≤ hl.length ∧ V w0 W (Row 82 2 u (o9 hl tx place i).length ((o9 hl tx place i).flatMap BP) • eF e (.cells (x0 :: x1 :: .pointer (some ⟨pw, 0, none⟩) :: x3 :: x4 :: x5 :: x6 :: x7 :: x8 :: x9 :: x10 :: .pointer (some ⟨ph, 0, none⟩) :: x12 :: tZ :: x14 :: x15 :: x16 :: x17 :: x18 :: x19 :: x20 :: x21 :: uq :: x23 :: x24 :: x25 :: uz :: x27 :: x28 :: x29 :: x30 :: x31 :: x32 :: uX :: []).toArray 113 (0, 0)) • eF pw (.cells #[.int .i64 place, .map (some pt)] 130 (0, 0)) • jM vF pt (vG tx) • iI ph hl base most • F)) (fun (⟨i, u⟩ : Nat × Value) => hl.length - i) ((0, .slice none 0 0)) Du rP ⟨by omega, H1.f4.f4.f4.gG none⟩ ?_
  rintro ⟨i, u⟩ w2 ⟨hi, HL⟩
  dsimp only [List.cons_append, List.nil_append]
  refine jw (aW (fG O O) (rV (dA O (fun h1 => ?_) (fun h1 => ?_))))
  · (try simp only [aF] at h1)
    refine iy (aO (bg (bY O (sS O ?_))))
    have hLen := uO hl tx place i
    refine aA (jy O O (dO O (bn 0 ah O aS O (bn 2 aK O lK O (fB jr O (HL.f2).get.2 O (dO O (bn 0 fF O aj O (fB aB O (HL.f3).get.2 O (aW (gy O O) (mX O (fun h2 => ?_) (fun h2 => ?_)))))))))))
    · (try simp only [aF] at h2)
      have hpl := h2
      refine bW (bT O (bW (bT O (bW (fE O func62 (vZ HL.f5.f5.f5.f5) ?_)))))
      rintro _ w3 ⟨rfl, H3⟩
      refine bW (bT O (bW (bT O (bW (fE O func111 (Je H3.f4.f2) ?_)))))
      rintro _ w4 ⟨rfl, H4⟩
      refine bW (aW (Qm O O) (nZ O O (jv O (fun h3 => ?_) (fun h3 => ?_))))
      · (try simp only [aF] at h3)
        have hsv := U9 (hl := hl) (tx := tx) (place := place) (i := i) (by unfold zF; rw [decide_eq_true hpl]; simpa using h3)
        refine aA (jy O O (jy O O (fE O func62 (vZ H4.f2.f4.f4.f4) ?_)))
        rintro _ w5 ⟨rfl, H5⟩
        refine aW (fA (zl := [.int .i64 0, .string .empty]) (pl := [(0, 1), (1, 1)]) [_, _] oL pX O (fun w => by kernel_rfl) O (.on (.on .nil)) O) ?_
        refine iY (og H5 iV sizeOf82 pX O O O (by decide) (by decide)) ?_
        rintro l6 w6 H6
        refine iY (eX H6.f6 iV Yj O O O ((H6).aN) (aG (aG bK)) (by omega) (by omega)) ?_
        rintro l7 w7 H7
        have Hd8 := H7.f2.right
        refine iC O (bZ (aP (aZ (aA (aW (fP O O (by omega)) (bT O (bZ ?_)))))))
        have hLen := uO hl tx place i
        refine dN ((i + 1, l7)) ?_ ?_ ?_ ?_
        · exact rP
        · exact Du
        · (try dsimp only)
          first | done | exact ⟨by omega, by first | (rw [hsv, List.length_append, List.flatMap_append]; exact Hd8.f5.f5.f5.f5.f5) | (rw [hsv]; exact Hd8.f5.f5.f5.f5.f5)⟩
        · (try dsimp only); omega
      · (try simp only [aF] at h3)
        have hsv := OM (hl := hl) (tx := tx) (place := place) (i := i) (by unfold zF; rw [decide_eq_true hpl]; simpa using h3)
        refine dS (aP (aZ (aA (aW (fP O O (by omega)) (bT O (bZ ?_))))))
        have hLen := uO hl tx place i
        refine dN ((i + 1, u)) ?_ ?_ ?_ ?_
        · exact rP
        · exact Du
        · (try dsimp only)
          first | done | exact ⟨by omega, by first | (rw [hsv, List.length_append, List.flatMap_append]; exact H4.f2.f4.f4.f4.f5) | (rw [hsv]; exact H4.f2.f4.f4.f4.f5)⟩
        · (try dsimp only); omega
    · (try simp only [aF] at h2)
      have hsv := OM (hl := hl) (tx := tx) (place := place) (i := i) (by unfold zF; rw [decide_eq_false (by simpa using h2)]; rfl)
      refine dF (dF (dF (dF (dF (dF (dF (kX O O (jd (vS (dS (aP (aZ (aA (aW (fP O O (by omega)) (bT O (bZ ?_))))))))))))))))
      have hLen := uO hl tx place i
      refine dN ((i + 1, u)) ?_ ?_ ?_ ?_
      · exact rP
      · exact Du
      · (try dsimp only)
        first | done | exact ⟨by omega, by first | (rw [hsv, List.length_append, List.flatMap_append]; exact HL.f5.f5.f5.f5.f5) | (rw [hsv]; exact HL.f5.f5.f5.f5.f5)⟩
      · (try dsimp only); omega
  · (try simp only [aF] at h1)
    refine eH (aT ?_)
    obtain rfl : i = hl.length := by omega
    refine aT (bU (aZ (aO (aO ?_))))
    have hLen := uO hl tx place hl.length
    refine aA (mJ O O (bn 0 ah O aS O (bn 2 aK O lK O (fB jr O (HL.f2).get.2 O (dO O (bn 0 fF O aj O (fB aB O (HL.f3).get.2 O (bT O (aW (gy O O) (jv O (fun h4 => ?_) (fun h4 => ?_)))))))))))
    · (try simp only [aF] at h4)
      have hsv : pW hl tx place = o9 hl tx place hl.length ++ [((hl.length : Int), dR hl tx hl.length)] := by unfold pW; rw [if_pos h4]
      refine aA (jy O O (jy O O (fE O func62 (vZ HL.f5.f5.f5.f5) ?_)))
      rintro _ w9 ⟨rfl, H9⟩
      refine aW (fA (zl := [.int .i64 0, .string .empty]) (pl := [(0, 1), (1, 1)]) [_, _] oL pX O (fun w => by kernel_rfl) O (.on (.on .nil)) O) ?_
      refine iY (og H9 iV sizeOf82 pX O O O (by decide) (by decide)) ?_
      rintro l10 w10 sF
      refine iY (eX sF.f6 iV Yj O O O ((sF).aN) (aG (aG bK)) (by omega) (by omega)) ?_
      rintro l11 Iq sG
      have PO := sG.f2.right
      refine iP O (bY O (ig O (fD results84 O ?_)))
      first
        | (rw [hsv, List.length_append, List.flatMap_append]; exact PO.f5.f5.f5.f5.f5)
        | (rw [hsv]; exact PO.f5.f5.f5.f5.f5)
    · (try simp only [aF] at h4)
      have hsv : pW hl tx place = o9 hl tx place hl.length := by unfold pW; rw [if_neg (by simpa using h4), List.append_nil]
      refine iy (bY O (ig O (fD results84 O ?_)))
      first
        | (rw [hsv, List.length_append, List.flatMap_append]; exact HL.f5.f5.f5.f5.f5)
        | (rw [hsv]; exact HL.f5.f5.f5.f5.f5)
theorem Zg {u0 u1 u2 u3 u4 u5 u6 u7 u8 u9 ua : Value} (hin : s.inn = true) (H : V w0 w (zW s.inn s.was [u0, u1, u2, u3, u4, u5, u6, u7, u8, u9, ua] • F)) : u6 = .int .i64 s.was.last ∧ u7 = .int .i64 s.was.fr ∧ u8 = .int .i64 s.was.to := by
  rw [hin] at H
  obtain ⟨qb, qr, qw, qt, qm, hu, -⟩ := H.was
  simp only [UN, List.cons.injEq, and_true] at hu
  exact ⟨hu.2.2.2.2.2.2.1, hu.2.2.2.2.2.2.2.1, hu.2.2.2.2.2.2.2.2.1⟩
set_option maxHeartbeats 1000000 in
theorem Eo (H : V w0 w (jq e s • F)) : iM prog 39 #[.pointer (some ⟨e, 0, none⟩)] w fun v w' => ∃ u ks us sv, v = .agg (Hz s u ks sv).toArray ∧
  V w0 w' (jR 21 .i32 u s.c.L • Row 23 1 ks s.c.E.length us • LY 21 .i32 us (uj s.c.E s.c.at_) • Row 82 2 sv s.saved.length (s.saved.flatMap BP) • jq e s • F) := by
 refine iQ func39 ntmps39 ?_
 obtain ⟨Ap, Aq, Ar, Au, Aw, Az, AA, AB, yE, xk, xq, xu, xw, xA, xB, xC, xE, xG, xH, xI, jf, dX, nG, kF⟩ := (H).Ox
 have hU : (s.c.un s.c.place).length ≤ 16384 := by
  obtain ⟨D, P, hD1, hD2, HU⟩ := (kF.f6).aaW
  by_cases hm : s.c.place ∈ D
  ·have HF := HU.swap
   rw [wV hm] at HF
   obtain ⟨_, _, _, _, k1, _⟩ := HF.flat.Ah
   have := k1.len; simpa using this
  ·rw [hD2 _ hm]; decide
 refine jw (iY (fK (l := [_, _, _, _, _, _, _, _, _, _, _, _, _, _, _, _, _]) kF je O) ?_)
 rintro _ w2 ⟨b2, rfl, H2⟩
 refine rV (bY O (fE O func49 (Fg H2.f2) ?_))
 rintro _ _ ⟨rfl, rfl⟩
 refine jd (vS (iy ?_))
 refine rU [(0, _)] (fun (⟨r, q, u, ks, sv, us⟩ : Nat × Nat × Value × Value × Value × List Value) => [(2, .pointer (some ⟨r, 0, none⟩)), (3, .pointer (some ⟨q, 0, none⟩))]) (fun (⟨r, q, u, ks, sv, us⟩ : Nat × Nat × Value × Value × Value × List Value) W => V w0 W (eF q (.cells (u :: .int .i64 s.c.pt :: .int .i64 s.c.mark :: .int .i64 s.c.mode :: .bool s.c.over :: .bool s.given :: .bool s.minus :: .int .i64 s.arg :: .int .i64 s.c.last :: .int .i64 s.c.fr :: .int .i64 s.c.to :: ks :: .int .i64 s.c.place :: sv :: .int .i64 s.Oq :: .int .i64 s.c.res :: .int .i64 s.sK :: []).toArray 79 (0, 0)) • jR 21 .i32 u s.c.L • Row 23 1 ks s.c.E.length us • LY 21 .i32 us (uj s.c.E s.c.at_) • Row 82 2 sv s.saved.length (s.saved.flatMap BP) • eF e (.cells (.pointer (some ⟨Ap, 0, none⟩) :: .pointer (some ⟨Aq, 0, none⟩) :: .pointer (some ⟨Ar, 0, none⟩) :: .map (some Aw) :: .int .i64 s.c.mode :: .bool s.c.over :: .int .i64 s.c.last :: .int .i64 s.c.fr :: .int .i64 s.c.to :: .int .i64 s.c.res :: .bool s.c.run :: .pointer (some ⟨Az, 0, none⟩) :: .pointer (some ⟨AA, 0, none⟩) :: .bool s.given :: .bool s.minus :: .int .i64 s.arg :: .bool s.inn :: xk :: xq :: xu :: xw :: xA :: xB :: xC :: xE :: xG :: xH :: xI :: .int .i64 s.cls :: .bool s.nV :: .bool s.lY :: .bool s.argues :: .bool s.whole :: AB :: []).toArray 113 (0, 0)) • ji Ap s.c.L s.c.pt s.c.mark • jV Aq s.c.E s.c.at_ • eF Ar (.cells #[.int .i64 s.c.place, .map (some Au)] 130 (0, 0)) • jM vF Au (vG s.c.tx) • Ag Aw s.c.un • iI Az s.hl s.base s.most • eF AA (.cells #[.int .i64 s.sK] 120 (0, 0)) • Row 183 3 AB s.put.length (yE.flatMap fJ.enc) • nX yE • zW s.inn s.was [xk, xq, xu, xw, xA, xB, xC, xE, xG, xH, xI] • eF r (.cells (.slice none 0 0 :: .int .i64 0 :: .int .i64 0 :: .int .i64 0 :: .bool false :: .bool false :: .bool false :: .int .i64 0 :: .int .i64 0 :: .int .i64 0 :: .int .i64 0 :: .slice none 0 0 :: .int .i64 0 :: .slice none 0 0 :: .int .i64 0 :: .int .i64 0 :: .int .i64 0 :: []).toArray 79 (0, 0)) • F)) oO ?_ ?_
 ·rintro ⟨r, q, u, ks, sv, us⟩ w4 HJ
  dsimp only [List.cons_append, List.nil_append]
  refine aO (bY O (dO O (bn 16 ah O aQ O (fB cZ O (HJ.f6).get.2 O (jv O (fun h1 => ?_) (fun h1 => ?_))))))
  ·(try simp only [aF] at h1)
   have hin := h1
   obtain ⟨rfl, rfl, rfl⟩ := Zg hin HJ.f16
   have Jf := HJ.drew
   have mM := V.kp (Jf.right.f16.f16.f16.f16.f16.f16.f16.f16.f16.f16.f16.f16.f16.f16.f16.f16)
   refine uU [4, 9, 14] mM O (gQ 0 O mM O (jQ 1 O mM O (fQ 2 O mM 17 ah O aS O (fQ 3 O mM 6 aK O aj O (iO 4 O mM (fun W hW => jT aB O ((Kp.h hW).f5).get.2 O) (gQ 5 O mM O (jQ 6 O mM O (fQ 7 O mM 17 ah O aS O (fQ 8 O mM 7 aK O aj O (iO 9 O mM (fun W hW => jT aB O ((Kp.h hW).f5).get.2 O) (gQ 10 O mM O (jQ 11 O mM O (fQ 12 O mM 17 ah O aS O (fQ 13 O mM 8 aK O aj O (iO 14 O mM (fun W hW => jT aB O ((Kp.h hW).f5).get.2 O) (fQ 15 O mM 8 dY O aj O ?_))))))))))))))))
   refine gU 16 O (by kernel_rfl) (adU 8 Jf aj) ?_
   rintro _ w5 H5
   have vw := V.kp (H5.right.f16.f16.f16.f16.f16.f16.f16.f16.f16.f16.f16.f16.f16.f16.f16.f16)
   refine dZ vw (fun W hW => (Kp.h hW).f16.f16.f16.f16.f16.f16.f16.f16.f16.f16.f16.f16.f16.f16.f16.f16) ?_
   refine fQ 17 O vw 9 dY O aj O ?_
   refine gU 18 O (by kernel_rfl) (adU 9 H5 aj) ?_
   rintro _ w6 H6
   have wJ := V.kp (H6.f17.f17.f17.f17.f17.f17.f17.f17.f17.f17.f17.f17.f17.f17.f17.f17.f17)
   refine dZ wJ (fun W hW => (Kp.h hW).right.f16.f16.f16.f16.f16.f16.f16.f16.f16.f16.f16.f16.f16.f16.f16.f16) ?_
   refine fQ 19 O wJ 10 dY O aj O ?_
   refine gU 20 O (by kernel_rfl) (adU 10 H6 aj) ?_
   rintro _ w7 H7
   have BK := V.kp (H7.f17.f17.f17.f17.f17.f17.f17.f17.f17.f17.f17.f17.f17.f17.f17.f17.f17)
   refine fH BK (by kernel_rfl) ?_
   refine qj (aZ (jw (aW (dI dY O pF O O (H7).get.2) (aI (dG 0 (l' := [_, _, _, _, _, _, _, _, _, _, _, _, _, _, _, _, _]) (us := [_, _, _, _, _, _, _, _, _, _, _, _, _, _, _, _, _]) H7.f17 pF O O O (aY (by first | rfl | exact Rd.one ((H7.f2).aN)) (aG (aG (aG (aG (aG (aG (aG (aG (aG (aG (aY (by first | rfl | exact Rd.one ((H7.f3).aN)) (aG (aY (by first | rfl | exact Rd.one ((H7.f5).aN)) (aG (aG (aG bK))))))))))))))))) O O) ?_))))
   rintro _ w8 H8
   refine zkc ?_
   refine rW (.inl O) (Lr results39 O dY O (by rw [abr]; rfl) (H8).get.2) ?_
   have Om := H8.f17.f17.f17.f17.f17.f17.f17.f17.f17.f17.f17
   have LU := V.jX (s := s) jf dX Om
   refine ⟨u, ks, us, sv, ?_, LU.f2.right.f2.right.f5.f5.f5.f5⟩
   unfold Hz dw.zV dw.UA dw.UC
   rw [hin]
   rfl
  ·(try simp only [aF] at h1)
   have hin := h1
   refine iy (jw (aW (dI dY O pF O O (HJ).get.2) (aI (dG 0 (l' := [_, _, _, _, _, _, _, _, _, _, _, _, _, _, _, _, _]) (us := [_, _, _, _, _, _, _, _, _, _, _, _, _, _, _, _, _]) HJ.f17 pF O O O (aY (by first | rfl | exact Rd.one ((HJ.f2).aN)) (aG (aG (aG (aG (aG (aG (aG (aG (aG (aG (aY (by first | rfl | exact Rd.one ((HJ.f3).aN)) (aG (aY (by first | rfl | exact Rd.one ((HJ.f5).aN)) (aG (aG (aG bK))))))))))))))))) O O) ?_)))
   rintro _ w12 tN
   refine zkc ?_
   refine rW (.inl O) (Lr results39 O dY O (by rw [abr]; rfl) (tN).get.2) ?_
   have Sv := tN.f17.f17.f17.f17.f17.f17.f17.f17.f17.f17.f17
   have Sz := V.jX (s := s) jf dX Sv
   refine ⟨u, ks, us, sv, ?_, Sz.f2.right.f2.right.f5.f5.f5.f5⟩
   unfold Hz dw.zV dw.UA dw.UC
   rw [hin]
   rfl
 ·skip
  have abt := H2.drew
  have gJ := V.kp (abt.f7.right.f7.right.f10.f10.f10.f10.f10.f10.f10.f10.f10.f10)
  refine uU [6, 11, 15, 19, 23, 28, 33, 38, 45, 48, 57, 61] gJ O (gQ 0 O gJ O (gQ 2 O gJ O (jQ 3 O gJ O (fQ 4 O gJ 0 ah O aS O (fQ 5 O gJ 4 aK O aj O (iO 6 O gJ (fun W hW => jT aB O ((Kp.h hW).f2).get.2 O) (gQ 7 O gJ O (jQ 8 O gJ O (fQ 9 O gJ 0 ah O aS O (fQ 10 O gJ 5 aK O aQ O (iO 11 O gJ (fun W hW => jT cZ O ((Kp.h hW).f2).get.2 O) (gQ 12 O gJ O (jQ 13 O gJ O (fQ 14 O gJ 13 ah O aQ O (iO 15 O gJ (fun W hW => jT cZ O ((Kp.h hW).f2).get.2 O) (gQ 16 O gJ O (jQ 17 O gJ O (fQ 18 O gJ 14 ah O aQ O (iO 19 O gJ (fun W hW => jT cZ O ((Kp.h hW).f2).get.2 O) (gQ 20 O gJ O (jQ 21 O gJ O (fQ 22 O gJ 15 ah O aj O (iO 23 O gJ (fun W hW => jT aB O ((Kp.h hW).f2).get.2 O) (gQ 24 O gJ O (jQ 25 O gJ O (fQ 26 O gJ 0 ah O aS O (fQ 27 O gJ 6 aK O aj O (iO 28 O gJ (fun W hW => jT aB O ((Kp.h hW).f2).get.2 O) (gQ 29 O gJ O (jQ 30 O gJ O (fQ 31 O gJ 0 ah O aS O (fQ 32 O gJ 7 aK O aj O (iO 33 O gJ (fun W hW => jT aB O ((Kp.h hW).f2).get.2 O) (gQ 34 O gJ O (jQ 35 O gJ O (fQ 36 O gJ 0 ah O aS O (fQ 37 O gJ 8 aK O aj O (iO 38 O gJ (fun W hW => jT aB O ((Kp.h hW).f2).get.2 O) (gQ 39 O gJ O ?_)))))))))))))))))))))))))))))))))))))))
  refine gQ 41 O gJ O (jQ 42 O gJ O (fQ 43 O gJ 0 ah O aS O (fQ 44 O gJ 2 aK O lK O (iO 45 O gJ (fun W hW => jT jr O ((Kp.h hW).f2).get.2 O) (jQ 46 O gJ O (fQ 47 O gJ 0 fF O aj O (iO 48 O gJ (fun W hW => jT aB O ((Kp.h hW).f5).get.2 O) (gQ 49 O gJ O (gQ 51 O gJ O (gQ 53 O gJ O (jQ 54 O gJ O (fQ 55 O gJ 0 ah O aS O (fQ 56 O gJ 9 aK O aj O (iO 57 O gJ (fun W hW => jT aB O ((Kp.h hW).f2).get.2 O) (gQ 58 O gJ O (jQ 59 O gJ O (fQ 60 O gJ 12 ah O sizeOf111 O (iO 61 O gJ (fun W hW => jT underlying111 O ((Kp.h hW).f2).get.2 O) ?_))))))))))))))))))
  refine CZ (i := 1) (j := 64) (by kernel_rfl) ?_ ?_
  ·skip
   refine ng 1 O (by kernel_rfl) (Ae (Af O func18 O O) (KR abt.f3.f3)) (lI O) ?_
   rintro _ w16 ⟨u16, rfl, yj⟩
   have IZ := V.kp (yj.f8.right.f8.right.f11.f11.f11.f11.f11.f11.f11.f11.f11.f11.f11)
   refine dZ IZ (fun W hW => (Kp.h hW).right.f10.f10.f10.f10.f10.f10.f10.f9.f9.f10) ?_
   refine CZ (i := 40) (j := 64) (by kernel_rfl) ?_ ?_
   ·skip
    refine ng 40 O (by kernel_rfl) (Ae (Af O func83 O O) (En yj.f5.f3)) (lI O) ?_
    rintro u17 w17 ⟨ajl, EH⟩
    have Gt := V.kp (EH.f10.right.f10.right.f13.f13.f13.f13.f13.f13.f13.f13.f13.f13.f13.f13.f13)
    refine dZ Gt (fun W hW => (Kp.h hW).right.right.f11.f11.f11.f11.f11.f11.f8.f11.f11.f10.f11) ?_
    refine CZ (i := 50) (j := 64) (by kernel_rfl) ?_ ?_
    ·skip
     refine ng 50 O (by kernel_rfl) (Ae (Af O func84 O O) (AO EH.f11.f10.f10.f6)) (lI O) ?_
     rintro u18 ZN EM
     have E8 := V.kp (EM.f12.right.f15.f15.f15.f15.f15.f15.f15.f15.f15.f15.f15.f15.f15.f15.f15)
     refine dZ E8 (fun W hW => (Kp.h hW).right.f4.right.f13.f13.f13.f13.f7.f7.f13.f13.f13.f13.f11.f13.f13) ?_
     refine CZ (i := 52) (j := 64) (by kernel_rfl) ?_ ?_
     ·skip
      refine ng 52 O (by kernel_rfl) (Ae (Af O func85 O O) (wo EM.f14.f13.f5.f5 hU)) (lI O) ?_
      rintro _ ZO ⟨rfl, DY⟩
      have UK := V.kp (DY.f16.f16.f16.f16.f16.f16.f16.f16.f16.f16.f16.f16.f16.f16.f16.f16)
      refine dZ UK (fun W hW => (Kp.h hW).f3.right.f15.f15.f5.f15.f15.f15.f15.f15.f15.f15.f15.f15.f14.f14.f15) ?_
      refine CZ (i := 62) (j := 64) (by kernel_rfl) ?_ ?_
      ·skip
       refine ng 62 O (by kernel_rfl) (Ae (Af O func86 O O) (tV DY.f14)) (lI O) ?_
       rintro _ _ ⟨rfl, rfl⟩
       have I7 := V.kp (DY.f16.f16.f16.f16.f16.f16.f16.f16.f16.f16.f16.f16.f16.f16.f16.f16)
       refine dZ I7 (fun W hW => (Kp.h hW).f16.f16.f16.f16.f16.f16.f16.f16.f16.f16.f16.f16.f16.f16.f16.f16) ?_
       refine iL 63 O I7 (fun _ => fA (zl := [.slice none 0 0, .int .i64 0, .int .i64 0, .int .i64 0, .bool false, .bool false, .bool false, .int .i64 0, .int .i64 0, .int .i64 0, .int .i64 0, .slice none 0 0, .int .i64 0, .slice none 0 0, .int .i64 0, .int .i64 0, .int .i64 0]) (pl := [(0, 3), (3, 1), (4, 1), (5, 1), (6, 1), (7, 1), (8, 1), (9, 1), (10, 1), (11, 1), (12, 1), (13, 1), (14, 1), (15, 1), (16, 1)]) [_, _, _, _, _, _, _, _, _, _, _, _, _, _, _, _, _] dY je O (fun w => by kernel_rfl) O (.agg (us := [_, _, _]) (zs := [.slice none 0 0, .int .i64 0, .int .i64 0]) O O (.on (.on (.on (.on (.on (.on (.on (.on (.one (Rd.one ((DY.f8).aN)) (.on (.one (Rd.one ((DY.f5).aN)) (.on (.on (.on .nil))))))))))))))) O) ?_
       refine lU 64 O (fK (l := [_, _, _, _, _, _, _, _, _, _, _, _, _, _, _, _, _]) DY je O) ?_
       rintro _ YU ⟨b21, rfl, wG⟩
       have abu := V.kp (wG.f17.f17.f17.f17.f17.f17.f17.f17.f17.f17.f17.f17.f17.f17.f17.f17.f17)
       refine dZ abu (fun W hW => (Kp.h hW).right.f16.f16.f16.f16.f16.f16.f16.f16.f16.f16.f16.f16.f16.f16.f16.f16) ?_
       refine gU 65 O (by kernel_rfl) (dG 0 (l' := [_, _, _, _, _, _, _, _, _, _, _, _, _, _, _, _, _]) (us := [_, _, _, _, _, _, _, _, _, _, _, _, _, _, _, _, _]) wG pF O O O (aY (by first | rfl | exact Rd.one ((wG.f12).aN)) (aG (aG (aG (aG (aG (aG (aG (aG (aG (aG (aY (by first | rfl | exact Rd.one ((wG.f9).aN)) (aG (aY (by first | rfl | exact Rd.one ((wG.f6).aN)) (aG (aG (aG bK))))))))))))))))) O O) ?_
       rintro _ w22 IQ
       have I8 := V.kp (IQ.f17.f17.f17.f17.f17.f17.f17.f17.f17.f17.f17.f17.f17.f17.f17.f17.f17)
       refine fH I8 (by kernel_rfl) ?_
       refine qj ?_
       refine gB (_, _, _, _, _, _) rP oO (by (try dsimp only); exact IQ.f14.f17.f17.f8.f17.f12.f10.f12.f11.f15.f17.f13.f14.f16.f16.f17.f17)
      ·skip
       refine ng 64 O (by kernel_rfl) (fK (l := [_, _, _, _, _, _, _, _, _, _, _, _, _, _, _, _, _]) DY je O) (lI O) ?_
       rintro _ YV ⟨b23, rfl, DC⟩
       have EC := V.kp (DC.f17.f17.f17.f17.f17.f17.f17.f17.f17.f17.f17.f17.f17.f17.f17.f17.f17)
       refine dZ EC (fun W hW => (Kp.h hW).right.f16.f16.f16.f16.f16.f16.f16.f16.f16.f16.f16.f16.f16.f16.f16.f16) ?_
       refine lU 62 O (wY O func86 (tV DC.f15)) ?_
       rintro _ _ ⟨rfl, rfl⟩
       have Jb := V.kp (DC.f17.f17.f17.f17.f17.f17.f17.f17.f17.f17.f17.f17.f17.f17.f17.f17.f17)
       refine dZ Jb (fun W hW => (Kp.h hW).f17.f17.f17.f17.f17.f17.f17.f17.f17.f17.f17.f17.f17.f17.f17.f17.f17) ?_
       refine iL 63 O Jb (fun _ => fA (zl := [.slice none 0 0, .int .i64 0, .int .i64 0, .int .i64 0, .bool false, .bool false, .bool false, .int .i64 0, .int .i64 0, .int .i64 0, .int .i64 0, .slice none 0 0, .int .i64 0, .slice none 0 0, .int .i64 0, .int .i64 0, .int .i64 0]) (pl := [(0, 3), (3, 1), (4, 1), (5, 1), (6, 1), (7, 1), (8, 1), (9, 1), (10, 1), (11, 1), (12, 1), (13, 1), (14, 1), (15, 1), (16, 1)]) [_, _, _, _, _, _, _, _, _, _, _, _, _, _, _, _, _] dY je O (fun w => by kernel_rfl) O (.agg (us := [_, _, _]) (zs := [.slice none 0 0, .int .i64 0, .int .i64 0]) O O (.on (.on (.on (.on (.on (.on (.on (.on (.one (Rd.one ((DC.f9).aN)) (.on (.one (Rd.one ((DC.f6).aN)) (.on (.on (.on .nil))))))))))))))) O) ?_
       refine gU 65 O (by kernel_rfl) (dG 0 (l' := [_, _, _, _, _, _, _, _, _, _, _, _, _, _, _, _, _]) (us := [_, _, _, _, _, _, _, _, _, _, _, _, _, _, _, _, _]) DC pF O O O (aY (by first | rfl | exact Rd.one ((DC.f12).aN)) (aG (aG (aG (aG (aG (aG (aG (aG (aG (aG (aY (by first | rfl | exact Rd.one ((DC.f9).aN)) (aG (aY (by first | rfl | exact Rd.one ((DC.f6).aN)) (aG (aG (aG bK))))))))))))))))) O O) ?_
       rintro _ w25 NZ
       have aa4 := V.kp (NZ.f17.f17.f17.f17.f17.f17.f17.f17.f17.f17.f17.f17.f17.f17.f17.f17.f17)
       refine fH aa4 (by kernel_rfl) ?_
       refine qj ?_
       refine gB (_, _, _, _, _, _) rP oO (by (try dsimp only); exact NZ.f14.f17.f17.f8.f17.f12.f10.f12.f11.f15.f17.f13.f14.f16.f16.f17.f17)
     ·skip
      refine ng 64 O (by kernel_rfl) (fK (l := [_, _, _, _, _, _, _, _, _, _, _, _, _, _, _, _, _]) EM je O) (lI O) ?_
      rintro _ w26 ⟨b26, rfl, Gh⟩
      have QK := V.kp (Gh.f13.right.f16.f16.f16.f16.f16.f16.f16.f16.f16.f16.f16.f16.f16.f16.f16.f16)
      refine dZ QK (fun W hW => (Kp.h hW).right.f15.f15.f15.f15.f15.f15.f15.f15.f15.f15.f15.f15.f15.f15.f15) ?_
      refine lU 52 O (wY O func85 (wo Gh.f15.f14.f6.f6 hU)) ?_
      rintro _ w27 ⟨rfl, JO⟩
      have abv := V.kp (JO.f17.f17.f17.f17.f17.f17.f17.f17.f17.f17.f17.f17.f17.f17.f17.f17.f17)
      refine dZ abv (fun W hW => (Kp.h hW).f3.right.f16.f16.f5.f16.f16.f16.f16.f16.f16.f16.f16.f16.f14.f14.f16.f16) ?_
      refine lU 62 O (wY O func86 (tV JO.f15)) ?_
      rintro _ _ ⟨rfl, rfl⟩
      have QL := V.kp (JO.f17.f17.f17.f17.f17.f17.f17.f17.f17.f17.f17.f17.f17.f17.f17.f17.f17)
      refine dZ QL (fun W hW => (Kp.h hW).f17.f17.f17.f17.f17.f17.f17.f17.f17.f17.f17.f17.f17.f17.f17.f17.f17) ?_
      refine iL 63 O QL (fun _ => fA (zl := [.slice none 0 0, .int .i64 0, .int .i64 0, .int .i64 0, .bool false, .bool false, .bool false, .int .i64 0, .int .i64 0, .int .i64 0, .int .i64 0, .slice none 0 0, .int .i64 0, .slice none 0 0, .int .i64 0, .int .i64 0, .int .i64 0]) (pl := [(0, 3), (3, 1), (4, 1), (5, 1), (6, 1), (7, 1), (8, 1), (9, 1), (10, 1), (11, 1), (12, 1), (13, 1), (14, 1), (15, 1), (16, 1)]) [_, _, _, _, _, _, _, _, _, _, _, _, _, _, _, _, _] dY je O (fun w => by kernel_rfl) O (.agg (us := [_, _, _]) (zs := [.slice none 0 0, .int .i64 0, .int .i64 0]) O O (.on (.on (.on (.on (.on (.on (.on (.on (.one (Rd.one ((JO.f9).aN)) (.on (.one (Rd.one ((JO.f6).aN)) (.on (.on (.on .nil))))))))))))))) O) ?_
      refine gU 65 O (by kernel_rfl) (dG 0 (l' := [_, _, _, _, _, _, _, _, _, _, _, _, _, _, _, _, _]) (us := [_, _, _, _, _, _, _, _, _, _, _, _, _, _, _, _, _]) JO.f5 pF O O O (aY (by first | rfl | exact Rd.one ((JO.f12).aN)) (aG (aG (aG (aG (aG (aG (aG (aG (aG (aG (aY (by first | rfl | exact Rd.one ((JO.f9).aN)) (aG (aY (by first | rfl | exact Rd.one ((JO.f6).aN)) (aG (aG (aG bK))))))))))))))))) O O) ?_
      rintro _ w29 JQ
      have abw := V.kp (JQ.f17.f17.f17.f17.f17.f17.f17.f17.f17.f17.f17.f17.f17.f17.f17.f17.f17)
      refine fH abw (by kernel_rfl) ?_
      refine qj ?_
      refine gB (_, _, _, _, _, _) rP oO (by (try dsimp only); exact JQ.f14.f17.f17.f8.f17.f12.f10.f12.f11.f15.f17.f13.f14.f16.f16.f17.f17)
    ·skip
     refine ng 64 O (by kernel_rfl) (fK (l := [_, _, _, _, _, _, _, _, _, _, _, _, _, _, _, _, _]) EH je O) (lI O) ?_
     rintro _ w30 ⟨b30, rfl, PG⟩
     have afZ := V.kp (PG.f11.right.f11.right.f14.f14.f14.f14.f14.f14.f14.f14.f14.f14.f14.f14.f14.f14)
     refine dZ afZ (fun W hW => (Kp.h hW).right.f13.f13.f13.f13.f13.f13.f13.f13.f13.f13.f13.f13.f13) ?_
     refine lU 50 O (wY O func84 (AO PG.f12.f11.f11.f7)) ?_
     rintro u31 w31 Rz
     have aa5 := V.kp (Rz.f13.right.f16.f16.f16.f16.f16.f16.f16.f16.f16.f16.f16.f16.f16.f16.f16.f16)
     refine dZ aa5 (fun W hW => (Kp.h hW).right.f4.right.f14.f14.f14.f14.f7.f7.f14.f14.f14.f14.f11.f14.f14.f14) ?_
     refine lU 52 O (wY O func85 (wo Rz.f15.f14.f5.f5 hU)) ?_
     rintro _ w32 ⟨rfl, Pn⟩
     have Ya := V.kp (Pn.f17.f17.f17.f17.f17.f17.f17.f17.f17.f17.f17.f17.f17.f17.f17.f17.f17)
     refine dZ Ya (fun W hW => (Kp.h hW).f3.right.f16.f16.f5.f16.f16.f16.f16.f16.f16.f16.f16.f16.f16.f15.f15.f16) ?_
     refine lU 62 O (wY O func86 (tV Pn.f15)) ?_
     rintro _ _ ⟨rfl, rfl⟩
     have Yb := V.kp (Pn.f17.f17.f17.f17.f17.f17.f17.f17.f17.f17.f17.f17.f17.f17.f17.f17.f17)
     refine dZ Yb (fun W hW => (Kp.h hW).f17.f17.f17.f17.f17.f17.f17.f17.f17.f17.f17.f17.f17.f17.f17.f17.f17) ?_
     refine iL 63 O Yb (fun _ => fA (zl := [.slice none 0 0, .int .i64 0, .int .i64 0, .int .i64 0, .bool false, .bool false, .bool false, .int .i64 0, .int .i64 0, .int .i64 0, .int .i64 0, .slice none 0 0, .int .i64 0, .slice none 0 0, .int .i64 0, .int .i64 0, .int .i64 0]) (pl := [(0, 3), (3, 1), (4, 1), (5, 1), (6, 1), (7, 1), (8, 1), (9, 1), (10, 1), (11, 1), (12, 1), (13, 1), (14, 1), (15, 1), (16, 1)]) [_, _, _, _, _, _, _, _, _, _, _, _, _, _, _, _, _] dY je O (fun w => by kernel_rfl) O (.agg (us := [_, _, _]) (zs := [.slice none 0 0, .int .i64 0, .int .i64 0]) O O (.on (.on (.on (.on (.on (.on (.on (.on (.one (Rd.one ((Pn.f9).aN)) (.on (.one (Rd.one ((Pn.f5).aN)) (.on (.on (.on .nil))))))))))))))) O) ?_
     refine gU 65 O (by kernel_rfl) (dG 0 (l' := [_, _, _, _, _, _, _, _, _, _, _, _, _, _, _, _, _]) (us := [_, _, _, _, _, _, _, _, _, _, _, _, _, _, _, _, _]) Pn.f8 pF O O O (aY (by first | rfl | exact Rd.one ((Pn.f12).aN)) (aG (aG (aG (aG (aG (aG (aG (aG (aG (aG (aY (by first | rfl | exact Rd.one ((Pn.f9).aN)) (aG (aY (by first | rfl | exact Rd.one ((Pn.f5).aN)) (aG (aG (aG bK))))))))))))))))) O O) ?_
     rintro _ w34 UU
     have KN := V.kp (UU.f17.f17.f17.f17.f17.f17.f17.f17.f17.f17.f17.f17.f17.f17.f17.f17.f17)
     refine fH KN (by kernel_rfl) ?_
     refine qj ?_
     refine gB (_, _, _, _, _, _) rP oO (by (try dsimp only); exact UU.f14.f17.f17.f8.f17.f12.f10.f12.f11.f15.f17.f13.f14.f16.f16.f17.f17)
   ·skip
    refine ng 64 O (by kernel_rfl) (fK (l := [_, _, _, _, _, _, _, _, _, _, _, _, _, _, _, _, _]) yj je O) (lI O) ?_
    rintro _ w35 ⟨b35, rfl, ZQ⟩
    have aa6 := V.kp (ZQ.f9.right.f9.right.f12.f12.f12.f12.f12.f12.f12.f12.f12.f12.f12.f12)
    refine dZ aa6 (fun W hW => (Kp.h hW).right.f11.f11.f11.f11.f11.f11.f11.f11.f11.f11.f11) ?_
    refine lU 40 O (wY O func83 (En ZQ.f6.f4)) ?_
    rintro u36 w36 ⟨ajm, H36⟩
    have Yk := V.kp (H36.f11.right.f11.right.f14.f14.f14.f14.f14.f14.f14.f14.f14.f14.f14.f14.f14.f14)
    refine dZ Yk (fun W hW => (Kp.h hW).right.right.f12.f12.f12.f12.f12.f12.f8.f12.f12.f10.f12.f12) ?_
    refine lU 50 O (wY O func84 (AO H36.f12.f11.f11.f6)) ?_
    rintro u37 w37 UW
    have abx := V.kp (UW.f13.right.f16.f16.f16.f16.f16.f16.f16.f16.f16.f16.f16.f16.f16.f16.f16.f16)
    refine dZ abx (fun W hW => (Kp.h hW).right.f4.right.f14.f14.f14.f14.f7.f7.f14.f14.f14.f14.f14.f12.f14.f14) ?_
    refine lU 52 O (wY O func85 (wo UW.f15.f14.f5.f5 hU)) ?_
    rintro _ w38 ⟨rfl, QG⟩
    have af0 := V.kp (QG.f17.f17.f17.f17.f17.f17.f17.f17.f17.f17.f17.f17.f17.f17.f17.f17.f17)
    refine dZ af0 (fun W hW => (Kp.h hW).f3.right.f16.f16.f5.f16.f16.f16.f16.f16.f16.f16.f16.f16.f16.f15.f15.f16) ?_
    refine lU 62 O (wY O func86 (tV QG.f15)) ?_
    rintro _ _ ⟨rfl, rfl⟩
    have U4 := V.kp (QG.f17.f17.f17.f17.f17.f17.f17.f17.f17.f17.f17.f17.f17.f17.f17.f17.f17)
    refine dZ U4 (fun W hW => (Kp.h hW).f17.f17.f17.f17.f17.f17.f17.f17.f17.f17.f17.f17.f17.f17.f17.f17.f17) ?_
    refine iL 63 O U4 (fun _ => fA (zl := [.slice none 0 0, .int .i64 0, .int .i64 0, .int .i64 0, .bool false, .bool false, .bool false, .int .i64 0, .int .i64 0, .int .i64 0, .int .i64 0, .slice none 0 0, .int .i64 0, .slice none 0 0, .int .i64 0, .int .i64 0, .int .i64 0]) (pl := [(0, 3), (3, 1), (4, 1), (5, 1), (6, 1), (7, 1), (8, 1), (9, 1), (10, 1), (11, 1), (12, 1), (13, 1), (14, 1), (15, 1), (16, 1)]) [_, _, _, _, _, _, _, _, _, _, _, _, _, _, _, _, _] dY je O (fun w => by kernel_rfl) O (.agg (us := [_, _, _]) (zs := [.slice none 0 0, .int .i64 0, .int .i64 0]) O O (.on (.on (.on (.on (.on (.on (.on (.on (.one (Rd.one ((QG.f8).aN)) (.on (.one (Rd.one ((QG.f5).aN)) (.on (.on (.on .nil))))))))))))))) O) ?_
    refine gU 65 O (by kernel_rfl) (dG 0 (l' := [_, _, _, _, _, _, _, _, _, _, _, _, _, _, _, _, _]) (us := [_, _, _, _, _, _, _, _, _, _, _, _, _, _, _, _, _]) QG.f11 pF O O O (aY (by first | rfl | exact Rd.one ((QG.f12).aN)) (aG (aG (aG (aG (aG (aG (aG (aG (aG (aG (aY (by first | rfl | exact Rd.one ((QG.f8).aN)) (aG (aY (by first | rfl | exact Rd.one ((QG.f5).aN)) (aG (aG (aG bK))))))))))))))))) O O) ?_
    rintro _ w40 H40
    have af1 := V.kp (H40.f17.f17.f17.f17.f17.f17.f17.f17.f17.f17.f17.f17.f17.f17.f17.f17.f17)
    refine fH af1 (by kernel_rfl) ?_
    refine qj ?_
    refine gB (_, _, _, _, _, _) rP oO (by (try dsimp only); exact H40.f14.f17.f17.f8.f17.f12.f10.f12.f11.f15.f17.f13.f14.f16.f16.f17.f17)
  ·skip
   refine ng 64 O (by kernel_rfl) (fK (l := [_, _, _, _, _, _, _, _, _, _, _, _, _, _, _, _, _]) abt je O) (lI O) ?_
   rintro _ w41 ⟨b41, rfl, H41⟩
   have aa7 := V.kp (H41.f8.right.f8.right.f11.f11.f11.f11.f11.f11.f11.f11.f11.f11.f11)
   refine dZ aa7 (fun W hW => (Kp.h hW).right.f10.f10.f10.f10.f10.f10.f10.f10.f10.f10) ?_
   refine lU 1 O (wY O func18 (KR H41.f4.f4)) ?_
   rintro _ w42 ⟨u42, rfl, WT⟩
   have QH := V.kp (WT.f9.right.f9.right.f12.f12.f12.f12.f12.f12.f12.f12.f12.f12.f12.f12)
   refine dZ QH (fun W hW => (Kp.h hW).right.f11.f11.f11.f11.f11.f11.f11.f9.f9.f11.f11) ?_
   refine lU 40 O (wY O func83 (En WT.f6.f3)) ?_
   rintro u43 w43 ⟨ajn, WU⟩
   have aa8 := V.kp (WU.f11.right.f11.right.f14.f14.f14.f14.f14.f14.f14.f14.f14.f14.f14.f14.f14.f14)
   refine dZ aa8 (fun W hW => (Kp.h hW).right.right.f12.f12.f12.f12.f12.f12.f8.f12.f12.f12.f11.f12) ?_
   refine lU 50 O (wY O func84 (AO WU.f12.f11.f11.f6)) ?_
   rintro u44 w44 H44
   have af2 := V.kp (H44.f13.right.f16.f16.f16.f16.f16.f16.f16.f16.f16.f16.f16.f16.f16.f16.f16.f16)
   refine dZ af2 (fun W hW => (Kp.h hW).right.f4.right.f14.f14.f14.f14.f7.f7.f14.f14.f14.f14.f14.f12.f14.f14) ?_
   refine lU 52 O (wY O func85 (wo H44.f15.f14.f5.f5 hU)) ?_
   rintro _ w45 ⟨rfl, VR⟩
   have af3 := V.kp (VR.f17.f17.f17.f17.f17.f17.f17.f17.f17.f17.f17.f17.f17.f17.f17.f17.f17)
   refine dZ af3 (fun W hW => (Kp.h hW).f3.right.f16.f16.f5.f16.f16.f16.f16.f16.f16.f16.f16.f16.f16.f15.f15.f16) ?_
   refine lU 62 O (wY O func86 (tV VR.f15)) ?_
   rintro _ _ ⟨rfl, rfl⟩
   have adC := V.kp (VR.f17.f17.f17.f17.f17.f17.f17.f17.f17.f17.f17.f17.f17.f17.f17.f17.f17)
   refine dZ adC (fun W hW => (Kp.h hW).f17.f17.f17.f17.f17.f17.f17.f17.f17.f17.f17.f17.f17.f17.f17.f17.f17) ?_
   refine iL 63 O adC (fun _ => fA (zl := [.slice none 0 0, .int .i64 0, .int .i64 0, .int .i64 0, .bool false, .bool false, .bool false, .int .i64 0, .int .i64 0, .int .i64 0, .int .i64 0, .slice none 0 0, .int .i64 0, .slice none 0 0, .int .i64 0, .int .i64 0, .int .i64 0]) (pl := [(0, 3), (3, 1), (4, 1), (5, 1), (6, 1), (7, 1), (8, 1), (9, 1), (10, 1), (11, 1), (12, 1), (13, 1), (14, 1), (15, 1), (16, 1)]) [_, _, _, _, _, _, _, _, _, _, _, _, _, _, _, _, _] dY je O (fun w => by kernel_rfl) O (.agg (us := [_, _, _]) (zs := [.slice none 0 0, .int .i64 0, .int .i64 0]) O O (.on (.on (.on (.on (.on (.on (.on (.on (.one (Rd.one ((VR.f8).aN)) (.on (.one (Rd.one ((VR.f5).aN)) (.on (.on (.on .nil))))))))))))))) O) ?_
   refine gU 65 O (by kernel_rfl) (dG 0 (l' := [_, _, _, _, _, _, _, _, _, _, _, _, _, _, _, _, _]) (us := [_, _, _, _, _, _, _, _, _, _, _, _, _, _, _, _, _]) VR.f13 pF O O O (aY (by first | rfl | exact Rd.one ((VR.f11).aN)) (aG (aG (aG (aG (aG (aG (aG (aG (aG (aG (aY (by first | rfl | exact Rd.one ((VR.f8).aN)) (aG (aY (by first | rfl | exact Rd.one ((VR.f5).aN)) (aG (aG (aG bK))))))))))))))))) O O) ?_
   rintro _ w47 H47
   have af4 := V.kp (H47.f17.f17.f17.f17.f17.f17.f17.f17.f17.f17.f17.f17.f17.f17.f17.f17.f17)
   refine fH af4 (by kernel_rfl) ?_
   refine qj ?_
   refine gB (_, _, _, _, _, _) rP oO (by (try dsimp only); exact H47.f14.f17.f17.f8.f17.f12.f10.f12.f11.f15.f17.f13.f14.f16.f16.f17.f17)
end
def ends (T : List (Int × Int)) : List Int := T.flatMap fun x => [x.1, x.2]
section
variable {w0 w : World} {F : HP} {r : Int}
theorem SE : iM prog 162 #[.int .i32 r] w fun v w' => v = .bool (kN r) ∧ w = w' := by
  refine iQ func162 ntmps162 ?_
  refine kQ O (bY O (aW (nM O O) (mX O (fun h1 => ?_) (fun h1 => ?_))))
  · (try simp only [aF] at h1)
    refine bW (bT O (bW (aW (fG O O) (nZ O O (mX O (fun h2 => ?_) (fun h2 => ?_))))))
    · (try simp only [aF] at h2)
      refine dF (dF (dF (uT (uT (dF (nZ O O (ig O (fD results162 O ?_))))))))
      refine ⟨?_, O⟩; congr 1; first | (symm; rw [kN, decide_eq_true_eq]; omega) | (symm; rw [kN, decide_eq_false_iff_not]; omega) | (rw [kN, decide_eq_decide]; omega)
    · (try simp only [aF] at h2)
      refine bW (bT O (bW (aW (iT O O) (bW (mX O (fun h3 => ?_) (fun h3 => ?_))))))
      · (try simp only [aF] at h3)
        refine bW (bT O (bW (aW (qc O O) (bW (nZ O O (kX O O (ig O (fD results162 O ?_))))))))
        refine ⟨?_, O⟩; congr 1; first | (symm; rw [kN, decide_eq_true_eq]; omega) | (symm; rw [kN, decide_eq_false_iff_not]; omega) | (rw [kN, decide_eq_decide]; omega)
      · (try simp only [aF] at h3)
        refine dF (dF (bW (kX O O (kX O O (ig O (fD results162 O ?_))))))
        refine ⟨?_, O⟩; congr 1; first | (symm; rw [kN, decide_eq_true_eq]; omega) | (symm; rw [kN, decide_eq_false_iff_not]; omega) | (rw [kN, decide_eq_decide]; omega)
  · (try simp only [aF] at h1)
    refine dF (dF (kX O O (bT O (bW (bT O (bW (aW (iT O O) (bW (mX O (fun h4 => ?_) (fun h4 => ?_))))))))))
    · (try simp only [aF] at h4)
      exfalso; first | contradiction | omega
    · (try simp only [aF] at h4)
      refine dF (dF (bW (kX O O (kX O O (ig O (fD results162 O ?_))))))
      refine ⟨?_, O⟩; congr 1; first | (symm; rw [kN, decide_eq_true_eq]; omega) | (symm; rw [kN, decide_eq_false_iff_not]; omega) | (rw [kN, decide_eq_decide]; omega)
abbrev ahI : List (Int × Int) := [(48, 57), (65, 90), (97, 122)]
abbrev ajo : List (Int × Int) := [(215, 215), (247, 247), (8192, 8303), (12288, 12351), (65280, 65295), (65533, 65533)]
end
end Go.Proofs.YtgofgnlkpeghcaaGreatDoor
end
