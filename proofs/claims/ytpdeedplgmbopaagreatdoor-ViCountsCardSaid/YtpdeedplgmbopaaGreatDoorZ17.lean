import Derived.Test.YtpdeedplgmbopaaGreatDoorZ4
import Derived.Test.YtpdeedplgmbopaaGreatDoorZ16
import Derived.Test.YtpdeedplgmbopaaGreatDoorZ2
set_option linter.unusedSimpArgs false
set_option linter.unusedVariables false
/- Texts of mine, joined, their names in short: EdS2 EdS3 FieldVal. -/
section
namespace Go.Proofs.YtpdeedplgmbopaaGreatDoor
open Go.RowKit
open _root_.Go.Proofs.Tryz
theorem RF {D : List Int} {P : Int → Nat} {k : Int} (h : (KJ D P k).isSome = true) : k ∈ D := by
  unfold KJ at h
  split at h
  · assumption
  · cases h
theorem PE {D : List Int} {P : Int → Nat} {k : Int} (h : (KJ D P k).isSome = false) : k ∉ D := by
  unfold KJ at h
  split at h
  · cases h
  · assumption
def Oc (x : Int × ByteArray) : List Value := [.int .i64 x.1, .string x.2]
theorem RG {hl : List qN} {tx : Int → Option ByteArray} {place : Int} {i : Nat} (h : Ed hl tx place i = true) : sD hl tx place (i + 1) = sD hl tx place i ++ [((i : Int), jC hl tx i)] := by
  unfold sD; rw [List.range_succ, List.filter_append, List.map_append]; simp [List.filter, h]
theorem Ll {hl : List qN} {tx : Int → Option ByteArray} {place : Int} {i : Nat} (h : Ed hl tx place i = false) : sD hl tx place (i + 1) = sD hl tx place i := by
  unfold sD; rw [List.range_succ, List.filter_append, List.map_append]; simp [List.filter, h]
theorem xG (hl : List qN) (tx : Int → Option ByteArray) (place : Int) (i : Nat) : (sD hl tx place i).length ≤ i := by
  unfold sD; rw [List.length_map]
  exact Nat.le_trans (List.length_filter_le _ _) (by simp)
def mO (E : List (List Int)) (a : Nat) : List (List Int) := E.drop a ++ E.take a
def ZK (n a i : Nat) : Nat := if i = 0 then a else (a + (i - 1)) % n
theorem Xw {n a i : Nat} : Hz n (ZK n a i) (min (i : Int) 1) = ZK n a (i + 1) := by
  cases i with
  | zero =>
    show (((a : Int) + min ((0 : Nat) : Int) 1) % (n : Int)).toNat = (a + (0 + 1 - 1)) % n
    rw [show min ((0 : Nat) : Int) 1 = 0 by omega, Int.add_zero, show ((a : Int) % (n : Int)) = ((a % n : Nat) : Int) from rfl, Int.toNat_natCast]
    rfl
  | succ j =>
    show (((((a + (j + 1 - 1)) % n : Nat) : Int) + min ((j + 1 : Nat) : Int) 1) % (n : Int)).toNat = (a + (j + 1 + 1 - 1)) % n
    rw [show min ((j + 1 : Nat) : Int) 1 = ((1 : Nat) : Int) by omega, show ((((a + (j + 1 - 1)) % n : Nat) : Int) + ((1 : Nat) : Int)) % (n : Int) = ((((a + (j + 1 - 1)) % n + 1) % n : Nat) : Int) from rfl, Int.toNat_natCast, Nat.mod_add_mod]
    congr 1
theorem Xx {E : List (List Int)} {a i : Nat} (h : i < E.length) (ha : a < E.length) : (mO E a).getD i [] = E.getD (ZK E.length a (i + 1)) [] := by
  unfold mO ZK
  rw [if_neg (by omega), Nat.add_sub_cancel, List.getD_eq_getElem?_getD, List.getD_eq_getElem?_getD]
  by_cases hi : i < E.length - a
  · rw [List.getElem?_append_left (by simpa using hi), List.getElem?_drop, Nat.mod_eq_of_lt (by omega)]
  · rw [List.getElem?_append_right (by simpa using hi), List.length_drop, List.getElem?_take, if_pos (by omega)]
    have : (a + i) % E.length = i - (E.length - a) := by
      rw [show a + i = (i - (E.length - a)) + E.length by omega, Nat.add_mod_right, Nat.mod_eq_of_lt (by omega)]
    rw [this]
theorem Lm {α : Type _} {l : List α} {k : Nat} {d : α} (h : k < l.length) : l.take (k + 1) = l.take k ++ [l.getD k d] := by rw [List.take_succ_eq_append_getElem h, List.getD_eq_getElem?_getD, List.getElem?_eq_getElem h]; rfl
theorem Iz (E : List (List Int)) (a : Nat) : (mO E a).length = E.length := by unfold mO; simp; omega
section
variable {w0 w : World} {F : HP} {e p ph pw pt pr pm pb : Nat} {s : bC} {k x place : Int} {hl : List qN} {base most cls : Int} {tx : Int → Option ByteArray} {v pv : Value} {U : Int → List (List jl)} {put : List jl} {xs : List Value} {inn run whole : Bool} {E : List (List Int)} {a : Nat} {L : List Int} {pnt mk : Int}
theorem DV {x0 x1 x2 x3 x4 x5 x6 x7 x8 x9 x10 x12 xY x14 x15 x16 x17 x18 x19 x20 x21 yT x23 x24 x25 zf x27 x28 x29 x30 x31 x32 zO : Value} (H : V w0 w (dW e (.cells (x0 :: x1 :: x2 :: x3 :: x4 :: x5 :: x6 :: x7 :: x8 :: x9 :: x10 :: .pointer (some ⟨ph, 0, none⟩) :: x12 :: xY :: x14 :: x15 :: x16 :: x17 :: x18 :: x19 :: x20 :: x21 :: yT :: x23 :: x24 :: x25 :: zf :: x27 :: x28 :: x29 :: x30 :: x31 :: x32 :: zO :: []).toArray 82 (0, 0)) • F)) : iI prog 65 #[.pointer (some ⟨e, 0, none⟩)] w fun v w' => v = .bool false ∧ w = w' := by
  refine jr func65 ntmps65 ?_
  refine jR O (bT O (Z (iR kJ O O) (jJ O (fun h1 => ?_) (fun h1 => ?_))))
  · (try simp only [aA] at h1)
    exfalso; first | contradiction | omega
  · (try simp only [aA] at h1)
    refine bg (bP O (bg (dL O (bg (bJ 11 ah O sizeOf78 O (bg (fV kR O (H).get.2 O (bg (Z (iR kR O O) (ig O O (fC O (dK results65 O ?_))))))))))))
    exact ⟨O, O⟩
theorem tV {x0 x1 x4 x5 x6 x7 x8 x9 x11 x12 xY x14 x15 x17 x18 x19 x20 x21 yT x23 x24 x25 zf x27 x29 x30 x31 : Value} (H : V w0 w (dW e (.cells (x0 :: x1 :: .pointer (some ⟨pw, 0, none⟩) :: .map (some pm) :: x4 :: x5 :: x6 :: x7 :: x8 :: x9 :: .bool run :: x11 :: x12 :: xY :: x14 :: x15 :: .bool inn :: x17 :: x18 :: x19 :: x20 :: x21 :: yT :: x23 :: x24 :: x25 :: zf :: x27 :: .int .i64 cls :: x29 :: x30 :: x31 :: .bool whole :: pv :: []).toArray 82 (0, 0)) • dW pw (.cells #[.int .i64 k, .map (some pt)] 122 (0, 0)) • yF pm U • Row 189 3 pv put.length xs • F)) (hU : (U k).length ≤ 16384) :
    iI prog 67 #[.pointer (some ⟨e, 0, none⟩)] w fun v' w' => v' = .int .i64 (tH (U k) inn put (cls == 3 && whole) run) ∧
      V w0 w' (dW e (.cells (x0 :: x1 :: .pointer (some ⟨pw, 0, none⟩) :: .map (some pm) :: x4 :: x5 :: x6 :: x7 :: x8 :: x9 :: .bool run :: x11 :: x12 :: xY :: x14 :: x15 :: .bool inn :: x17 :: x18 :: x19 :: x20 :: x21 :: yT :: x23 :: x24 :: x25 :: zf :: x27 :: .int .i64 cls :: x29 :: x30 :: x31 :: .bool whole :: pv :: []).toArray 82 (0, 0)) • dW pw (.cells #[.int .i64 k, .map (some pt)] 122 (0, 0)) • yF pm U • Row 189 3 pv put.length xs • F) := by
  refine jr func67 ntmps67 ?_
  refine jR O (jR O ?_)
  refine lu [(0, _)] (fun (_ : Unit) => [(3, .int .i64 ((U k).length : Int))]) (fun (_ : Unit) W => V w0 W (dW e (.cells (x0 :: x1 :: .pointer (some ⟨pw, 0, none⟩) :: .map (some pm) :: x4 :: x5 :: x6 :: x7 :: x8 :: x9 :: .bool run :: x11 :: x12 :: xY :: x14 :: x15 :: .bool inn :: x17 :: x18 :: x19 :: x20 :: x21 :: yT :: x23 :: x24 :: x25 :: zf :: x27 :: .int .i64 cls :: x29 :: x30 :: x31 :: .bool whole :: pv :: []).toArray 82 (0, 0)) • dW pw (.cells #[.int .i64 k, .map (some pt)] 122 (0, 0)) • yF pm U • Row 189 3 pv put.length xs • F)) mG ?_ ?_
  · rintro _ w1 HJ
    dsimp only [List.cons_append, List.nil_append]
    refine aO (bT O (dL O (bJ 16 ah O aP O (fV bZ O (HJ).get.2 O (jJ O (fun h1 => ?_) (fun h1 => ?_))))))
    · (try simp only [aA] at h1)
      have hin := h1
      refine bg (bP O (bg (dL O (bg (bJ 33 ah O bM O (bg (fV aV O (HJ).get.2 O (bg (Z (kH ((HJ.f4).aQ) aV O) (bg (Z (dY O O) (jh O O (jJ O (fun h2 => ?_) (fun h2 => ?_))))))))))))))
      · (try simp only [aA] at h2)
        have hno : put.isEmpty = false := by rw [qP]; exact decide_eq_false (by omega)
        refine bg (bP O (bg (dL O (bg (bJ 28 ah O ay O (bg (fV aH O (HJ).get.2 O (bg (Z (dX O O) (bg (jJ O (fun h3 => ?_) (fun h3 => ?_))))))))))))
        · (try simp only [aA] at h3)
          have hcl := h3
          refine bg (bP O (bg (dL O (bg (bJ 32 ah O aP O (bg (fV bZ O (HJ).get.2 O (bg (jh O O (bg (jJ O (fun h4 => ?_) (fun h4 => ?_))))))))))))
          · (try simp only [aA] at h4)
            have hwh := h4
            refine bg (bP O (bg (dL O (bg (bJ 0 ah O aU O (bg (bJ 10 aJ O aP O (bg (fV bZ O (HJ).get.2 O (bg (jh O O (bg (Z (lC O) (jh O O (jL O (fun h5 => ?_) (fun h5 => ?_))))))))))))))))
            · (try simp only [aA] at h5)
              have hrn := h5
              refine aC (bP O (Z (fO O O (by omega)) (fP O (bT O (fC O (dK results67 O ?_))))))
              refine ⟨?_, HJ.f4.f4.f4.f4⟩
              congr 1
              unfold tH
              first
                | exact absurd hrn (by decide)
                | (simp [hin]; done)
                | (simp [hin, hno]; done)
                | (simp [hin, hno, hcl]; done)
                | (simp [hin, hno, hcl, hwh]; done)
                | (simp [hin, hno, hcl, hwh, hrn]; done)
            · (try simp only [aA] at h5)
              have hrn := h5
              refine gQ (bT O (fC O (dK results67 O ?_)))
              refine ⟨?_, HJ.f4.f4.f4.f4⟩
              congr 1
              unfold tH
              first
                | exact absurd hrn (by decide)
                | (simp [hin]; done)
                | (simp [hin, hno]; done)
                | (simp [hin, hno, hcl]; done)
                | (simp [hin, hno, hcl, hwh]; done)
                | (simp [hin, hno, hcl, hwh, hrn]; done)
          · (try simp only [aA] at h4)
            have hwh := h4
            refine bF (bF (bF (bF (bF (bg (ig O O (bg (Z (lC O) (jh O O (jL O (fun h6 => ?_) (fun h6 => ?_)))))))))))
            · (try simp only [aA] at h6)
              have hrn := h6
              refine aC (bP O (Z (fO O O (by omega)) (fP O (bT O (fC O (dK results67 O ?_))))))
              refine ⟨?_, HJ.f4.f4.f4.f4⟩
              congr 1
              unfold tH
              first
                | exact absurd hrn (by decide)
                | (simp [hin]; done)
                | (simp [hin, hno]; done)
                | (simp [hin, hno, hcl]; done)
                | (simp [hin, hno, hcl, hwh]; done)
                | (simp [hin, hno, hcl, hwh, hrn]; done)
            · (try simp only [aA] at h6)
              have hrn := h6
              refine gQ (bT O (fC O (dK results67 O ?_)))
              refine ⟨?_, HJ.f4.f4.f4.f4⟩
              congr 1
              unfold tH
              first
                | exact absurd hrn (by decide)
                | (simp [hin]; done)
                | (simp [hin, hno]; done)
                | (simp [hin, hno, hcl]; done)
                | (simp [hin, hno, hcl, hwh]; done)
                | (simp [hin, hno, hcl, hwh, hrn]; done)
        · (try simp only [aA] at h3)
          have hcl := h3
          refine bF (bF (bF (bF (bg (ig O O (bg (bP O (bF (bF (bF (bF (bF (bg (ig O O (bg (Z (lC O) (jh O O (jL O (fun h7 => ?_) (fun h7 => ?_)))))))))))))))))))
          · (try simp only [aA] at h7)
            have hrn := h7
            refine aC (bP O (Z (fO O O (by omega)) (fP O (bT O (fC O (dK results67 O ?_))))))
            refine ⟨?_, HJ.f4.f4.f4.f4⟩
            congr 1
            unfold tH
            first
              | exact absurd hrn (by decide)
              | (simp [hin]; done)
              | (simp [hin, hno]; done)
              | (simp [hin, hno, hcl]; done)
              | (simp [hin, hno, hcl, hwh]; done)
              | (simp [hin, hno, hcl, hwh, hrn]; done)
          · (try simp only [aA] at h7)
            have hrn := h7
            refine gQ (bT O (fC O (dK results67 O ?_)))
            refine ⟨?_, HJ.f4.f4.f4.f4⟩
            congr 1
            unfold tH
            first
              | exact absurd hrn (by decide)
              | (simp [hin]; done)
              | (simp [hin, hno]; done)
              | (simp [hin, hno, hcl]; done)
              | (simp [hin, hno, hcl, hwh]; done)
              | (simp [hin, hno, hcl, hwh, hrn]; done)
      · (try simp only [aA] at h2)
        have hno : put.isEmpty = true := by rw [qP]; exact decide_eq_true (by omega)
        refine bF (bF (bF (bF (bF (bF (mY (mY (mY (mY (bF (bF (mY (mY (mY (mY (mY (bF (bF (ig O O (iL (qH (gQ (bT O (fC O (dK results67 O ?_)))))))))))))))))))))))))
        refine ⟨?_, HJ.f4.f4.f4.f4⟩
        congr 1
        unfold tH
        first
          | exact absurd hrn (by decide)
          | (simp [hin]; done)
          | (simp [hin, hno]; done)
          | (simp [hin, hno, hcl]; done)
          | (simp [hin, hno, hcl, hwh]; done)
          | (simp [hin, hno, hcl, hwh, hrn]; done)
    · (try simp only [aA] at h1)
      have hin := h1
      refine bF (bF (bF (bF (bF (bF (ig O O (bP O (bF (bF (bF (bF (bF (bF (mY (mY (mY (mY (bF (bF (mY (mY (mY (mY (mY (bF (bF (ig O O (iL (qH (gQ (bT O (fC O ?_))))))))))))))))))))))))))))))))
      refine dK results67 O ?_
      refine ⟨?_, HJ.f4.f4.f4.f4⟩
      congr 1
      unfold tH
      first
        | exact absurd hrn (by decide)
        | (simp [hin]; done)
        | (simp [hin, hno]; done)
        | (simp [hin, hno, hcl]; done)
        | (simp [hin, hno, hcl, hwh]; done)
        | (simp [hin, hno, hcl, hwh, hrn]; done)
  · skip
    refine aO ?_
    obtain ⟨D, P, hD1, hD2, HU⟩ := (H.f3).aaX
    have UE := HU.drew
    have nR := V.kp (UE.f5.f5.f5.f5.f5)
    refine y9 [4, 9, 12, 13] nR O (iU 0 O nR O (jY 1 O nR O (iq 2 O nR 0 ah O aU O (iq 3 O nR 3 aJ O sizeOf75 O (jQ 4 O nR (fun W hW => kF lT O ((Kp.h hW).f3).get.2 O) (iU 5 O nR O (jY 6 O nR O (iq 7 O nR 0 ah O aU O (iq 8 O nR 2 aJ O sizeOf74 O (jQ 9 O nR (fun W hW => kF lS O ((Kp.h hW).f3).get.2 O) (jY 10 O nR O (iq 11 O nR 0 gq O ay O (jQ 12 O nR (fun W hW => kF aH O ((Kp.h hW).f4).get.2 O) (jQ 13 O nR (fun W hW => Qb (QM ((Kp.h hW)) lT aH zeroValue184 O O) (VG D P k)) (jB 14 O nR (fun _ => dR O) (ru (aW (bT O (Z (tZ underlying184 O O) (jL O (fun h8 => ?_) (fun h8 => ?_)))))))))))))))))))))
    · (try simp only [aA] at h8)
      have hmem := RF h8
      rw [Q5 hmem]
      have HF := UE.f2
      rw [uG hmem] at HF
      have HF2 := HF.flat
      refine aC (bP O (dS O func120 (OQ HF2) ?_))
      rintro _ w2 ⟨rfl, H2⟩
      have WU := H2.f2.f2
      have Vt := V.of_eq WU (by rw [← dD, ← uG hmem])
      have Ho5 := Vt.f2
      have Hc6 := V.Eh hD1 hD2 Ho5
      refine iJ O (bY ?_)
      refine dF (()) ?_ ?_ ?_
      · exact (Sub.jG O (by first | (rw [hD2 _ hnm]; rfl) | (simp; done)) (Sub.nil _))
      · exact mG
      · (try dsimp only)
        first | done | exact Hc6.f4.f2.f4.f4
    · (try simp only [aA] at h8)
      have hnm := PE h8
      have YO := UE.f2.f2
      have YP := V.Eh hD1 hD2 YO
      refine dn ?_
      refine dF (()) ?_ ?_ ?_
      · exact (Sub.jG O (by first | (rw [hD2 _ hnm]; rfl) | (simp; done)) (Sub.nil _))
      · exact mG
      · (try dsimp only)
        first | done | exact YP.f4.f2.f4.f4
theorem yQ {x0 x2 x3 x4 x5 x6 x7 x8 x9 x10 x12 xY x14 x15 x16 x17 x18 x19 x20 x21 yT x23 x24 x25 zf x27 x28 x29 x30 x31 x32 zO : Value} (H : V w0 w (dW e (.cells (x0 :: .pointer (some ⟨pr, 0, none⟩) :: x2 :: x3 :: x4 :: x5 :: x6 :: x7 :: x8 :: x9 :: x10 :: .pointer (some ⟨ph, 0, none⟩) :: x12 :: xY :: x14 :: x15 :: x16 :: x17 :: x18 :: x19 :: x20 :: x21 :: yT :: x23 :: x24 :: x25 :: zf :: x27 :: x28 :: x29 :: x30 :: x31 :: x32 :: zO :: []).toArray 82 (0, 0)) • fA pr E a • F)) : iI prog 33 #[.pointer (some ⟨e, 0, none⟩)] w fun v' w' =>
  ∃ us, V w0 w' (Row 22 1 v' E.length us • BP 21 .i32 us (mO E a) • dW e (.cells (x0 :: .pointer (some ⟨pr, 0, none⟩) :: x2 :: x3 :: x4 :: x5 :: x6 :: x7 :: x8 :: x9 :: x10 :: .pointer (some ⟨ph, 0, none⟩) :: x12 :: xY :: x14 :: x15 :: x16 :: x17 :: x18 :: x19 :: x20 :: x21 :: yT :: x23 :: x24 :: x25 :: zf :: x27 :: x28 :: x29 :: x30 :: x31 :: x32 :: zO :: []).toArray 82 (0, 0)) • fA pr E a • F) := by
 obtain ⟨hE1, hE2, hE3⟩ := TL H.swap
 refine jr func33 ntmps33 ?_
 refine jR O (aO (bT O (dS O func65 (DV H) ?_)))
 rintro _ _ ⟨rfl, rfl⟩
 refine iL (qH (gQ (jR O (bT O (dL O (bJ 0 ah O aU O (bJ 1 aJ O sizeOf73 O (fV tu O (H).get.2 O (dS O func85 (Dq H.f2) ?_)))))))))
 rintro _ w2 ⟨pc2, rfl, H2⟩
 refine vY O (bT O (dS O func86 (OJ H2) ?_))
 rintro _ _ ⟨rfl, rfl⟩
 refine bP O (iL (aY ?_))
 obtain ⟨R4, hR4, HR4⟩ := V.adK (H2)
 refine gV [(4, _), (17, _)] (fun (⟨i, u⟩ : Nat × Value) => [(3, u), (18, .int .i64 (i : Int))]) (fun (⟨i, u⟩ : Nat × Value) W => i ≤ E.length ∧ ∃ us, V w0 W (Row 22 1 u i us • BP 21 .i32 us ((mO E a).take i) • fA pc2 E (ZK E.length a i) • R4)) (fun (⟨i, u⟩ : Nat × Value) => E.length - i) ((0, .slice none 0 0)) ug ug ⟨by omega, [], HR4.ZJ.jw none⟩ ?_
 rintro ⟨i, u⟩ w5 ⟨hi, us, HL⟩
 dsimp only [List.cons_append, List.nil_append]
 refine iV (Z (gB O O) (qR (bH O (fun h1 => ?_) (fun h1 => ?_))))
 ·(try simp only [aA] at h1)
  refine gQ (aO (aY (bT O (fP O (bT O (bP O (Z (Cb O O) (dS O func87 (Jm HL.f3) ?_))))))))
  rintro _ w6 ⟨u6, rfl, H6⟩
  have hne : ¬ E.length = 0 := by omega
  have HX := H6
  simp only [if_neg hne] at HX
  refine bP O (uf O O (uf O O (iJ O (fP O (aC (jO O O (jV (kZ (vs := [_]) HX iC dh zeroValue22 O O O (by decide) (aX (by first | rfl | exact Rd.one ((HX).aQ)) bQ)) ?_)))))))
  rintro l7 w7 H7
  refine jV (iw H7.f4 iC ab7 O O O ((H7).aQ) (aX (by first | rfl | exact Rd.one ((H7.f2).aQ)) bQ) (by omega) (by omega)) ?_
  rintro l8 w8 H8
  have Hd9 := H8.f2.right
  refine iJ O (bY (aK (aW (aC (Z (fO O O (by omega)) (bP O (bY ?_)))))))
  have HS := (Hd9.f3.f2.f3.f4).Ep.f2
  refine dU ((i + 1, l8)) ?_ ?_ ?_ ?_
  ·exact ug
  ·exact ug
  ·(try dsimp only)
   first | done | exact ⟨by omega, _, by rw [Lm (d := []) (by rw [Iz]; omega), Xx (by omega) (by omega), ← Xw]; exact HS⟩
  ·(try dsimp only); omega
 ·(try simp only [aA] at h1)
  refine dO (aN ?_)
  obtain rfl : i = E.length := by omega
  have HK := HL
  rw [List.take_of_length_le (by rw [Iz]; exact Nat.le_refl _)] at HK
  subst hR4
  refine aN (bn (aW (bT O (fC O (dK results33 O ?_)))))
  exact ⟨_, HK.f3.right.f3.f4.f4.f4⟩
end
def UF (s : bC) (u ks sv : Value) : List Value := [u, .int .i64 s.c.pt, .int .i64 s.c.mark, .int .i64 s.c.mode, .bool s.c.over, .bool s.given, .bool s.minus, .int .i64 s.arg, .int .i64 s.zT, .int .i64 s.VA, .int .i64 s.VB, ks, .int .i64 s.c.place, sv, .int .i64 s.O5, .int .i64 s.c.res, .int .i64 s.qW]
section
variable {w0 w : World} {F : HP} {e p ph pw pt pr pm pb : Nat} {s : bC} {k x place : Int} {hl : List qN} {base most cls : Int} {tx : Int → Option ByteArray} {v pv : Value} {U : Int → List (List jl)} {L : List Int} {pnt mk : Int}
theorem Jb {x1 x2 x3 x4 x5 x6 x7 x8 x9 x10 x12 xY x14 x15 x16 x17 x18 x19 x20 x21 yT x23 x24 x25 zf x27 x28 x29 x30 x31 x32 zO : Value} (H : V w0 w (dW e (.cells (.pointer (some ⟨pb, 0, none⟩) :: x1 :: x2 :: x3 :: x4 :: x5 :: x6 :: x7 :: x8 :: x9 :: x10 :: .pointer (some ⟨ph, 0, none⟩) :: x12 :: xY :: x14 :: x15 :: x16 :: x17 :: x18 :: x19 :: x20 :: x21 :: yT :: x23 :: x24 :: x25 :: zf :: x27 :: x28 :: x29 :: x30 :: x31 :: x32 :: zO :: []).toArray 82 (0, 0)) • iQ pb L pnt mk • F)) : iI prog 28 #[.pointer (some ⟨e, 0, none⟩)] w fun v' w' =>
  ∃ u, v' = .agg (wM u pnt mk) ∧ V w0 w' (jW 21 .i32 u L • dW e (.cells (.pointer (some ⟨pb, 0, none⟩) :: x1 :: x2 :: x3 :: x4 :: x5 :: x6 :: x7 :: x8 :: x9 :: x10 :: .pointer (some ⟨ph, 0, none⟩) :: x12 :: xY :: x14 :: x15 :: x16 :: x17 :: x18 :: x19 :: x20 :: x21 :: yT :: x23 :: x24 :: x25 :: zf :: x27 :: x28 :: x29 :: x30 :: x31 :: x32 :: zO :: []).toArray 82 (0, 0)) • iQ pb L pnt mk • F) := by
 refine jr func28 ntmps28 ?_
 refine iV (jV (iy (l := [_, _, _]) H zeroValue46 O) ?_)
 rintro _ w1 ⟨b1, rfl, H1⟩
 refine qR (bT O (dS O func65 (DV H1.f2) ?_))
 rintro _ _ ⟨rfl, rfl⟩
 refine iL (qH (gQ (bT O (dL O (bJ 0 ah O aU O (bJ 0 aJ O qO O (fV lN O (H1.f2).get.2 O (dS O func79 (Gh H1.f3) ?_))))))))
 rintro _ w3 ⟨u3, rfl, H3⟩
 refine aI (dw 0 (l' := [_, _, _]) (us := [_, _, _]) H3.f3 sizeOf46 O O O (aX (by first | rfl | exact Rd.one ((H3).aQ)) (aG (aG bQ))) O O) ?_
 rintro _ w4 H4
 refine zkc ?_
 refine rD (.inl O) (Oy results28 O jF O (by rw [Yu]; rfl) (H4).get.2) ?_
 exact ⟨_, O, H4.right.f2.f3.f3⟩
theorem yR {x0 x1 x3 x4 x5 x6 x7 x8 x9 x10 x12 xY x14 x15 x16 x17 x18 x19 x20 x21 yT x23 x24 x25 zf x27 x28 x29 x30 x31 x32 zO : Value} (H : V w0 w (dW e (.cells (x0 :: x1 :: .pointer (some ⟨pw, 0, none⟩) :: x3 :: x4 :: x5 :: x6 :: x7 :: x8 :: x9 :: x10 :: .pointer (some ⟨ph, 0, none⟩) :: x12 :: xY :: x14 :: x15 :: x16 :: x17 :: x18 :: x19 :: x20 :: x21 :: yT :: x23 :: x24 :: x25 :: zf :: x27 :: x28 :: x29 :: x30 :: x31 :: x32 :: zO :: []).toArray 82 (0, 0)) • dW pw (.cells #[.int .i64 place, .map (some pt)] 122 (0, 0)) • gX tK pt (vU tx) • iT ph hl base most • F)) :
    iI prog 66 #[.pointer (some ⟨e, 0, none⟩)] w fun v' w' => V w0 w' (Row 133 2 v' (BF hl tx place).length ((BF hl tx place).flatMap Oc) •
      dW e (.cells (x0 :: x1 :: .pointer (some ⟨pw, 0, none⟩) :: x3 :: x4 :: x5 :: x6 :: x7 :: x8 :: x9 :: x10 :: .pointer (some ⟨ph, 0, none⟩) :: x12 :: xY :: x14 :: x15 :: x16 :: x17 :: x18 :: x19 :: x20 :: x21 :: yT :: x23 :: x24 :: x25 :: zf :: x27 :: x28 :: x29 :: x30 :: x31 :: x32 :: zO :: []).toArray 82 (0, 0)) • dW pw (.cells #[.int .i64 place, .map (some pt)] 122 (0, 0)) • gX tK pt (vU tx) • iT ph hl base most • F) := by
  have hb : hl.length ≤ 4096 := by obtain ⟨v, h, _⟩ := H.r4.hist; exact h.1
  refine jr func66 ntmps66 ?_
  refine jR O (jR O (bT O (dL O (bJ 11 ah O sizeOf78 O (fV kR O (H).get.2 O (dS O func117 (qy H.f4) ?_))))))
  rintro _ w1 ⟨rfl, H1⟩
  refine vY O (bT O (bP O (iL (aY ?_))))
  refine gV [(0, _), (4, _), (11, _)] (fun (⟨i, u⟩ : Nat × Value) => [(3, u), (12, .int .i64 (i : Int))]) (fun (⟨i, u⟩ : Nat × Value) W => i ≤ hl.length ∧ V w0 W (Row 133 2 u (sD hl tx place i).length ((sD hl tx place i).flatMap Oc) • dW e (.cells (x0 :: x1 :: .pointer (some ⟨pw, 0, none⟩) :: x3 :: x4 :: x5 :: x6 :: x7 :: x8 :: x9 :: x10 :: .pointer (some ⟨ph, 0, none⟩) :: x12 :: xY :: x14 :: x15 :: x16 :: x17 :: x18 :: x19 :: x20 :: x21 :: yT :: x23 :: x24 :: x25 :: zf :: x27 :: x28 :: x29 :: x30 :: x31 :: x32 :: zO :: []).toArray 82 (0, 0)) • dW pw (.cells #[.int .i64 place, .map (some pt)] 122 (0, 0)) • gX tK pt (vU tx) • iT ph hl base most • F)) (fun (⟨i, u⟩ : Nat × Value) => hl.length - i) ((0, .slice none 0 0)) vZ ug ⟨by omega, H1.f4.f4.f4.jw none⟩ ?_
  rintro ⟨i, u⟩ w2 ⟨hi, HL⟩
  dsimp only [List.cons_append, List.nil_append]
  refine iV (Z (gB O O) (qR (bH O (fun h1 => ?_) (fun h1 => ?_))))
  · (try simp only [aA] at h1)
    refine gQ (aO (aY (bT O (vY O ?_))))
    have hLen := xG hl tx place i
    refine aC (jO O O (dL O (bJ 0 ah O aU O (bJ 2 aJ O sizeOf74 O (fV lS O (HL.f2).get.2 O (dL O (bJ 0 gq O ay O (fV aH O (HL.f3).get.2 O (Z (iM O O) (jJ O (fun h2 => ?_) (fun h2 => ?_)))))))))))
    · (try simp only [aA] at h2)
      have hpl := h2
      refine bg (bP O (bg (bP O (bg (dS O func118 (Aw HL.f5.f5.f5.f5) ?_)))))
      rintro _ w3 ⟨rfl, H3⟩
      refine bg (bP O (bg (bP O (bg (dS O func119 (GI H3.f4.f2) ?_)))))
      rintro _ w4 ⟨rfl, H4⟩
      refine bg (Z (Hu O O) (jh O O (jL O (fun h3 => ?_) (fun h3 => ?_))))
      · (try simp only [aA] at h3)
        have hsv := RG (hl := hl) (tx := tx) (place := place) (i := i) (by unfold Ed; rw [decide_eq_true hpl]; simpa using h3)
        refine aC (jO O O (jO O O (dS O func118 (Aw H4.f2.f4.f4.f4) ?_)))
        rintro _ w5 ⟨rfl, H5⟩
        refine Z (eP (zl := [.int .i64 0, .string .empty]) (pl := [(0, 1), (1, 1)]) [_, _] underlying133 zeroValue133 O (fun w => by kernel_rfl) O (.on (.on .nil)) O) ?_
        refine jV (uo H5 wZ sizeOf133 zeroValue133 O O O (by decide) (by decide)) ?_
        rintro l6 w6 H6
        refine jV (iw H6.f6 wZ ZL O O O ((H6).aQ) (aG (aG bQ)) (by omega) (by omega)) ?_
        rintro l7 w7 H7
        have Hd8 := H7.f2.right
        refine iJ O (bY (aK (aW (aC (Z (fO O O (by omega)) (bP O (bY ?_)))))))
        have hLen := xG hl tx place i
        refine dU ((i + 1, l7)) ?_ ?_ ?_ ?_
        · exact ug
        · exact vZ
        · (try dsimp only)
          first | done | exact ⟨by omega, by first | (rw [hsv, List.length_append, List.flatMap_append]; exact Hd8.f5.f5.f5.f5.f5) | (rw [hsv]; exact Hd8.f5.f5.f5.f5.f5)⟩
        · (try dsimp only); omega
      · (try simp only [aA] at h3)
        have hsv := Ll (hl := hl) (tx := tx) (place := place) (i := i) (by unfold Ed; rw [decide_eq_true hpl]; simpa using h3)
        refine dn (aK (aW (aC (Z (fO O O (by omega)) (bP O (bY ?_))))))
        have hLen := xG hl tx place i
        refine dU ((i + 1, u)) ?_ ?_ ?_ ?_
        · exact ug
        · exact vZ
        · (try dsimp only)
          first | done | exact ⟨by omega, by first | (rw [hsv, List.length_append, List.flatMap_append]; exact H4.f2.f4.f4.f4.f5) | (rw [hsv]; exact H4.f2.f4.f4.f4.f5)⟩
        · (try dsimp only); omega
    · (try simp only [aA] at h2)
      have hsv := Ll (hl := hl) (tx := tx) (place := place) (i := i) (by unfold Ed; rw [decide_eq_false (by simpa using h2)]; rfl)
      refine bF (bF (bF (bF (bF (bF (bF (ig O O (iL (qH (dn (aK (aW (aC (Z (fO O O (by omega)) (bP O (bY ?_))))))))))))))))
      have hLen := xG hl tx place i
      refine dU ((i + 1, u)) ?_ ?_ ?_ ?_
      · exact ug
      · exact vZ
      · (try dsimp only)
        first | done | exact ⟨by omega, by first | (rw [hsv, List.length_append, List.flatMap_append]; exact HL.f5.f5.f5.f5.f5) | (rw [hsv]; exact HL.f5.f5.f5.f5.f5)⟩
      · (try dsimp only); omega
  · (try simp only [aA] at h1)
    refine dO (aN ?_)
    obtain rfl : i = hl.length := by omega
    refine aN (bn (aW (aO (aO ?_))))
    have hLen := xG hl tx place hl.length
    refine aC (nK O O (bJ 0 ah O aU O (bJ 2 aJ O sizeOf74 O (fV lS O (HL.f2).get.2 O (dL O (bJ 0 gq O ay O (fV aH O (HL.f3).get.2 O (bP O (Z (iM O O) (jL O (fun h4 => ?_) (fun h4 => ?_)))))))))))
    · (try simp only [aA] at h4)
      have hsv : BF hl tx place = sD hl tx place hl.length ++ [((hl.length : Int), jC hl tx hl.length)] := by unfold BF; rw [if_pos h4]
      refine aC (jO O O (jO O O (dS O func118 (Aw HL.f5.f5.f5.f5) ?_)))
      rintro _ w9 ⟨rfl, H9⟩
      refine Z (eP (zl := [.int .i64 0, .string .empty]) (pl := [(0, 1), (1, 1)]) [_, _] underlying133 zeroValue133 O (fun w => by kernel_rfl) O (.on (.on .nil)) O) ?_
      refine jV (uo H9 wZ sizeOf133 zeroValue133 O O O (by decide) (by decide)) ?_
      rintro l10 w10 pW
      refine jV (iw pW.f6 wZ ZL O O O ((pW).aQ) (aG (aG bQ)) (by omega) (by omega)) ?_
      rintro l11 FX sW
      have MH := sW.f2.right
      refine fP O (bT O (fC O (dK results66 O ?_)))
      first
        | (rw [hsv, List.length_append, List.flatMap_append]; exact MH.f5.f5.f5.f5.f5)
        | (rw [hsv]; exact MH.f5.f5.f5.f5.f5)
    · (try simp only [aA] at h4)
      have hsv : BF hl tx place = sD hl tx place hl.length := by unfold BF; rw [if_neg (by simpa using h4), List.append_nil]
      refine gQ (bT O (fC O (dK results66 O ?_)))
      first
        | (rw [hsv, List.length_append, List.flatMap_append]; exact HL.f5.f5.f5.f5.f5)
        | (rw [hsv]; exact HL.f5.f5.f5.f5.f5)
theorem Xy {u0 u1 u2 u3 u4 u5 u6 u7 u8 u9 ua : Value} (hin : s.inn = true) (H : V w0 w (xA s.inn s.was [u0, u1, u2, u3, u4, u5, u6, u7, u8, u9, ua] • F)) : u6 = .int .i64 s.was.last ∧ u7 = .int .i64 s.was.fr ∧ u8 = .int .i64 s.was.to := by
  rw [hin] at H
  obtain ⟨qb, qr, qw, qt, qm, hu, -⟩ := H.was
  simp only [QV, List.cons.injEq, and_true] at hu
  exact ⟨hu.2.2.2.2.2.2.1, hu.2.2.2.2.2.2.2.1, hu.2.2.2.2.2.2.2.2.1⟩
set_option maxHeartbeats 1000000 in
theorem PG (H : V w0 w (fF e s • F)) : iI prog 23 #[.pointer (some ⟨e, 0, none⟩)] w fun v w' => ∃ u ks us sv, v = .agg (UF s u ks sv).toArray ∧
  V w0 w' (jW 21 .i32 u s.c.L • Row 22 1 ks s.c.E.length us • BP 21 .i32 us (mO s.c.E s.c.at_) • Row 133 2 sv s.saved.length (s.saved.flatMap Oc) • fF e s • F) := by
 refine jr func23 ntmps23 ?_
 obtain ⟨yG, yH, yI, yJ, yK, yL, yM, yN, wu, uK, uM, uN, uO, uP, uQ, uS, uT, uU, uV, uX, iD, dG, kW, iO⟩ := (H).Ii
 have hU : (s.c.un s.c.place).length ≤ 16384 := by
  obtain ⟨D, P, hD1, hD2, HU⟩ := (iO.f6).aaX
  by_cases hm : s.c.place ∈ D
  ·have HF := HU.swap
   rw [uG hm] at HF
   obtain ⟨_, _, _, _, k1, _⟩ := HF.flat.zh
   have := k1.len; simpa using this
  ·rw [hD2 _ hm]; decide
 refine iV (jV (iy (l := [_, _, _, _, _, _, _, _, _, _, _, _, _, _, _, _, _]) iO jU O) ?_)
 rintro _ w2 ⟨b2, rfl, H2⟩
 refine qR (bT O (dS O func65 (DV H2.f2) ?_))
 rintro _ _ ⟨rfl, rfl⟩
 refine iL (qH (gQ ?_))
 refine lu [(0, _)] (fun (⟨r, q, u, ks, sv, us⟩ : Nat × Nat × Value × Value × Value × List Value) => [(2, .pointer (some ⟨r, 0, none⟩)), (3, .pointer (some ⟨q, 0, none⟩))]) (fun (⟨r, q, u, ks, sv, us⟩ : Nat × Nat × Value × Value × Value × List Value) W => V w0 W (dW q (.cells (u :: .int .i64 s.c.pt :: .int .i64 s.c.mark :: .int .i64 s.c.mode :: .bool s.c.over :: .bool s.given :: .bool s.minus :: .int .i64 s.arg :: .int .i64 s.c.last :: .int .i64 s.c.fr :: .int .i64 s.c.to :: ks :: .int .i64 s.c.place :: sv :: .int .i64 s.O5 :: .int .i64 s.c.res :: .int .i64 s.qW :: []).toArray 50 (0, 0)) • jW 21 .i32 u s.c.L • Row 22 1 ks s.c.E.length us • BP 21 .i32 us (mO s.c.E s.c.at_) • Row 133 2 sv s.saved.length (s.saved.flatMap Oc) • dW e (.cells (.pointer (some ⟨yG, 0, none⟩) :: .pointer (some ⟨yH, 0, none⟩) :: .pointer (some ⟨yI, 0, none⟩) :: .map (some yK) :: .int .i64 s.c.mode :: .bool s.c.over :: .int .i64 s.c.last :: .int .i64 s.c.fr :: .int .i64 s.c.to :: .int .i64 s.c.res :: .bool s.c.run :: .pointer (some ⟨yL, 0, none⟩) :: .pointer (some ⟨yM, 0, none⟩) :: .bool s.given :: .bool s.minus :: .int .i64 s.arg :: .bool s.inn :: uK :: uM :: uN :: uO :: uP :: uQ :: uS :: uT :: uU :: uV :: uX :: .int .i64 s.cls :: .bool s.kT :: .bool s.kU :: .bool s.argues :: .bool s.whole :: yN :: []).toArray 82 (0, 0)) • iQ yG s.c.L s.c.pt s.c.mark • fA yH s.c.E s.c.at_ • dW yI (.cells #[.int .i64 s.c.place, .map (some yJ)] 122 (0, 0)) • gX tK yJ (vU s.c.tx) • yF yK s.c.un • iT yL s.hl s.base s.most • dW yM (.cells #[.int .i64 s.qW] 161 (0, 0)) • Row 189 3 yN s.put.length (wu.flatMap eF.enc) • lU wu • xA s.inn s.was [uK, uM, uN, uO, uP, uQ, uS, uT, uU, uV, uX] • dW r (.cells (.slice none 0 0 :: .int .i64 0 :: .int .i64 0 :: .int .i64 0 :: .bool false :: .bool false :: .bool false :: .int .i64 0 :: .int .i64 0 :: .int .i64 0 :: .int .i64 0 :: .slice none 0 0 :: .int .i64 0 :: .slice none 0 0 :: .int .i64 0 :: .int .i64 0 :: .int .i64 0 :: []).toArray 50 (0, 0)) • F)) mG ?_ ?_
 ·rintro ⟨r, q, u, ks, sv, us⟩ w4 HJ
  dsimp only [List.cons_append, List.nil_append]
  refine aO (bT O (dL O (bJ 16 ah O aP O (fV bZ O (HJ.f6).get.2 O (jL O (fun h1 => ?_) (fun h1 => ?_))))))
  ·(try simp only [aA] at h1)
   have hin := h1
   obtain ⟨rfl, rfl, rfl⟩ := Xy hin HJ.f16
   have aeI := HJ.drew
   have xH := V.kp (aeI.right.f16.f16.f16.f16.f16.f16.f16.f16.f16.f16.f16.f16.f16.f16.f16.f16)
   refine y9 [4, 9, 14] xH O (iU 0 O xH O (jY 1 O xH O (iq 2 O xH 17 ah O aU O (iq 3 O xH 6 aJ O ay O (jQ 4 O xH (fun W hW => kF aH O ((Kp.h hW).f5).get.2 O) (iU 5 O xH O (jY 6 O xH O (iq 7 O xH 17 ah O aU O (iq 8 O xH 7 aJ O ay O (jQ 9 O xH (fun W hW => kF aH O ((Kp.h hW).f5).get.2 O) (iU 10 O xH O (jY 11 O xH O (iq 12 O xH 17 ah O aU O (iq 13 O xH 8 aJ O ay O (jQ 14 O xH (fun W hW => kF aH O ((Kp.h hW).f5).get.2 O) (iq 15 O xH 8 jq O ay O ?_))))))))))))))))
   refine gy 16 O (by kernel_rfl) (acu 8 aeI ay) ?_
   rintro _ w5 H5
   have Fj := V.kp (H5.right.f16.f16.f16.f16.f16.f16.f16.f16.f16.f16.f16.f16.f16.f16.f16.f16)
   refine eG Fj (fun W hW => (Kp.h hW).f16.f16.f16.f16.f16.f16.f16.f16.f16.f16.f16.f16.f16.f16.f16.f16) ?_
   refine iq 17 O Fj 9 jq O ay O ?_
   refine gy 18 O (by kernel_rfl) (acu 9 H5 ay) ?_
   rintro _ w6 H6
   have FC := V.kp (H6.f17.f17.f17.f17.f17.f17.f17.f17.f17.f17.f17.f17.f17.f17.f17.f17.f17)
   refine eG FC (fun W hW => (Kp.h hW).right.f16.f16.f16.f16.f16.f16.f16.f16.f16.f16.f16.f16.f16.f16.f16.f16) ?_
   refine iq 19 O FC 10 jq O ay O ?_
   refine gy 20 O (by kernel_rfl) (acu 10 H6 ay) ?_
   rintro _ w7 H7
   have Dt := V.kp (H7.f17.f17.f17.f17.f17.f17.f17.f17.f17.f17.f17.f17.f17.f17.f17.f17.f17)
   refine gU Dt (by kernel_rfl) ?_
   refine ru (aW (iV (Z (dM jq O sizeOf50 O O (H7).get.2) (aI (dw 0 (l' := [_, _, _, _, _, _, _, _, _, _, _, _, _, _, _, _, _]) (us := [_, _, _, _, _, _, _, _, _, _, _, _, _, _, _, _, _]) H7.f17 sizeOf50 O O O (aX (by first | rfl | exact Rd.one ((H7.f2).aQ)) (aG (aG (aG (aG (aG (aG (aG (aG (aG (aG (aX (by first | rfl | exact Rd.one ((H7.f3).aQ)) (aG (aX (by first | rfl | exact Rd.one ((H7.f5).aQ)) (aG (aG (aG bQ))))))))))))))))) O O) ?_))))
   rintro _ w8 H8
   refine zkc ?_
   refine rD (.inl O) (Oy results23 O jq O (by rw [ab8]; rfl) (H8).get.2) ?_
   have YT := H8.f17.f17.f17.f17.f17.f17.f17.f17.f17.f17.f17
   have YU := V.iF (s := s) iD dG YT
   refine ⟨u, ks, us, sv, ?_, YU.f2.right.f2.right.f5.f5.f5.f5⟩
   unfold UF bC.zT bC.VA bC.VB
   rw [hin]
   rfl
  ·(try simp only [aA] at h1)
   have hin := h1
   refine gQ (iV (Z (dM jq O sizeOf50 O O (HJ).get.2) (aI (dw 0 (l' := [_, _, _, _, _, _, _, _, _, _, _, _, _, _, _, _, _]) (us := [_, _, _, _, _, _, _, _, _, _, _, _, _, _, _, _, _]) HJ.f17 sizeOf50 O O O (aX (by first | rfl | exact Rd.one ((HJ.f2).aQ)) (aG (aG (aG (aG (aG (aG (aG (aG (aG (aG (aX (by first | rfl | exact Rd.one ((HJ.f3).aQ)) (aG (aX (by first | rfl | exact Rd.one ((HJ.f5).aQ)) (aG (aG (aG bQ))))))))))))))))) O O) ?_)))
   rintro _ w12 wL
   refine zkc ?_
   refine rD (.inl O) (Oy results23 O jq O (by rw [ab8]; rfl) (wL).get.2) ?_
   have acJ := wL.f17.f17.f17.f17.f17.f17.f17.f17.f17.f17.f17
   have acK := V.iF (s := s) iD dG acJ
   refine ⟨u, ks, us, sv, ?_, acK.f2.right.f2.right.f5.f5.f5.f5⟩
   unfold UF bC.zT bC.VA bC.VB
   rw [hin]
   rfl
 ·skip
  have ZM := H2.drew
  have fE := V.kp (ZM.f7.right.f7.right.f10.f10.f10.f10.f10.f10.f10.f10.f10.f10)
  refine y9 [6, 11, 15, 19, 23, 28, 33, 38, 45, 48, 57, 61] fE O (iU 0 O fE O (iU 2 O fE O (jY 3 O fE O (iq 4 O fE 0 ah O aU O (iq 5 O fE 4 aJ O ay O (jQ 6 O fE (fun W hW => kF aH O ((Kp.h hW).f2).get.2 O) (iU 7 O fE O (jY 8 O fE O (iq 9 O fE 0 ah O aU O (iq 10 O fE 5 aJ O aP O (jQ 11 O fE (fun W hW => kF bZ O ((Kp.h hW).f2).get.2 O) (iU 12 O fE O (jY 13 O fE O (iq 14 O fE 13 ah O aP O (jQ 15 O fE (fun W hW => kF bZ O ((Kp.h hW).f2).get.2 O) (iU 16 O fE O (jY 17 O fE O (iq 18 O fE 14 ah O aP O (jQ 19 O fE (fun W hW => kF bZ O ((Kp.h hW).f2).get.2 O) (iU 20 O fE O (jY 21 O fE O (iq 22 O fE 15 ah O ay O (jQ 23 O fE (fun W hW => kF aH O ((Kp.h hW).f2).get.2 O) (iU 24 O fE O (jY 25 O fE O (iq 26 O fE 0 ah O aU O (iq 27 O fE 6 aJ O ay O (jQ 28 O fE (fun W hW => kF aH O ((Kp.h hW).f2).get.2 O) (iU 29 O fE O (jY 30 O fE O (iq 31 O fE 0 ah O aU O (iq 32 O fE 7 aJ O ay O (jQ 33 O fE (fun W hW => kF aH O ((Kp.h hW).f2).get.2 O) (iU 34 O fE O (jY 35 O fE O (iq 36 O fE 0 ah O aU O (iq 37 O fE 8 aJ O ay O (jQ 38 O fE (fun W hW => kF aH O ((Kp.h hW).f2).get.2 O) (iU 39 O fE O ?_)))))))))))))))))))))))))))))))))))))))
  refine iU 41 O fE O (jY 42 O fE O (iq 43 O fE 0 ah O aU O (iq 44 O fE 2 aJ O sizeOf74 O (jQ 45 O fE (fun W hW => kF lS O ((Kp.h hW).f2).get.2 O) (jY 46 O fE O (iq 47 O fE 0 gq O ay O (jQ 48 O fE (fun W hW => kF aH O ((Kp.h hW).f5).get.2 O) (iU 49 O fE O (iU 51 O fE O (iU 53 O fE O (jY 54 O fE O (iq 55 O fE 0 ah O aU O (iq 56 O fE 9 aJ O ay O (jQ 57 O fE (fun W hW => kF aH O ((Kp.h hW).f2).get.2 O) (iU 58 O fE O (jY 59 O fE O (iq 60 O fE 12 ah O sizeOf79 O (jQ 61 O fE (fun W hW => kF underlying79 O ((Kp.h hW).f2).get.2 O) ?_))))))))))))))))))
  refine Ac (i := 1) (j := 64) (by kernel_rfl) ?_ ?_
  ·skip
   refine kS 1 O (by kernel_rfl) (qQ (rE O func28 O O) (Jb ZM.f3.f3)) (kY O) ?_
   rintro _ w16 ⟨u16, rfl, uY⟩
   have Dx := V.kp (uY.f8.right.f8.right.f11.f11.f11.f11.f11.f11.f11.f11.f11.f11.f11)
   refine eG Dx (fun W hW => (Kp.h hW).right.f10.f10.f10.f10.f10.f10.f10.f9.f9.f10) ?_
   refine Ac (i := 40) (j := 64) (by kernel_rfl) ?_ ?_
   ·skip
    refine kS 40 O (by kernel_rfl) (qQ (rE O func33 O O) (yQ uY.f5.f3)) (kY O) ?_
    rintro u17 Yr ⟨ahR, EH⟩
    have I4 := V.kp (EH.f10.right.f10.right.f13.f13.f13.f13.f13.f13.f13.f13.f13.f13.f13.f13.f13)
    refine eG I4 (fun W hW => (Kp.h hW).right.right.f11.f11.f11.f11.f11.f11.f8.f11.f11.f10.f11) ?_
    refine Ac (i := 50) (j := 64) (by kernel_rfl) ?_ ?_
    ·skip
     refine kS 50 O (by kernel_rfl) (qQ (rE O func66 O O) (yR EH.f11.f10.f10.f6)) (kY O) ?_
     rintro u18 Ym Eb
     have Ku := V.kp (Eb.f12.right.f15.f15.f15.f15.f15.f15.f15.f15.f15.f15.f15.f15.f15.f15.f15)
     refine eG Ku (fun W hW => (Kp.h hW).right.f4.right.f13.f13.f13.f13.f7.f7.f13.f13.f13.f13.f11.f13.f13) ?_
     refine Ac (i := 52) (j := 64) (by kernel_rfl) ?_ ?_
     ·skip
      refine kS 52 O (by kernel_rfl) (qQ (rE O func67 O O) (tV Eb.f14.f13.f5.f5 hU)) (kY O) ?_
      rintro _ w19 ⟨rfl, Dl⟩
      have QS := V.kp (Dl.f16.f16.f16.f16.f16.f16.f16.f16.f16.f16.f16.f16.f16.f16.f16.f16)
      refine eG QS (fun W hW => (Kp.h hW).f3.right.f15.f15.f5.f15.f15.f15.f15.f15.f15.f15.f15.f15.f14.f14.f15) ?_
      refine Ac (i := 62) (j := 64) (by kernel_rfl) ?_ ?_
      ·skip
       refine kS 62 O (by kernel_rfl) (qQ (rE O func68 O O) (oQ Dl.f14)) (kY O) ?_
       rintro _ _ ⟨rfl, rfl⟩
       have zU := V.kp (Dl.f16.f16.f16.f16.f16.f16.f16.f16.f16.f16.f16.f16.f16.f16.f16.f16)
       refine eG zU (fun W hW => (Kp.h hW).f16.f16.f16.f16.f16.f16.f16.f16.f16.f16.f16.f16.f16.f16.f16.f16) ?_
       refine jB 63 O zU (fun _ => eP (zl := [.slice none 0 0, .int .i64 0, .int .i64 0, .int .i64 0, .bool false, .bool false, .bool false, .int .i64 0, .int .i64 0, .int .i64 0, .int .i64 0, .slice none 0 0, .int .i64 0, .slice none 0 0, .int .i64 0, .int .i64 0, .int .i64 0]) (pl := [(0, 3), (3, 1), (4, 1), (5, 1), (6, 1), (7, 1), (8, 1), (9, 1), (10, 1), (11, 1), (12, 1), (13, 1), (14, 1), (15, 1), (16, 1)]) [_, _, _, _, _, _, _, _, _, _, _, _, _, _, _, _, _] jq jU O (fun w => by kernel_rfl) O (.agg (us := [_, _, _]) (zs := [.slice none 0 0, .int .i64 0, .int .i64 0]) O O (.on (.on (.on (.on (.on (.on (.on (.on (.one (Rd.one ((Dl.f8).aQ)) (.on (.one (Rd.one ((Dl.f5).aQ)) (.on (.on (.on .nil))))))))))))))) O) ?_
       refine nD 64 O (iy (l := [_, _, _, _, _, _, _, _, _, _, _, _, _, _, _, _, _]) Dl jU O) ?_
       rintro _ w21 ⟨b21, rfl, vN⟩
       have E5 := V.kp (vN.f17.f17.f17.f17.f17.f17.f17.f17.f17.f17.f17.f17.f17.f17.f17.f17.f17)
       refine eG E5 (fun W hW => (Kp.h hW).right.f16.f16.f16.f16.f16.f16.f16.f16.f16.f16.f16.f16.f16.f16.f16.f16) ?_
       refine gy 65 O (by kernel_rfl) (dw 0 (l' := [_, _, _, _, _, _, _, _, _, _, _, _, _, _, _, _, _]) (us := [_, _, _, _, _, _, _, _, _, _, _, _, _, _, _, _, _]) vN sizeOf50 O O O (aX (by first | rfl | exact Rd.one ((vN.f12).aQ)) (aG (aG (aG (aG (aG (aG (aG (aG (aG (aG (aX (by first | rfl | exact Rd.one ((vN.f9).aQ)) (aG (aX (by first | rfl | exact Rd.one ((vN.f6).aQ)) (aG (aG (aG bQ))))))))))))))))) O O) ?_
       rintro _ w22 Gg
       have CJ := V.kp (Gg.f17.f17.f17.f17.f17.f17.f17.f17.f17.f17.f17.f17.f17.f17.f17.f17.f17)
       refine gU CJ (by kernel_rfl) ?_
       refine ru ?_
       refine dF (_, _, _, _, _, _) ug mG (by (try dsimp only); exact Gg.f14.f17.f17.f8.f17.f12.f10.f12.f11.f15.f17.f13.f14.f16.f16.f17.f17)
      ·skip
       refine kS 64 O (by kernel_rfl) (iy (l := [_, _, _, _, _, _, _, _, _, _, _, _, _, _, _, _, _]) Dl jU O) (kY O) ?_
       rintro _ w23 ⟨b23, rfl, Ce⟩
       have yj := V.kp (Ce.f17.f17.f17.f17.f17.f17.f17.f17.f17.f17.f17.f17.f17.f17.f17.f17.f17)
       refine eG yj (fun W hW => (Kp.h hW).right.f16.f16.f16.f16.f16.f16.f16.f16.f16.f16.f16.f16.f16.f16.f16.f16) ?_
       refine nD 62 O (xW O func68 (oQ Ce.f15)) ?_
       rintro _ _ ⟨rfl, rfl⟩
       have DK := V.kp (Ce.f17.f17.f17.f17.f17.f17.f17.f17.f17.f17.f17.f17.f17.f17.f17.f17.f17)
       refine eG DK (fun W hW => (Kp.h hW).f17.f17.f17.f17.f17.f17.f17.f17.f17.f17.f17.f17.f17.f17.f17.f17.f17) ?_
       refine jB 63 O DK (fun _ => eP (zl := [.slice none 0 0, .int .i64 0, .int .i64 0, .int .i64 0, .bool false, .bool false, .bool false, .int .i64 0, .int .i64 0, .int .i64 0, .int .i64 0, .slice none 0 0, .int .i64 0, .slice none 0 0, .int .i64 0, .int .i64 0, .int .i64 0]) (pl := [(0, 3), (3, 1), (4, 1), (5, 1), (6, 1), (7, 1), (8, 1), (9, 1), (10, 1), (11, 1), (12, 1), (13, 1), (14, 1), (15, 1), (16, 1)]) [_, _, _, _, _, _, _, _, _, _, _, _, _, _, _, _, _] jq jU O (fun w => by kernel_rfl) O (.agg (us := [_, _, _]) (zs := [.slice none 0 0, .int .i64 0, .int .i64 0]) O O (.on (.on (.on (.on (.on (.on (.on (.on (.one (Rd.one ((Ce.f9).aQ)) (.on (.one (Rd.one ((Ce.f6).aQ)) (.on (.on (.on .nil))))))))))))))) O) ?_
       refine gy 65 O (by kernel_rfl) (dw 0 (l' := [_, _, _, _, _, _, _, _, _, _, _, _, _, _, _, _, _]) (us := [_, _, _, _, _, _, _, _, _, _, _, _, _, _, _, _, _]) Ce sizeOf50 O O O (aX (by first | rfl | exact Rd.one ((Ce.f12).aQ)) (aG (aG (aG (aG (aG (aG (aG (aG (aG (aG (aX (by first | rfl | exact Rd.one ((Ce.f9).aQ)) (aG (aX (by first | rfl | exact Rd.one ((Ce.f6).aQ)) (aG (aG (aG bQ))))))))))))))))) O O) ?_
       rintro _ w25 TJ
       have Y7 := V.kp (TJ.f17.f17.f17.f17.f17.f17.f17.f17.f17.f17.f17.f17.f17.f17.f17.f17.f17)
       refine gU Y7 (by kernel_rfl) ?_
       refine ru ?_
       refine dF (_, _, _, _, _, _) ug mG (by (try dsimp only); exact TJ.f14.f17.f17.f8.f17.f12.f10.f12.f11.f15.f17.f13.f14.f16.f16.f17.f17)
     ·skip
      refine kS 64 O (by kernel_rfl) (iy (l := [_, _, _, _, _, _, _, _, _, _, _, _, _, _, _, _, _]) Eb jU O) (kY O) ?_
      rintro _ w26 ⟨b26, rfl, Vo⟩
      have GK := V.kp (Vo.f13.right.f16.f16.f16.f16.f16.f16.f16.f16.f16.f16.f16.f16.f16.f16.f16.f16)
      refine eG GK (fun W hW => (Kp.h hW).right.f15.f15.f15.f15.f15.f15.f15.f15.f15.f15.f15.f15.f15.f15.f15) ?_
      refine nD 52 O (xW O func67 (tV Vo.f15.f14.f6.f6 hU)) ?_
      rintro _ w27 ⟨rfl, IW⟩
      have RH := V.kp (IW.f17.f17.f17.f17.f17.f17.f17.f17.f17.f17.f17.f17.f17.f17.f17.f17.f17)
      refine eG RH (fun W hW => (Kp.h hW).f3.right.f16.f16.f5.f16.f16.f16.f16.f16.f16.f16.f16.f16.f14.f14.f16.f16) ?_
      refine nD 62 O (xW O func68 (oQ IW.f15)) ?_
      rintro _ _ ⟨rfl, rfl⟩
      have ab9 := V.kp (IW.f17.f17.f17.f17.f17.f17.f17.f17.f17.f17.f17.f17.f17.f17.f17.f17.f17)
      refine eG ab9 (fun W hW => (Kp.h hW).f17.f17.f17.f17.f17.f17.f17.f17.f17.f17.f17.f17.f17.f17.f17.f17.f17) ?_
      refine jB 63 O ab9 (fun _ => eP (zl := [.slice none 0 0, .int .i64 0, .int .i64 0, .int .i64 0, .bool false, .bool false, .bool false, .int .i64 0, .int .i64 0, .int .i64 0, .int .i64 0, .slice none 0 0, .int .i64 0, .slice none 0 0, .int .i64 0, .int .i64 0, .int .i64 0]) (pl := [(0, 3), (3, 1), (4, 1), (5, 1), (6, 1), (7, 1), (8, 1), (9, 1), (10, 1), (11, 1), (12, 1), (13, 1), (14, 1), (15, 1), (16, 1)]) [_, _, _, _, _, _, _, _, _, _, _, _, _, _, _, _, _] jq jU O (fun w => by kernel_rfl) O (.agg (us := [_, _, _]) (zs := [.slice none 0 0, .int .i64 0, .int .i64 0]) O O (.on (.on (.on (.on (.on (.on (.on (.on (.one (Rd.one ((IW.f9).aQ)) (.on (.one (Rd.one ((IW.f6).aQ)) (.on (.on (.on .nil))))))))))))))) O) ?_
      refine gy 65 O (by kernel_rfl) (dw 0 (l' := [_, _, _, _, _, _, _, _, _, _, _, _, _, _, _, _, _]) (us := [_, _, _, _, _, _, _, _, _, _, _, _, _, _, _, _, _]) IW.f5 sizeOf50 O O O (aX (by first | rfl | exact Rd.one ((IW.f12).aQ)) (aG (aG (aG (aG (aG (aG (aG (aG (aG (aG (aX (by first | rfl | exact Rd.one ((IW.f9).aQ)) (aG (aX (by first | rfl | exact Rd.one ((IW.f6).aQ)) (aG (aG (aG bQ))))))))))))))))) O O) ?_
      rintro _ w29 X6
      have RI := V.kp (X6.f17.f17.f17.f17.f17.f17.f17.f17.f17.f17.f17.f17.f17.f17.f17.f17.f17)
      refine gU RI (by kernel_rfl) ?_
      refine ru ?_
      refine dF (_, _, _, _, _, _) ug mG (by (try dsimp only); exact X6.f14.f17.f17.f8.f17.f12.f10.f12.f11.f15.f17.f13.f14.f16.f16.f17.f17)
    ·skip
     refine kS 64 O (by kernel_rfl) (iy (l := [_, _, _, _, _, _, _, _, _, _, _, _, _, _, _, _, _]) EH jU O) (kY O) ?_
     rintro _ w30 ⟨b30, rfl, Vp⟩
     have aeJ := V.kp (Vp.f11.right.f11.right.f14.f14.f14.f14.f14.f14.f14.f14.f14.f14.f14.f14.f14.f14)
     refine eG aeJ (fun W hW => (Kp.h hW).right.f13.f13.f13.f13.f13.f13.f13.f13.f13.f13.f13.f13.f13) ?_
     refine nD 50 O (xW O func66 (yR Vp.f12.f11.f11.f7)) ?_
     rintro u31 w31 SV
     have Y8 := V.kp (SV.f13.right.f16.f16.f16.f16.f16.f16.f16.f16.f16.f16.f16.f16.f16.f16.f16.f16)
     refine eG Y8 (fun W hW => (Kp.h hW).right.f4.right.f14.f14.f14.f14.f7.f7.f14.f14.f14.f14.f11.f14.f14.f14) ?_
     refine nD 52 O (xW O func67 (tV SV.f15.f14.f5.f5 hU)) ?_
     rintro _ w32 ⟨rfl, NH⟩
     have VH := V.kp (NH.f17.f17.f17.f17.f17.f17.f17.f17.f17.f17.f17.f17.f17.f17.f17.f17.f17)
     refine eG VH (fun W hW => (Kp.h hW).f3.right.f16.f16.f5.f16.f16.f16.f16.f16.f16.f16.f16.f16.f16.f15.f15.f16) ?_
     refine nD 62 O (xW O func68 (oQ NH.f15)) ?_
     rintro _ _ ⟨rfl, rfl⟩
     have VI := V.kp (NH.f17.f17.f17.f17.f17.f17.f17.f17.f17.f17.f17.f17.f17.f17.f17.f17.f17)
     refine eG VI (fun W hW => (Kp.h hW).f17.f17.f17.f17.f17.f17.f17.f17.f17.f17.f17.f17.f17.f17.f17.f17.f17) ?_
     refine jB 63 O VI (fun _ => eP (zl := [.slice none 0 0, .int .i64 0, .int .i64 0, .int .i64 0, .bool false, .bool false, .bool false, .int .i64 0, .int .i64 0, .int .i64 0, .int .i64 0, .slice none 0 0, .int .i64 0, .slice none 0 0, .int .i64 0, .int .i64 0, .int .i64 0]) (pl := [(0, 3), (3, 1), (4, 1), (5, 1), (6, 1), (7, 1), (8, 1), (9, 1), (10, 1), (11, 1), (12, 1), (13, 1), (14, 1), (15, 1), (16, 1)]) [_, _, _, _, _, _, _, _, _, _, _, _, _, _, _, _, _] jq jU O (fun w => by kernel_rfl) O (.agg (us := [_, _, _]) (zs := [.slice none 0 0, .int .i64 0, .int .i64 0]) O O (.on (.on (.on (.on (.on (.on (.on (.on (.one (Rd.one ((NH.f9).aQ)) (.on (.one (Rd.one ((NH.f5).aQ)) (.on (.on (.on .nil))))))))))))))) O) ?_
     refine gy 65 O (by kernel_rfl) (dw 0 (l' := [_, _, _, _, _, _, _, _, _, _, _, _, _, _, _, _, _]) (us := [_, _, _, _, _, _, _, _, _, _, _, _, _, _, _, _, _]) NH.f8 sizeOf50 O O O (aX (by first | rfl | exact Rd.one ((NH.f12).aQ)) (aG (aG (aG (aG (aG (aG (aG (aG (aG (aG (aX (by first | rfl | exact Rd.one ((NH.f9).aQ)) (aG (aX (by first | rfl | exact Rd.one ((NH.f5).aQ)) (aG (aG (aG bQ))))))))))))))))) O O) ?_
     rintro _ w34 Y9
     have NV := V.kp (Y9.f17.f17.f17.f17.f17.f17.f17.f17.f17.f17.f17.f17.f17.f17.f17.f17.f17)
     refine gU NV (by kernel_rfl) ?_
     refine ru ?_
     refine dF (_, _, _, _, _, _) ug mG (by (try dsimp only); exact Y9.f14.f17.f17.f8.f17.f12.f10.f12.f11.f15.f17.f13.f14.f16.f16.f17.f17)
   ·skip
    refine kS 64 O (by kernel_rfl) (iy (l := [_, _, _, _, _, _, _, _, _, _, _, _, _, _, _, _, _]) uY jU O) (kY O) ?_
    rintro _ w35 ⟨b35, rfl, H35⟩
    have Za := V.kp (H35.f9.right.f9.right.f12.f12.f12.f12.f12.f12.f12.f12.f12.f12.f12.f12)
    refine eG Za (fun W hW => (Kp.h hW).right.f11.f11.f11.f11.f11.f11.f11.f11.f11.f11.f11) ?_
    refine nD 40 O (xW O func33 (yQ H35.f6.f4)) ?_
    rintro u36 w36 ⟨ahS, H36⟩
    have aeK := V.kp (H36.f11.right.f11.right.f14.f14.f14.f14.f14.f14.f14.f14.f14.f14.f14.f14.f14.f14)
    refine eG aeK (fun W hW => (Kp.h hW).right.right.f12.f12.f12.f12.f12.f12.f8.f12.f12.f10.f12.f12) ?_
    refine nD 50 O (xW O func66 (yR H36.f12.f11.f11.f6)) ?_
    rintro u37 w37 H37
    have aeL := V.kp (H37.f13.right.f16.f16.f16.f16.f16.f16.f16.f16.f16.f16.f16.f16.f16.f16.f16.f16)
    refine eG aeL (fun W hW => (Kp.h hW).right.f4.right.f14.f14.f14.f14.f7.f7.f14.f14.f14.f14.f14.f12.f14.f14) ?_
    refine nD 52 O (xW O func67 (tV H37.f15.f14.f5.f5 hU)) ?_
    rintro _ w38 ⟨rfl, Um⟩
    have aeM := V.kp (Um.f17.f17.f17.f17.f17.f17.f17.f17.f17.f17.f17.f17.f17.f17.f17.f17.f17)
    refine eG aeM (fun W hW => (Kp.h hW).f3.right.f16.f16.f5.f16.f16.f16.f16.f16.f16.f16.f16.f16.f16.f15.f15.f16) ?_
    refine nD 62 O (xW O func68 (oQ Um.f15)) ?_
    rintro _ _ ⟨rfl, rfl⟩
    have Ry := V.kp (Um.f17.f17.f17.f17.f17.f17.f17.f17.f17.f17.f17.f17.f17.f17.f17.f17.f17)
    refine eG Ry (fun W hW => (Kp.h hW).f17.f17.f17.f17.f17.f17.f17.f17.f17.f17.f17.f17.f17.f17.f17.f17.f17) ?_
    refine jB 63 O Ry (fun _ => eP (zl := [.slice none 0 0, .int .i64 0, .int .i64 0, .int .i64 0, .bool false, .bool false, .bool false, .int .i64 0, .int .i64 0, .int .i64 0, .int .i64 0, .slice none 0 0, .int .i64 0, .slice none 0 0, .int .i64 0, .int .i64 0, .int .i64 0]) (pl := [(0, 3), (3, 1), (4, 1), (5, 1), (6, 1), (7, 1), (8, 1), (9, 1), (10, 1), (11, 1), (12, 1), (13, 1), (14, 1), (15, 1), (16, 1)]) [_, _, _, _, _, _, _, _, _, _, _, _, _, _, _, _, _] jq jU O (fun w => by kernel_rfl) O (.agg (us := [_, _, _]) (zs := [.slice none 0 0, .int .i64 0, .int .i64 0]) O O (.on (.on (.on (.on (.on (.on (.on (.on (.one (Rd.one ((Um.f8).aQ)) (.on (.one (Rd.one ((Um.f5).aQ)) (.on (.on (.on .nil))))))))))))))) O) ?_
    refine gy 65 O (by kernel_rfl) (dw 0 (l' := [_, _, _, _, _, _, _, _, _, _, _, _, _, _, _, _, _]) (us := [_, _, _, _, _, _, _, _, _, _, _, _, _, _, _, _, _]) Um.f11 sizeOf50 O O O (aX (by first | rfl | exact Rd.one ((Um.f12).aQ)) (aG (aG (aG (aG (aG (aG (aG (aG (aG (aG (aX (by first | rfl | exact Rd.one ((Um.f8).aQ)) (aG (aX (by first | rfl | exact Rd.one ((Um.f5).aQ)) (aG (aG (aG bQ))))))))))))))))) O O) ?_
    rintro _ w40 H40
    have aeN := V.kp (H40.f17.f17.f17.f17.f17.f17.f17.f17.f17.f17.f17.f17.f17.f17.f17.f17.f17)
    refine gU aeN (by kernel_rfl) ?_
    refine ru ?_
    refine dF (_, _, _, _, _, _) ug mG (by (try dsimp only); exact H40.f14.f17.f17.f8.f17.f12.f10.f12.f11.f15.f17.f13.f14.f16.f16.f17.f17)
  ·skip
   refine kS 64 O (by kernel_rfl) (iy (l := [_, _, _, _, _, _, _, _, _, _, _, _, _, _, _, _, _]) ZM jU O) (kY O) ?_
   rintro _ w41 ⟨b41, rfl, H41⟩
   have Zb := V.kp (H41.f8.right.f8.right.f11.f11.f11.f11.f11.f11.f11.f11.f11.f11.f11)
   refine eG Zb (fun W hW => (Kp.h hW).right.f10.f10.f10.f10.f10.f10.f10.f10.f10.f10) ?_
   refine nD 1 O (xW O func28 (Jb H41.f4.f4)) ?_
   rintro _ w42 ⟨u42, rfl, H42⟩
   have NW := V.kp (H42.f9.right.f9.right.f12.f12.f12.f12.f12.f12.f12.f12.f12.f12.f12.f12)
   refine eG NW (fun W hW => (Kp.h hW).right.f11.f11.f11.f11.f11.f11.f11.f9.f9.f11.f11) ?_
   refine nD 40 O (xW O func33 (yQ H42.f6.f3)) ?_
   rintro u43 w43 ⟨ahT, H43⟩
   have Zc := V.kp (H43.f11.right.f11.right.f14.f14.f14.f14.f14.f14.f14.f14.f14.f14.f14.f14.f14.f14)
   refine eG Zc (fun W hW => (Kp.h hW).right.right.f12.f12.f12.f12.f12.f12.f8.f12.f12.f12.f11.f12) ?_
   refine nD 50 O (xW O func66 (yR H43.f12.f11.f11.f6)) ?_
   rintro u44 w44 H44
   have aeO := V.kp (H44.f13.right.f16.f16.f16.f16.f16.f16.f16.f16.f16.f16.f16.f16.f16.f16.f16.f16)
   refine eG aeO (fun W hW => (Kp.h hW).right.f4.right.f14.f14.f14.f14.f7.f7.f14.f14.f14.f14.f14.f12.f14.f14) ?_
   refine nD 52 O (xW O func67 (tV H44.f15.f14.f5.f5 hU)) ?_
   rintro _ w45 ⟨rfl, SX⟩
   have aeP := V.kp (SX.f17.f17.f17.f17.f17.f17.f17.f17.f17.f17.f17.f17.f17.f17.f17.f17.f17)
   refine eG aeP (fun W hW => (Kp.h hW).f3.right.f16.f16.f5.f16.f16.f16.f16.f16.f16.f16.f16.f16.f16.f15.f15.f16) ?_
   refine nD 62 O (xW O func68 (oQ SX.f15)) ?_
   rintro _ _ ⟨rfl, rfl⟩
   have aca := V.kp (SX.f17.f17.f17.f17.f17.f17.f17.f17.f17.f17.f17.f17.f17.f17.f17.f17.f17)
   refine eG aca (fun W hW => (Kp.h hW).f17.f17.f17.f17.f17.f17.f17.f17.f17.f17.f17.f17.f17.f17.f17.f17.f17) ?_
   refine jB 63 O aca (fun _ => eP (zl := [.slice none 0 0, .int .i64 0, .int .i64 0, .int .i64 0, .bool false, .bool false, .bool false, .int .i64 0, .int .i64 0, .int .i64 0, .int .i64 0, .slice none 0 0, .int .i64 0, .slice none 0 0, .int .i64 0, .int .i64 0, .int .i64 0]) (pl := [(0, 3), (3, 1), (4, 1), (5, 1), (6, 1), (7, 1), (8, 1), (9, 1), (10, 1), (11, 1), (12, 1), (13, 1), (14, 1), (15, 1), (16, 1)]) [_, _, _, _, _, _, _, _, _, _, _, _, _, _, _, _, _] jq jU O (fun w => by kernel_rfl) O (.agg (us := [_, _, _]) (zs := [.slice none 0 0, .int .i64 0, .int .i64 0]) O O (.on (.on (.on (.on (.on (.on (.on (.on (.one (Rd.one ((SX.f8).aQ)) (.on (.one (Rd.one ((SX.f5).aQ)) (.on (.on (.on .nil))))))))))))))) O) ?_
   refine gy 65 O (by kernel_rfl) (dw 0 (l' := [_, _, _, _, _, _, _, _, _, _, _, _, _, _, _, _, _]) (us := [_, _, _, _, _, _, _, _, _, _, _, _, _, _, _, _, _]) SX.f13 sizeOf50 O O O (aX (by first | rfl | exact Rd.one ((SX.f11).aQ)) (aG (aG (aG (aG (aG (aG (aG (aG (aG (aG (aX (by first | rfl | exact Rd.one ((SX.f8).aQ)) (aG (aX (by first | rfl | exact Rd.one ((SX.f5).aQ)) (aG (aG (aG bQ))))))))))))))))) O O) ?_
   rintro _ w47 H47
   have aeQ := V.kp (H47.f17.f17.f17.f17.f17.f17.f17.f17.f17.f17.f17.f17.f17.f17.f17.f17.f17)
   refine gU aeQ (by kernel_rfl) ?_
   refine ru ?_
   refine dF (_, _, _, _, _, _) ug mG (by (try dsimp only); exact H47.f14.f17.f17.f8.f17.f12.f10.f12.f11.f15.f17.f13.f14.f16.f16.f17.f17)
end
end Go.Proofs.YtpdeedplgmbopaaGreatDoor
end
section
namespace Go.Proofs.YtpdeedplgmbopaaGreatDoor
open Go.RowKit
theorem zZ {P : Program} {L : List (Nat × Value)} {w : World} {ty t : TypeId} {fs : Array Field} {f : Field} {i : Nat} {x : Operand} {cs : Array Value} {u : Value} (off : Nat) (ht : P.underlying t = some (.struct fs)) (hf : fs[i]? = some f) (ho : f.offset = off) (hp : rY P f.type = true) (hx : ev L x = some (.agg cs)) (hc : cs[off]? = some u) :
    Val P L (.field t x i) ty w u w := fun ρ hρ _ _ _ _ => by
  simp [execOp, hρ _ _ hx, Instr.field, run_underlying ht, hf, part, asAgg, F7 hp, ho, hc]
end Go.Proofs.YtpdeedplgmbopaaGreatDoor
end
