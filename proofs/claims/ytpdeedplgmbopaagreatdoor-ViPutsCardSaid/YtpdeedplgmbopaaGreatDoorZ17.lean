import Derived.Test.YtpdeedplgmbopaaGreatDoorZ4
import Derived.Test.YtpdeedplgmbopaaGreatDoorZ16
import Derived.Test.YtpdeedplgmbopaaGreatDoorZ2
set_option linter.unusedSimpArgs false
set_option linter.unusedVariables false
/- Texts of mine, joined, their names in short: EdS2 EdS3 FieldVal. -/
section
namespace Go.Proofs.YtpdeedplgmbopaaGreatDoor
open Go.RowKit
open _root_.Go.Proofs.Tryz
theorem Si {D : List Int} {P : Int → Nat} {k : Int} (h : (KO D P k).isSome = true) : k ∈ D := by
  unfold KO at h
  split at h
  · assumption
  · cases h
theorem PW {D : List Int} {P : Int → Nat} {k : Int} (h : (KO D P k).isSome = false) : k ∉ D := by
  unfold KO at h
  split at h
  · cases h
  · assumption
def Wi (x : Int × ByteArray) : List Value := [.int .i64 x.1, .string x.2]
theorem Sj {hl : List sN} {tx : Int → Option ByteArray} {place : Int} {i : Nat} (h : En hl tx place i = true) : sO hl tx place (i + 1) = sO hl tx place i ++ [((i : Int), kL hl tx i)] := by
  unfold sO; rw [List.range_succ, List.filter_append, List.map_append]; simp [List.filter, h]
theorem Lp {hl : List sN} {tx : Int → Option ByteArray} {place : Int} {i : Nat} (h : En hl tx place i = false) : sO hl tx place (i + 1) = sO hl tx place i := by
  unfold sO; rw [List.range_succ, List.filter_append, List.map_append]; simp [List.filter, h]
theorem xQ (hl : List sN) (tx : Int → Option ByteArray) (place : Int) (i : Nat) : (sO hl tx place i).length ≤ i := by
  unfold sO; rw [List.length_map]
  exact Nat.le_trans (List.length_filter_le _ _) (by simp)
def xE (E : List (List Int)) (a : Nat) : List (List Int) := E.drop a ++ E.take a
def ZY (n a i : Nat) : Nat := if i = 0 then a else (a + (i - 1)) % n
theorem XK {n a i : Nat} : EG n (ZY n a i) (min (i : Int) 1) = ZY n a (i + 1) := by
  cases i with
  | zero =>
    show (((a : Int) + min ((0 : Nat) : Int) 1) % (n : Int)).toNat = (a + (0 + 1 - 1)) % n
    rw [show min ((0 : Nat) : Int) 1 = 0 by omega, Int.add_zero, show ((a : Int) % (n : Int)) = ((a % n : Nat) : Int) from rfl, Int.toNat_natCast]
    rfl
  | succ j =>
    show (((((a + (j + 1 - 1)) % n : Nat) : Int) + min ((j + 1 : Nat) : Int) 1) % (n : Int)).toNat = (a + (j + 1 + 1 - 1)) % n
    rw [show min ((j + 1 : Nat) : Int) 1 = ((1 : Nat) : Int) by omega, show ((((a + (j + 1 - 1)) % n : Nat) : Int) + ((1 : Nat) : Int)) % (n : Int) = ((((a + (j + 1 - 1)) % n + 1) % n : Nat) : Int) from rfl, Int.toNat_natCast, Nat.mod_add_mod]
    congr 1
theorem XL {E : List (List Int)} {a i : Nat} (h : i < E.length) (ha : a < E.length) : (xE E a).getD i [] = E.getD (ZY E.length a (i + 1)) [] := by
  unfold xE ZY
  rw [if_neg (by omega), Nat.add_sub_cancel, List.getD_eq_getElem?_getD, List.getD_eq_getElem?_getD]
  by_cases hi : i < E.length - a
  · rw [List.getElem?_append_left (by simpa using hi), List.getElem?_drop, Nat.mod_eq_of_lt (by omega)]
  · rw [List.getElem?_append_right (by simpa using hi), List.length_drop, List.getElem?_take, if_pos (by omega)]
    have : (a + i) % E.length = i - (E.length - a) := by
      rw [show a + i = (i - (E.length - a)) + E.length by omega, Nat.add_mod_right, Nat.mod_eq_of_lt (by omega)]
    rw [this]
theorem Lr {α : Type _} {l : List α} {k : Nat} {d : α} (h : k < l.length) : l.take (k + 1) = l.take k ++ [l.getD k d] := by rw [List.take_succ_eq_append_getElem h, List.getD_eq_getElem?_getD, List.getElem?_eq_getElem h]; rfl
theorem Om (E : List (List Int)) (a : Nat) : (xE E a).length = E.length := by unfold xE; simp; omega
section
variable {w0 w : World} {F : HP} {e p ph pw pt pr pm pb : Nat} {s : bn} {k x place : Int} {hl : List sN} {base most cls : Int} {tx : Int → Option ByteArray} {v pv : Value} {U : Int → List (List jm)} {put : List jm} {xs : List Value} {inn run whole : Bool} {E : List (List Int)} {a : Nat} {L : List Int} {pnt mk : Int}
theorem DZ {x0 x1 x2 x3 x4 x5 x6 x7 x8 x9 x10 x12 yA x14 x15 x16 x17 x18 x19 x20 x21 yV x23 x24 x25 zo x27 x28 x29 x30 x31 x32 Ad : Value} (H : V w0 w (dW e (.cells (x0 :: x1 :: x2 :: x3 :: x4 :: x5 :: x6 :: x7 :: x8 :: x9 :: x10 :: .pointer (some ⟨ph, 0, none⟩) :: x12 :: yA :: x14 :: x15 :: x16 :: x17 :: x18 :: x19 :: x20 :: x21 :: yV :: x23 :: x24 :: x25 :: zo :: x27 :: x28 :: x29 :: x30 :: x31 :: x32 :: Ad :: []).toArray 82 (0, 0)) • F)) : iE prog 65 #[.pointer (some ⟨e, 0, none⟩)] w fun v w' => v = .bool false ∧ w = w' := by
  refine iZ func65 ntmps65 ?_
  refine jQ O (bQ O (Z (jy iD O O) (jG O (fun h1 => ?_) (fun h1 => ?_))))
  · (try simp only [aA] at h1)
    exfalso; first | contradiction | omega
  · (try simp only [aA] at h1)
    refine bg (bT O (bg (dK O (bg (bJ 11 ah O sizeOf78 O (bg (fM kX O (H).get.2 O (bg (Z (jy kX O O) (iH O O (fB O (dL results65 O ?_))))))))))))
    exact ⟨O, O⟩
theorem uD {x0 x1 x4 x5 x6 x7 x8 x9 x11 x12 yA x14 x15 x17 x18 x19 x20 x21 yV x23 x24 x25 zo x27 x29 x30 x31 : Value} (H : V w0 w (dW e (.cells (x0 :: x1 :: .pointer (some ⟨pw, 0, none⟩) :: .map (some pm) :: x4 :: x5 :: x6 :: x7 :: x8 :: x9 :: .bool run :: x11 :: x12 :: yA :: x14 :: x15 :: .bool inn :: x17 :: x18 :: x19 :: x20 :: x21 :: yV :: x23 :: x24 :: x25 :: zo :: x27 :: .int .i64 cls :: x29 :: x30 :: x31 :: .bool whole :: pv :: []).toArray 82 (0, 0)) • dW pw (.cells #[.int .i64 k, .map (some pt)] 122 (0, 0)) • yN pm U • Row 189 3 pv put.length xs • F)) (hU : (U k).length ≤ 16384) :
    iE prog 67 #[.pointer (some ⟨e, 0, none⟩)] w fun v' w' => v' = .int .i64 (uo (U k) inn put (cls == 3 && whole) run) ∧
      V w0 w' (dW e (.cells (x0 :: x1 :: .pointer (some ⟨pw, 0, none⟩) :: .map (some pm) :: x4 :: x5 :: x6 :: x7 :: x8 :: x9 :: .bool run :: x11 :: x12 :: yA :: x14 :: x15 :: .bool inn :: x17 :: x18 :: x19 :: x20 :: x21 :: yV :: x23 :: x24 :: x25 :: zo :: x27 :: .int .i64 cls :: x29 :: x30 :: x31 :: .bool whole :: pv :: []).toArray 82 (0, 0)) • dW pw (.cells #[.int .i64 k, .map (some pt)] 122 (0, 0)) • yN pm U • Row 189 3 pv put.length xs • F) := by
  refine iZ func67 ntmps67 ?_
  refine jQ O (jQ O ?_)
  refine kT [(0, _)] (fun (_ : Unit) => [(3, .int .i64 ((U k).length : Int))]) (fun (_ : Unit) W => V w0 W (dW e (.cells (x0 :: x1 :: .pointer (some ⟨pw, 0, none⟩) :: .map (some pm) :: x4 :: x5 :: x6 :: x7 :: x8 :: x9 :: .bool run :: x11 :: x12 :: yA :: x14 :: x15 :: .bool inn :: x17 :: x18 :: x19 :: x20 :: x21 :: yV :: x23 :: x24 :: x25 :: zo :: x27 :: .int .i64 cls :: x29 :: x30 :: x31 :: .bool whole :: pv :: []).toArray 82 (0, 0)) • dW pw (.cells #[.int .i64 k, .map (some pt)] 122 (0, 0)) • yN pm U • Row 189 3 pv put.length xs • F)) lU ?_ ?_
  · rintro _ w1 HJ
    dsimp only [List.cons_append, List.nil_append]
    refine aN (bQ O (dK O (bJ 16 ah O aP O (fM bY O (HJ).get.2 O (jG O (fun h1 => ?_) (fun h1 => ?_))))))
    · (try simp only [aA] at h1)
      have hin := h1
      refine bg (bT O (bg (dK O (bg (bJ 33 ah O bP O (bg (fM aW O (HJ).get.2 O (bg (Z (kK ((HJ.f4).aS) aW O) (bg (Z (dY O O) (iU O O (jG O (fun h2 => ?_) (fun h2 => ?_))))))))))))))
      · (try simp only [aA] at h2)
        have hno : put.isEmpty = false := by rw [qU]; exact decide_eq_false (by omega)
        refine bg (bT O (bg (dK O (bg (bJ 28 ah O ay O (bg (fM aH O (HJ).get.2 O (bg (Z (dX O O) (bg (jG O (fun h3 => ?_) (fun h3 => ?_))))))))))))
        · (try simp only [aA] at h3)
          have hcl := h3
          refine bg (bT O (bg (dK O (bg (bJ 32 ah O aP O (bg (fM bY O (HJ).get.2 O (bg (iU O O (bg (jG O (fun h4 => ?_) (fun h4 => ?_))))))))))))
          · (try simp only [aA] at h4)
            have hwh := h4
            refine bg (bT O (bg (dK O (bg (bJ 0 ah O aU O (bg (bJ 10 aI O aP O (bg (fM bY O (HJ).get.2 O (bg (iU O O (bg (Z (lJ O) (iU O O (jB O (fun h5 => ?_) (fun h5 => ?_))))))))))))))))
            · (try simp only [aA] at h5)
              have hrn := h5
              refine aC (bT O (Z (fJ O O (by omega)) (fG O (bQ O (fB O (dL results67 O ?_))))))
              refine ⟨?_, HJ.f4.f4.f4.f4⟩
              congr 1
              unfold uo
              first
                | exact absurd hrn (by decide)
                | (simp [hin]; done)
                | (simp [hin, hno]; done)
                | (simp [hin, hno, hcl]; done)
                | (simp [hin, hno, hcl, hwh]; done)
                | (simp [hin, hno, hcl, hwh, hrn]; done)
            · (try simp only [aA] at h5)
              have hrn := h5
              refine gG (bQ O (fB O (dL results67 O ?_)))
              refine ⟨?_, HJ.f4.f4.f4.f4⟩
              congr 1
              unfold uo
              first
                | exact absurd hrn (by decide)
                | (simp [hin]; done)
                | (simp [hin, hno]; done)
                | (simp [hin, hno, hcl]; done)
                | (simp [hin, hno, hcl, hwh]; done)
                | (simp [hin, hno, hcl, hwh, hrn]; done)
          · (try simp only [aA] at h4)
            have hwh := h4
            refine bF (bF (bF (bF (bF (bg (iH O O (bg (Z (lJ O) (iU O O (jB O (fun h6 => ?_) (fun h6 => ?_)))))))))))
            · (try simp only [aA] at h6)
              have hrn := h6
              refine aC (bT O (Z (fJ O O (by omega)) (fG O (bQ O (fB O (dL results67 O ?_))))))
              refine ⟨?_, HJ.f4.f4.f4.f4⟩
              congr 1
              unfold uo
              first
                | exact absurd hrn (by decide)
                | (simp [hin]; done)
                | (simp [hin, hno]; done)
                | (simp [hin, hno, hcl]; done)
                | (simp [hin, hno, hcl, hwh]; done)
                | (simp [hin, hno, hcl, hwh, hrn]; done)
            · (try simp only [aA] at h6)
              have hrn := h6
              refine gG (bQ O (fB O (dL results67 O ?_)))
              refine ⟨?_, HJ.f4.f4.f4.f4⟩
              congr 1
              unfold uo
              first
                | exact absurd hrn (by decide)
                | (simp [hin]; done)
                | (simp [hin, hno]; done)
                | (simp [hin, hno, hcl]; done)
                | (simp [hin, hno, hcl, hwh]; done)
                | (simp [hin, hno, hcl, hwh, hrn]; done)
        · (try simp only [aA] at h3)
          have hcl := h3
          refine bF (bF (bF (bF (bg (iH O O (bg (bT O (bF (bF (bF (bF (bF (bg (iH O O (bg (Z (lJ O) (iU O O (jB O (fun h7 => ?_) (fun h7 => ?_)))))))))))))))))))
          · (try simp only [aA] at h7)
            have hrn := h7
            refine aC (bT O (Z (fJ O O (by omega)) (fG O (bQ O (fB O (dL results67 O ?_))))))
            refine ⟨?_, HJ.f4.f4.f4.f4⟩
            congr 1
            unfold uo
            first
              | exact absurd hrn (by decide)
              | (simp [hin]; done)
              | (simp [hin, hno]; done)
              | (simp [hin, hno, hcl]; done)
              | (simp [hin, hno, hcl, hwh]; done)
              | (simp [hin, hno, hcl, hwh, hrn]; done)
          · (try simp only [aA] at h7)
            have hrn := h7
            refine gG (bQ O (fB O (dL results67 O ?_)))
            refine ⟨?_, HJ.f4.f4.f4.f4⟩
            congr 1
            unfold uo
            first
              | exact absurd hrn (by decide)
              | (simp [hin]; done)
              | (simp [hin, hno]; done)
              | (simp [hin, hno, hcl]; done)
              | (simp [hin, hno, hcl, hwh]; done)
              | (simp [hin, hno, hcl, hwh, hrn]; done)
      · (try simp only [aA] at h2)
        have hno : put.isEmpty = true := by rw [qU]; exact decide_eq_true (by omega)
        refine bF (bF (bF (bF (bF (bF (ng (ng (ng (ng (bF (bF (ng (ng (ng (ng (ng (bF (bF (iH O O (iJ (qo (gG (bQ O (fB O (dL results67 O ?_)))))))))))))))))))))))))
        refine ⟨?_, HJ.f4.f4.f4.f4⟩
        congr 1
        unfold uo
        first
          | exact absurd hrn (by decide)
          | (simp [hin]; done)
          | (simp [hin, hno]; done)
          | (simp [hin, hno, hcl]; done)
          | (simp [hin, hno, hcl, hwh]; done)
          | (simp [hin, hno, hcl, hwh, hrn]; done)
    · (try simp only [aA] at h1)
      have hin := h1
      refine bF (bF (bF (bF (bF (bF (iH O O (bT O (bF (bF (bF (bF (bF (bF (ng (ng (ng (ng (bF (bF (ng (ng (ng (ng (ng (bF (bF (iH O O (iJ (qo (gG (bQ O (fB O ?_))))))))))))))))))))))))))))))))
      refine dL results67 O ?_
      refine ⟨?_, HJ.f4.f4.f4.f4⟩
      congr 1
      unfold uo
      first
        | exact absurd hrn (by decide)
        | (simp [hin]; done)
        | (simp [hin, hno]; done)
        | (simp [hin, hno, hcl]; done)
        | (simp [hin, hno, hcl, hwh]; done)
        | (simp [hin, hno, hcl, hwh, hrn]; done)
  · skip
    refine aN ?_
    obtain ⟨D, P, hD1, hD2, HU⟩ := (H.f3).abk
    have UN := HU.drew
    have nZ := V.kp (UN.f5.f5.f5.f5.f5)
    refine yH [4, 9, 12, 13] nZ O (iQ 0 O nZ O (jU 1 O nZ O (gU 2 O nZ 0 ah O aU O (gU 3 O nZ 3 aI O sizeOf75 O (jO 4 O nZ (fun W hW => jV lT O ((Kp.h hW).f3).get.2 O) (iQ 5 O nZ O (jU 6 O nZ O (gU 7 O nZ 0 ah O aU O (gU 8 O nZ 2 aI O sizeOf74 O (jO 9 O nZ (fun W hW => jV lS O ((Kp.h hW).f3).get.2 O) (jU 10 O nZ O (gU 11 O nZ 0 gy O ay O (jO 12 O nZ (fun W hW => jV aH O ((Kp.h hW).f4).get.2 O) (jO 13 O nZ (fun W hW => Qm (QZ ((Kp.h hW)) lT aH zeroValue184 O O) (VT D P k)) (jC 14 O nZ (fun _ => dR O) (qV (aX (bQ O (Z (wH underlying184 O O) (jB O (fun h8 => ?_) (fun h8 => ?_)))))))))))))))))))))
    · (try simp only [aA] at h8)
      have hmem := Si h8
      rw [Rn hmem]
      have HF := UN.f2
      rw [uV hmem] at HF
      have HF2 := HF.flat
      refine aC (bT O (dS O func120 (O6 HF2) ?_))
      rintro _ w2 ⟨rfl, H2⟩
      have Xc := H2.f2.f2
      have VG := V.of_eq Xc (by rw [← dG, ← uV hmem])
      have Ho5 := VG.f2
      have Hc6 := V.Ep hD1 hD2 Ho5
      refine iK O (bW ?_)
      refine dw (()) ?_ ?_ ?_
      · exact (Sub.jv O (by first | (rw [hD2 _ hnm]; rfl) | (simp; done)) (Sub.nil _))
      · exact lU
      · (try dsimp only)
        first | done | exact Hc6.f4.f2.f4.f4
    · (try simp only [aA] at h8)
      have hnm := PW h8
      have Y4 := UN.f2.f2
      have Y5 := V.Ep hD1 hD2 Y4
      refine cZ ?_
      refine dw (()) ?_ ?_ ?_
      · exact (Sub.jv O (by first | (rw [hD2 _ hnm]; rfl) | (simp; done)) (Sub.nil _))
      · exact lU
      · (try dsimp only)
        first | done | exact Y5.f4.f2.f4.f4
theorem Ci {x0 x2 x3 x4 x5 x6 x7 x8 x9 x10 x12 yA x14 x15 x16 x17 x18 x19 x20 x21 yV x23 x24 x25 zo x27 x28 x29 x30 x31 x32 Ad : Value} (H : V w0 w (dW e (.cells (x0 :: .pointer (some ⟨pr, 0, none⟩) :: x2 :: x3 :: x4 :: x5 :: x6 :: x7 :: x8 :: x9 :: x10 :: .pointer (some ⟨ph, 0, none⟩) :: x12 :: yA :: x14 :: x15 :: x16 :: x17 :: x18 :: x19 :: x20 :: x21 :: yV :: x23 :: x24 :: x25 :: zo :: x27 :: x28 :: x29 :: x30 :: x31 :: x32 :: Ad :: []).toArray 82 (0, 0)) • dZ pr E a • F)) : iE prog 33 #[.pointer (some ⟨e, 0, none⟩)] w fun v' w' =>
  ∃ us, V w0 w' (Row 22 1 v' E.length us • Jq 21 .i32 us (xE E a) • dW e (.cells (x0 :: .pointer (some ⟨pr, 0, none⟩) :: x2 :: x3 :: x4 :: x5 :: x6 :: x7 :: x8 :: x9 :: x10 :: .pointer (some ⟨ph, 0, none⟩) :: x12 :: yA :: x14 :: x15 :: x16 :: x17 :: x18 :: x19 :: x20 :: x21 :: yV :: x23 :: x24 :: x25 :: zo :: x27 :: x28 :: x29 :: x30 :: x31 :: x32 :: Ad :: []).toArray 82 (0, 0)) • dZ pr E a • F) := by
 obtain ⟨hE1, hE2, hE3⟩ := J9 H.swap
 refine iZ func33 ntmps33 ?_
 refine jQ O (aN (bQ O (dS O func65 (DZ H) ?_)))
 rintro _ _ ⟨rfl, rfl⟩
 refine iJ (qo (gG (jQ O (bQ O (dK O (bJ 0 ah O aU O (bJ 1 aI O sizeOf73 O (fM qR O (H).get.2 O (dS O func85 (Dy H.f2) ?_)))))))))
 rintro _ w2 ⟨pc2, rfl, H2⟩
 refine uZ O (bQ O (dS O func86 (OY H2) ?_))
 rintro _ _ ⟨rfl, rfl⟩
 refine bT O (iJ (aY ?_))
 obtain ⟨R4, hR4, HR4⟩ := V.ad1 (H2)
 refine gW [(4, _), (17, _)] (fun (⟨i, u⟩ : Nat × Value) => [(3, u), (18, .int .i64 (i : Int))]) (fun (⟨i, u⟩ : Nat × Value) W => i ≤ E.length ∧ ∃ us, V w0 W (Row 22 1 u i us • Jq 21 .i32 us ((xE E a).take i) • dZ pc2 E (ZY E.length a i) • R4)) (fun (⟨i, u⟩ : Nat × Value) => E.length - i) ((0, .slice none 0 0)) uJ uJ ⟨by omega, [], HR4.ZX.jk none⟩ ?_
 rintro ⟨i, u⟩ w5 ⟨hi, us, HL⟩
 dsimp only [List.cons_append, List.nil_append]
 refine iR (Z (fZ O O) (qQ (bD O (fun h1 => ?_) (fun h1 => ?_))))
 ·(try simp only [aA] at h1)
  refine gG (aN (aY (bQ O (fG O (bQ O (bT O (Z (zZ O O) (dS O func87 (Jk HL.f3) ?_))))))))
  rintro _ w6 ⟨u6, rfl, H6⟩
  have hne : ¬ E.length = 0 := by omega
  have HX := H6
  simp only [if_neg hne] at HX
  refine bT O (uH O O (uH O O (iK O (fG O (aC (jR O O (kD (lq (vs := [_]) HX iW dh zeroValue22 O O O (by decide) (aZ (by first | rfl | exact Rd.one ((HX).aS)) bU)) ?_)))))))
  rintro l7 w7 H7
  refine kD (iy H7.f4 iW acv O O O ((H7).aS) (aZ (by first | rfl | exact Rd.one ((H7.f2).aS)) bU) (by omega) (by omega)) ?_
  rintro l8 w8 H8
  have Hd9 := H8.f2.right
  refine iK O (bW (aK (aX (aC (Z (fJ O O (by omega)) (bT O (bW ?_)))))))
  have HS := (Hd9.f3.f2.f3.f4).Ey.f2
  refine dV ((i + 1, l8)) ?_ ?_ ?_ ?_
  ·exact uJ
  ·exact uJ
  ·(try dsimp only)
   first | done | exact ⟨by omega, _, by rw [Lr (d := []) (by rw [Om]; omega), XL (by omega) (by omega), ← XK]; exact HS⟩
  ·(try dsimp only); omega
 ·(try simp only [aA] at h1)
  refine dO (aO ?_)
  obtain rfl : i = E.length := by omega
  have HK := HL
  rw [List.take_of_length_le (by rw [Om]; exact Nat.le_refl _)] at HK
  subst hR4
  refine aO (bI (aX (bQ O (fB O (dL results33 O ?_)))))
  exact ⟨_, HK.f3.right.f3.f4.f4.f4⟩
end
def UO (s : bn) (u ks sv : Value) : List Value := [u, .int .i64 s.c.pt, .int .i64 s.c.mark, .int .i64 s.c.mode, .bool s.c.over, .bool s.given, .bool s.minus, .int .i64 s.arg, .int .i64 s.CX, .int .i64 s.Yk, .int .i64 s.Yl, ks, .int .i64 s.c.place, sv, .int .i64 s.Zd, .int .i64 s.c.res, .int .i64 s.um]
section
variable {w0 w : World} {F : HP} {e p ph pw pt pr pm pb : Nat} {s : bn} {k x place : Int} {hl : List sN} {base most cls : Int} {tx : Int → Option ByteArray} {v pv : Value} {U : Int → List (List jm)} {L : List Int} {pnt mk : Int}
theorem Jb {x1 x2 x3 x4 x5 x6 x7 x8 x9 x10 x12 yA x14 x15 x16 x17 x18 x19 x20 x21 yV x23 x24 x25 zo x27 x28 x29 x30 x31 x32 Ad : Value} (H : V w0 w (dW e (.cells (.pointer (some ⟨pb, 0, none⟩) :: x1 :: x2 :: x3 :: x4 :: x5 :: x6 :: x7 :: x8 :: x9 :: x10 :: .pointer (some ⟨ph, 0, none⟩) :: x12 :: yA :: x14 :: x15 :: x16 :: x17 :: x18 :: x19 :: x20 :: x21 :: yV :: x23 :: x24 :: x25 :: zo :: x27 :: x28 :: x29 :: x30 :: x31 :: x32 :: Ad :: []).toArray 82 (0, 0)) • iP pb L pnt mk • F)) : iE prog 28 #[.pointer (some ⟨e, 0, none⟩)] w fun v' w' =>
  ∃ u, v' = .agg (wJ u pnt mk) ∧ V w0 w' (ku 21 .i32 u L • dW e (.cells (.pointer (some ⟨pb, 0, none⟩) :: x1 :: x2 :: x3 :: x4 :: x5 :: x6 :: x7 :: x8 :: x9 :: x10 :: .pointer (some ⟨ph, 0, none⟩) :: x12 :: yA :: x14 :: x15 :: x16 :: x17 :: x18 :: x19 :: x20 :: x21 :: yV :: x23 :: x24 :: x25 :: zo :: x27 :: x28 :: x29 :: x30 :: x31 :: x32 :: Ad :: []).toArray 82 (0, 0)) • iP pb L pnt mk • F) := by
 refine iZ func28 ntmps28 ?_
 refine iR (kD (iC (l := [_, _, _]) H zeroValue46 O) ?_)
 rintro _ w1 ⟨b1, rfl, H1⟩
 refine qQ (bQ O (dS O func65 (DZ H1.f2) ?_))
 rintro _ _ ⟨rfl, rfl⟩
 refine iJ (qo (gG (bQ O (dK O (bJ 0 ah O aU O (bJ 0 aI O mO O (fM jH O (H1.f2).get.2 O (dS O func79 (Gp H1.f3) ?_))))))))
 rintro _ w3 ⟨u3, rfl, H3⟩
 refine aJ (dB 0 (l' := [_, _, _]) (us := [_, _, _]) H3.f3 sizeOf46 O O O (aZ (by first | rfl | exact Rd.one ((H3).aS)) (aG (aG bU))) O O) ?_
 rintro _ w4 H4
 refine zkc ?_
 refine rJ (.inl O) (OI results28 O iO O (by rw [YJ]; rfl) (H4).get.2) ?_
 exact ⟨_, O, H4.right.f2.f3.f3⟩
theorem yR {x0 x1 x3 x4 x5 x6 x7 x8 x9 x10 x12 yA x14 x15 x16 x17 x18 x19 x20 x21 yV x23 x24 x25 zo x27 x28 x29 x30 x31 x32 Ad : Value} (H : V w0 w (dW e (.cells (x0 :: x1 :: .pointer (some ⟨pw, 0, none⟩) :: x3 :: x4 :: x5 :: x6 :: x7 :: x8 :: x9 :: x10 :: .pointer (some ⟨ph, 0, none⟩) :: x12 :: yA :: x14 :: x15 :: x16 :: x17 :: x18 :: x19 :: x20 :: x21 :: yV :: x23 :: x24 :: x25 :: zo :: x27 :: x28 :: x29 :: x30 :: x31 :: x32 :: Ad :: []).toArray 82 (0, 0)) • dW pw (.cells #[.int .i64 place, .map (some pt)] 122 (0, 0)) • gY uw pt (vV tx) • iY ph hl base most • F)) :
    iE prog 66 #[.pointer (some ⟨e, 0, none⟩)] w fun v' w' => V w0 w' (Row 133 2 v' (BP hl tx place).length ((BP hl tx place).flatMap Wi) •
      dW e (.cells (x0 :: x1 :: .pointer (some ⟨pw, 0, none⟩) :: x3 :: x4 :: x5 :: x6 :: x7 :: x8 :: x9 :: x10 :: .pointer (some ⟨ph, 0, none⟩) :: x12 :: yA :: x14 :: x15 :: x16 :: x17 :: x18 :: x19 :: x20 :: x21 :: yV :: x23 :: x24 :: x25 :: zo :: x27 :: x28 :: x29 :: x30 :: x31 :: x32 :: Ad :: []).toArray 82 (0, 0)) • dW pw (.cells #[.int .i64 place, .map (some pt)] 122 (0, 0)) • gY uw pt (vV tx) • iY ph hl base most • F) := by
  have hb : hl.length ≤ 4096 := by obtain ⟨v, h, _⟩ := H.r4.hist; exact h.1
  refine iZ func66 ntmps66 ?_
  refine jQ O (jQ O (bQ O (dK O (bJ 11 ah O sizeOf78 O (fM kX O (H).get.2 O (dS O func117 (qG H.f4) ?_))))))
  rintro _ w1 ⟨rfl, H1⟩
  refine uZ O (bQ O (bT O (iJ (aY ?_))))
  refine gW [(0, _), (4, _), (11, _)] (fun (⟨i, u⟩ : Nat × Value) => [(3, u), (12, .int .i64 (i : Int))]) (fun (⟨i, u⟩ : Nat × Value) W => i ≤ hl.length ∧ V w0 W (Row 133 2 u (sO hl tx place i).length ((sO hl tx place i).flatMap Wi) • dW e (.cells (x0 :: x1 :: .pointer (some ⟨pw, 0, none⟩) :: x3 :: x4 :: x5 :: x6 :: x7 :: x8 :: x9 :: x10 :: .pointer (some ⟨ph, 0, none⟩) :: x12 :: yA :: x14 :: x15 :: x16 :: x17 :: x18 :: x19 :: x20 :: x21 :: yV :: x23 :: x24 :: x25 :: zo :: x27 :: x28 :: x29 :: x30 :: x31 :: x32 :: Ad :: []).toArray 82 (0, 0)) • dW pw (.cells #[.int .i64 place, .map (some pt)] 122 (0, 0)) • gY uw pt (vV tx) • iY ph hl base most • F)) (fun (⟨i, u⟩ : Nat × Value) => hl.length - i) ((0, .slice none 0 0)) uK uJ ⟨by omega, H1.f4.f4.f4.jk none⟩ ?_
  rintro ⟨i, u⟩ w2 ⟨hi, HL⟩
  dsimp only [List.cons_append, List.nil_append]
  refine iR (Z (fZ O O) (qQ (bD O (fun h1 => ?_) (fun h1 => ?_))))
  · (try simp only [aA] at h1)
    refine gG (aN (aY (bQ O (uZ O ?_))))
    have hLen := xQ hl tx place i
    refine aC (jR O O (dK O (bJ 0 ah O aU O (bJ 2 aI O sizeOf74 O (fM lS O (HL.f2).get.2 O (dK O (bJ 0 gy O ay O (fM aH O (HL.f3).get.2 O (Z (ig O O) (jG O (fun h2 => ?_) (fun h2 => ?_)))))))))))
    · (try simp only [aA] at h2)
      have hpl := h2
      refine bg (bT O (bg (bT O (bg (dS O func118 (AY HL.f5.f5.f5.f5) ?_)))))
      rintro _ w3 ⟨rfl, H3⟩
      refine bg (bT O (bg (bT O (bg (dS O func119 (GY H3.f4.f2) ?_)))))
      rintro _ w4 ⟨rfl, H4⟩
      refine bg (Z (Ei O O) (iU O O (jB O (fun h3 => ?_) (fun h3 => ?_))))
      · (try simp only [aA] at h3)
        have hsv := Sj (hl := hl) (tx := tx) (place := place) (i := i) (by unfold En; rw [decide_eq_true hpl]; simpa using h3)
        refine aC (jR O O (jR O O (dS O func118 (AY H4.f2.f4.f4.f4) ?_)))
        rintro _ w5 ⟨rfl, H5⟩
        refine Z (fC (zl := [.int .i64 0, .string .empty]) (pl := [(0, 1), (1, 1)]) [_, _] underlying133 zeroValue133 O (fun w => by kernel_rfl) O (.on (.on .nil)) O) ?_
        refine kD (uQ H5 underlying48 sizeOf133 zeroValue133 O O O (by decide) (by decide)) ?_
        rintro l6 w6 H6
        refine kD (iy H6.f6 underlying48 Z4 O O O ((H6).aS) (aG (aG bU)) (by omega) (by omega)) ?_
        rintro l7 w7 H7
        have Hd8 := H7.f2.right
        refine iK O (bW (aK (aX (aC (Z (fJ O O (by omega)) (bT O (bW ?_)))))))
        have hLen := xQ hl tx place i
        refine dV ((i + 1, l7)) ?_ ?_ ?_ ?_
        · exact uJ
        · exact uK
        · (try dsimp only)
          first | done | exact ⟨by omega, by first | (rw [hsv, List.length_append, List.flatMap_append]; exact Hd8.f5.f5.f5.f5.f5) | (rw [hsv]; exact Hd8.f5.f5.f5.f5.f5)⟩
        · (try dsimp only); omega
      · (try simp only [aA] at h3)
        have hsv := Lp (hl := hl) (tx := tx) (place := place) (i := i) (by unfold En; rw [decide_eq_true hpl]; simpa using h3)
        refine cZ (aK (aX (aC (Z (fJ O O (by omega)) (bT O (bW ?_))))))
        have hLen := xQ hl tx place i
        refine dV ((i + 1, u)) ?_ ?_ ?_ ?_
        · exact uJ
        · exact uK
        · (try dsimp only)
          first | done | exact ⟨by omega, by first | (rw [hsv, List.length_append, List.flatMap_append]; exact H4.f2.f4.f4.f4.f5) | (rw [hsv]; exact H4.f2.f4.f4.f4.f5)⟩
        · (try dsimp only); omega
    · (try simp only [aA] at h2)
      have hsv := Lp (hl := hl) (tx := tx) (place := place) (i := i) (by unfold En; rw [decide_eq_false (by simpa using h2)]; rfl)
      refine bF (bF (bF (bF (bF (bF (bF (iH O O (iJ (qo (cZ (aK (aX (aC (Z (fJ O O (by omega)) (bT O (bW ?_))))))))))))))))
      have hLen := xQ hl tx place i
      refine dV ((i + 1, u)) ?_ ?_ ?_ ?_
      · exact uJ
      · exact uK
      · (try dsimp only)
        first | done | exact ⟨by omega, by first | (rw [hsv, List.length_append, List.flatMap_append]; exact HL.f5.f5.f5.f5.f5) | (rw [hsv]; exact HL.f5.f5.f5.f5.f5)⟩
      · (try dsimp only); omega
  · (try simp only [aA] at h1)
    refine dO (aO ?_)
    obtain rfl : i = hl.length := by omega
    refine aO (bI (aX (aN (aN ?_))))
    have hLen := xQ hl tx place hl.length
    refine aC (nG O O (bJ 0 ah O aU O (bJ 2 aI O sizeOf74 O (fM lS O (HL.f2).get.2 O (dK O (bJ 0 gy O ay O (fM aH O (HL.f3).get.2 O (bT O (Z (ig O O) (jB O (fun h4 => ?_) (fun h4 => ?_)))))))))))
    · (try simp only [aA] at h4)
      have hsv : BP hl tx place = sO hl tx place hl.length ++ [((hl.length : Int), kL hl tx hl.length)] := by unfold BP; rw [if_pos h4]
      refine aC (jR O O (jR O O (dS O func118 (AY HL.f5.f5.f5.f5) ?_)))
      rintro _ w9 ⟨rfl, H9⟩
      refine Z (fC (zl := [.int .i64 0, .string .empty]) (pl := [(0, 1), (1, 1)]) [_, _] underlying133 zeroValue133 O (fun w => by kernel_rfl) O (.on (.on .nil)) O) ?_
      refine kD (uQ H9 underlying48 sizeOf133 zeroValue133 O O O (by decide) (by decide)) ?_
      rintro l10 w10 pR
      refine kD (iy pR.f6 underlying48 Z4 O O O ((pR).aS) (aG (aG bU)) (by omega) (by omega)) ?_
      rintro l11 Fv tq
      have ML := tq.f2.right
      refine fG O (bQ O (fB O (dL results66 O ?_)))
      first
        | (rw [hsv, List.length_append, List.flatMap_append]; exact ML.f5.f5.f5.f5.f5)
        | (rw [hsv]; exact ML.f5.f5.f5.f5.f5)
    · (try simp only [aA] at h4)
      have hsv : BP hl tx place = sO hl tx place hl.length := by unfold BP; rw [if_neg (by simpa using h4), List.append_nil]
      refine gG (bQ O (fB O (dL results66 O ?_)))
      first
        | (rw [hsv, List.length_append, List.flatMap_append]; exact HL.f5.f5.f5.f5.f5)
        | (rw [hsv]; exact HL.f5.f5.f5.f5.f5)
theorem XM {u0 u1 u2 u3 u4 u5 u6 u7 u8 u9 ua : Value} (hin : s.inn = true) (H : V w0 w (xM s.inn s.was [u0, u1, u2, u3, u4, u5, u6, u7, u8, u9, ua] • F)) : u6 = .int .i64 s.was.last ∧ u7 = .int .i64 s.was.fr ∧ u8 = .int .i64 s.was.to := by
  rw [hin] at H
  obtain ⟨qb, qr, qw, qt, qm, hu, -⟩ := H.was
  simp only [Rh, List.cons.injEq, and_true] at hu
  exact ⟨hu.2.2.2.2.2.2.1, hu.2.2.2.2.2.2.2.1, hu.2.2.2.2.2.2.2.2.1⟩
set_option maxHeartbeats 1000000 in
theorem PX (H : V w0 w (eP e s • F)) : iE prog 23 #[.pointer (some ⟨e, 0, none⟩)] w fun v w' => ∃ u ks us sv, v = .agg (UO s u ks sv).toArray ∧
  V w0 w' (ku 21 .i32 u s.c.L • Row 22 1 ks s.c.E.length us • Jq 21 .i32 us (xE s.c.E s.c.at_) • Row 133 2 sv s.saved.length (s.saved.flatMap Wi) • eP e s • F) := by
 refine iZ func23 ntmps23 ?_
 obtain ⟨wM, wO, wP, wQ, wR, wS, wU, wV, uN, tu, tC, tH, tJ, tK, tN, tV, tX, tY, tZ, uf, gK, dD, kM, iw⟩ := (H).GI
 have hU : (s.c.un s.c.place).length ≤ 16384 := by
  obtain ⟨D, P, hD1, hD2, HU⟩ := (iw.f6).abk
  by_cases hm : s.c.place ∈ D
  ·have HF := HU.swap
   rw [uV hm] at HF
   obtain ⟨_, _, _, _, k1, _⟩ := HF.flat.zu
   have := k1.len; simpa using this
  ·rw [hD2 _ hm]; decide
 refine iR (kD (iC (l := [_, _, _, _, _, _, _, _, _, _, _, _, _, _, _, _, _]) iw jZ O) ?_)
 rintro _ w2 ⟨b2, rfl, H2⟩
 refine qQ (bQ O (dS O func65 (DZ H2.f2) ?_))
 rintro _ _ ⟨rfl, rfl⟩
 refine iJ (qo (gG ?_))
 refine kT [(0, _)] (fun (⟨r, q, u, ks, sv, us⟩ : Nat × Nat × Value × Value × Value × List Value) => [(2, .pointer (some ⟨r, 0, none⟩)), (3, .pointer (some ⟨q, 0, none⟩))]) (fun (⟨r, q, u, ks, sv, us⟩ : Nat × Nat × Value × Value × Value × List Value) W => V w0 W (dW q (.cells (u :: .int .i64 s.c.pt :: .int .i64 s.c.mark :: .int .i64 s.c.mode :: .bool s.c.over :: .bool s.given :: .bool s.minus :: .int .i64 s.arg :: .int .i64 s.c.last :: .int .i64 s.c.fr :: .int .i64 s.c.to :: ks :: .int .i64 s.c.place :: sv :: .int .i64 s.Zd :: .int .i64 s.c.res :: .int .i64 s.um :: []).toArray 50 (0, 0)) • ku 21 .i32 u s.c.L • Row 22 1 ks s.c.E.length us • Jq 21 .i32 us (xE s.c.E s.c.at_) • Row 133 2 sv s.saved.length (s.saved.flatMap Wi) • dW e (.cells (.pointer (some ⟨wM, 0, none⟩) :: .pointer (some ⟨wO, 0, none⟩) :: .pointer (some ⟨wP, 0, none⟩) :: .map (some wR) :: .int .i64 s.c.mode :: .bool s.c.over :: .int .i64 s.c.last :: .int .i64 s.c.fr :: .int .i64 s.c.to :: .int .i64 s.c.res :: .bool s.c.run :: .pointer (some ⟨wS, 0, none⟩) :: .pointer (some ⟨wU, 0, none⟩) :: .bool s.given :: .bool s.minus :: .int .i64 s.arg :: .bool s.inn :: tu :: tC :: tH :: tJ :: tK :: tN :: tV :: tX :: tY :: tZ :: uf :: .int .i64 s.cls :: .bool s.killed :: .bool s.kU :: .bool s.argues :: .bool s.whole :: wV :: []).toArray 82 (0, 0)) • iP wM s.c.L s.c.pt s.c.mark • dZ wO s.c.E s.c.at_ • dW wP (.cells #[.int .i64 s.c.place, .map (some wQ)] 122 (0, 0)) • gY uw wQ (vV s.c.tx) • yN wR s.c.un • iY wS s.hl s.base s.most • dW wU (.cells #[.int .i64 s.um] 161 (0, 0)) • Row 189 3 wV s.put.length (uN.flatMap fA.enc) • lW uN • xM s.inn s.was [tu, tC, tH, tJ, tK, tN, tV, tX, tY, tZ, uf] • dW r (.cells (.slice none 0 0 :: .int .i64 0 :: .int .i64 0 :: .int .i64 0 :: .bool false :: .bool false :: .bool false :: .int .i64 0 :: .int .i64 0 :: .int .i64 0 :: .int .i64 0 :: .slice none 0 0 :: .int .i64 0 :: .slice none 0 0 :: .int .i64 0 :: .int .i64 0 :: .int .i64 0 :: []).toArray 50 (0, 0)) • F)) lU ?_ ?_
 ·rintro ⟨r, q, u, ks, sv, us⟩ w4 HJ
  dsimp only [List.cons_append, List.nil_append]
  refine aN (bQ O (dK O (bJ 16 ah O aP O (fM bY O (HJ.f6).get.2 O (jB O (fun h1 => ?_) (fun h1 => ?_))))))
  ·(try simp only [aA] at h1)
   have hin := h1
   obtain ⟨rfl, rfl, rfl⟩ := XM hin HJ.f16
   have aeS := HJ.drew
   have xR := V.kp (aeS.right.f16.f16.f16.f16.f16.f16.f16.f16.f16.f16.f16.f16.f16.f16.f16.f16)
   refine yH [4, 9, 14] xR O (iQ 0 O xR O (jU 1 O xR O (gU 2 O xR 17 ah O aU O (gU 3 O xR 6 aI O ay O (jO 4 O xR (fun W hW => jV aH O ((Kp.h hW).f5).get.2 O) (iQ 5 O xR O (jU 6 O xR O (gU 7 O xR 17 ah O aU O (gU 8 O xR 7 aI O ay O (jO 9 O xR (fun W hW => jV aH O ((Kp.h hW).f5).get.2 O) (iQ 10 O xR O (jU 11 O xR O (gU 12 O xR 17 ah O aU O (gU 13 O xR 8 aI O ay O (jO 14 O xR (fun W hW => jV aH O ((Kp.h hW).f5).get.2 O) (gU 15 O xR 8 jr O ay O ?_))))))))))))))))
   refine gB 16 O (by kernel_rfl) (acP 8 aeS ay) ?_
   rintro _ w5 H5
   have FC := V.kp (H5.right.f16.f16.f16.f16.f16.f16.f16.f16.f16.f16.f16.f16.f16.f16.f16.f16)
   refine eF FC (fun W hW => (Kp.h hW).f16.f16.f16.f16.f16.f16.f16.f16.f16.f16.f16.f16.f16.f16.f16.f16) ?_
   refine gU 17 O FC 9 jr O ay O ?_
   refine gB 18 O (by kernel_rfl) (acP 9 H5 ay) ?_
   rintro _ w6 H6
   have BR := V.kp (H6.f17.f17.f17.f17.f17.f17.f17.f17.f17.f17.f17.f17.f17.f17.f17.f17.f17)
   refine eF BR (fun W hW => (Kp.h hW).right.f16.f16.f16.f16.f16.f16.f16.f16.f16.f16.f16.f16.f16.f16.f16.f16) ?_
   refine gU 19 O BR 10 jr O ay O ?_
   refine gB 20 O (by kernel_rfl) (acP 10 H6 ay) ?_
   rintro _ w7 H7
   have Bd := V.kp (H7.f17.f17.f17.f17.f17.f17.f17.f17.f17.f17.f17.f17.f17.f17.f17.f17.f17)
   refine iG Bd (by kernel_rfl) ?_
   refine qV (aX (iR (Z (dM jr O sizeOf50 O O (H7).get.2) (aJ (dB 0 (l' := [_, _, _, _, _, _, _, _, _, _, _, _, _, _, _, _, _]) (us := [_, _, _, _, _, _, _, _, _, _, _, _, _, _, _, _, _]) H7.f17 sizeOf50 O O O (aZ (by first | rfl | exact Rd.one ((H7.f2).aS)) (aG (aG (aG (aG (aG (aG (aG (aG (aG (aG (aZ (by first | rfl | exact Rd.one ((H7.f3).aS)) (aG (aZ (by first | rfl | exact Rd.one ((H7.f5).aS)) (aG (aG (aG bU))))))))))))))))) O O) ?_))))
   rintro _ w8 H8
   refine zkc ?_
   refine rJ (.inl O) (OI results23 O jr O (by rw [acw]; rfl) (H8).get.2) ?_
   have Y9 := H8.f17.f17.f17.f17.f17.f17.f17.f17.f17.f17.f17
   have Za := V.iq (s := s) gK dD Y9
   refine ⟨u, ks, us, sv, ?_, Za.f2.right.f2.right.f5.f5.f5.f5⟩
   unfold UO bn.CX bn.Yk bn.Yl
   rw [hin]
   rfl
  ·(try simp only [aA] at h1)
   have hin := h1
   refine gG (iR (Z (dM jr O sizeOf50 O O (HJ).get.2) (aJ (dB 0 (l' := [_, _, _, _, _, _, _, _, _, _, _, _, _, _, _, _, _]) (us := [_, _, _, _, _, _, _, _, _, _, _, _, _, _, _, _, _]) HJ.f17 sizeOf50 O O O (aZ (by first | rfl | exact Rd.one ((HJ.f2).aS)) (aG (aG (aG (aG (aG (aG (aG (aG (aG (aG (aZ (by first | rfl | exact Rd.one ((HJ.f3).aS)) (aG (aZ (by first | rfl | exact Rd.one ((HJ.f5).aS)) (aG (aG (aG bU))))))))))))))))) O O) ?_)))
   rintro _ w12 vZ
   refine zkc ?_
   refine rJ (.inl O) (OI results23 O jr O (by rw [acw]; rfl) (vZ).get.2) ?_
   have ac4 := vZ.f17.f17.f17.f17.f17.f17.f17.f17.f17.f17.f17
   have ac5 := V.iq (s := s) gK dD ac4
   refine ⟨u, ks, us, sv, ?_, ac5.f2.right.f2.right.f5.f5.f5.f5⟩
   unfold UO bn.CX bn.Yk bn.Yl
   rw [hin]
   rfl
 ·skip
  have Z5 := H2.drew
  have fH := V.kp (Z5.f7.right.f7.right.f10.f10.f10.f10.f10.f10.f10.f10.f10.f10)
  refine yH [6, 11, 15, 19, 23, 28, 33, 38, 45, 48, 57, 61] fH O (iQ 0 O fH O (iQ 2 O fH O (jU 3 O fH O (gU 4 O fH 0 ah O aU O (gU 5 O fH 4 aI O ay O (jO 6 O fH (fun W hW => jV aH O ((Kp.h hW).f2).get.2 O) (iQ 7 O fH O (jU 8 O fH O (gU 9 O fH 0 ah O aU O (gU 10 O fH 5 aI O aP O (jO 11 O fH (fun W hW => jV bY O ((Kp.h hW).f2).get.2 O) (iQ 12 O fH O (jU 13 O fH O (gU 14 O fH 13 ah O aP O (jO 15 O fH (fun W hW => jV bY O ((Kp.h hW).f2).get.2 O) (iQ 16 O fH O (jU 17 O fH O (gU 18 O fH 14 ah O aP O (jO 19 O fH (fun W hW => jV bY O ((Kp.h hW).f2).get.2 O) (iQ 20 O fH O (jU 21 O fH O (gU 22 O fH 15 ah O ay O (jO 23 O fH (fun W hW => jV aH O ((Kp.h hW).f2).get.2 O) (iQ 24 O fH O (jU 25 O fH O (gU 26 O fH 0 ah O aU O (gU 27 O fH 6 aI O ay O (jO 28 O fH (fun W hW => jV aH O ((Kp.h hW).f2).get.2 O) (iQ 29 O fH O (jU 30 O fH O (gU 31 O fH 0 ah O aU O (gU 32 O fH 7 aI O ay O (jO 33 O fH (fun W hW => jV aH O ((Kp.h hW).f2).get.2 O) (iQ 34 O fH O (jU 35 O fH O (gU 36 O fH 0 ah O aU O (gU 37 O fH 8 aI O ay O (jO 38 O fH (fun W hW => jV aH O ((Kp.h hW).f2).get.2 O) (iQ 39 O fH O ?_)))))))))))))))))))))))))))))))))))))))
  refine iQ 41 O fH O (jU 42 O fH O (gU 43 O fH 0 ah O aU O (gU 44 O fH 2 aI O sizeOf74 O (jO 45 O fH (fun W hW => jV lS O ((Kp.h hW).f2).get.2 O) (jU 46 O fH O (gU 47 O fH 0 gy O ay O (jO 48 O fH (fun W hW => jV aH O ((Kp.h hW).f5).get.2 O) (iQ 49 O fH O (iQ 51 O fH O (iQ 53 O fH O (jU 54 O fH O (gU 55 O fH 0 ah O aU O (gU 56 O fH 9 aI O ay O (jO 57 O fH (fun W hW => jV aH O ((Kp.h hW).f2).get.2 O) (iQ 58 O fH O (jU 59 O fH O (gU 60 O fH 12 ah O sizeOf79 O (jO 61 O fH (fun W hW => jV underlying79 O ((Kp.h hW).f2).get.2 O) ?_))))))))))))))))))
  refine Am (i := 1) (j := 64) (by kernel_rfl) ?_ ?_
  ·skip
   refine kY 1 O (by kernel_rfl) (xZ (zh O func28 O O) (Jb Z5.f3.f3)) (oz O) ?_
   rintro _ w16 ⟨u16, rfl, vw⟩
   have DJ := V.kp (vw.f8.right.f8.right.f11.f11.f11.f11.f11.f11.f11.f11.f11.f11.f11)
   refine eF DJ (fun W hW => (Kp.h hW).right.f10.f10.f10.f10.f10.f10.f10.f9.f9.f10) ?_
   refine Am (i := 40) (j := 64) (by kernel_rfl) ?_ ?_
   ·skip
    refine kY 40 O (by kernel_rfl) (xZ (zh O func33 O O) (Ci vw.f5.f3)) (oz O) ?_
    rintro u17 YI ⟨ahJ, Dh⟩
    have IZ := V.kp (Dh.f10.right.f10.right.f13.f13.f13.f13.f13.f13.f13.f13.f13.f13.f13.f13.f13)
    refine eF IZ (fun W hW => (Kp.h hW).right.right.f11.f11.f11.f11.f11.f11.f8.f11.f11.f10.f11) ?_
    refine Am (i := 50) (j := 64) (by kernel_rfl) ?_ ?_
    ·skip
     refine kY 50 O (by kernel_rfl) (xZ (zh O func66 O O) (yR Dh.f11.f10.f10.f6)) (oz O) ?_
     rintro u18 YD EN
     have Kw := V.kp (EN.f12.right.f15.f15.f15.f15.f15.f15.f15.f15.f15.f15.f15.f15.f15.f15.f15)
     refine eF Kw (fun W hW => (Kp.h hW).right.f4.right.f13.f13.f13.f13.f7.f7.f13.f13.f13.f13.f11.f13.f13) ?_
     refine Am (i := 52) (j := 64) (by kernel_rfl) ?_ ?_
     ·skip
      refine kY 52 O (by kernel_rfl) (xZ (zh O func67 O O) (uD EN.f14.f13.f5.f5 hU)) (oz O) ?_
      rintro _ w19 ⟨rfl, EF⟩
      have Q8 := V.kp (EF.f16.f16.f16.f16.f16.f16.f16.f16.f16.f16.f16.f16.f16.f16.f16.f16)
      refine eF Q8 (fun W hW => (Kp.h hW).f3.right.f15.f15.f5.f15.f15.f15.f15.f15.f15.f15.f15.f15.f14.f14.f15) ?_
      refine Am (i := 62) (j := 64) (by kernel_rfl) ?_ ?_
      ·skip
       refine kY 62 O (by kernel_rfl) (xZ (zh O func68 O O) (pq EF.f14)) (oz O) ?_
       rintro _ _ ⟨rfl, rfl⟩
       have DN := V.kp (EF.f16.f16.f16.f16.f16.f16.f16.f16.f16.f16.f16.f16.f16.f16.f16.f16)
       refine eF DN (fun W hW => (Kp.h hW).f16.f16.f16.f16.f16.f16.f16.f16.f16.f16.f16.f16.f16.f16.f16.f16) ?_
       refine jC 63 O DN (fun _ => fC (zl := [.slice none 0 0, .int .i64 0, .int .i64 0, .int .i64 0, .bool false, .bool false, .bool false, .int .i64 0, .int .i64 0, .int .i64 0, .int .i64 0, .slice none 0 0, .int .i64 0, .slice none 0 0, .int .i64 0, .int .i64 0, .int .i64 0]) (pl := [(0, 3), (3, 1), (4, 1), (5, 1), (6, 1), (7, 1), (8, 1), (9, 1), (10, 1), (11, 1), (12, 1), (13, 1), (14, 1), (15, 1), (16, 1)]) [_, _, _, _, _, _, _, _, _, _, _, _, _, _, _, _, _] jr jZ O (fun w => by kernel_rfl) O (.agg (us := [_, _, _]) (zs := [.slice none 0 0, .int .i64 0, .int .i64 0]) O O (.on (.on (.on (.on (.on (.on (.on (.on (.one (Rd.one ((EF.f8).aS)) (.on (.one (Rd.one ((EF.f5).aS)) (.on (.on (.on .nil))))))))))))))) O) ?_
       refine mZ 64 O (iC (l := [_, _, _, _, _, _, _, _, _, _, _, _, _, _, _, _, _]) EF jZ O) ?_
       rintro _ w21 ⟨b21, rfl, vO⟩
       have Z7 := V.kp (vO.f17.f17.f17.f17.f17.f17.f17.f17.f17.f17.f17.f17.f17.f17.f17.f17.f17)
       refine eF Z7 (fun W hW => (Kp.h hW).right.f16.f16.f16.f16.f16.f16.f16.f16.f16.f16.f16.f16.f16.f16.f16.f16) ?_
       refine gB 65 O (by kernel_rfl) (dB 0 (l' := [_, _, _, _, _, _, _, _, _, _, _, _, _, _, _, _, _]) (us := [_, _, _, _, _, _, _, _, _, _, _, _, _, _, _, _, _]) vO sizeOf50 O O O (aZ (by first | rfl | exact Rd.one ((vO.f12).aS)) (aG (aG (aG (aG (aG (aG (aG (aG (aG (aG (aZ (by first | rfl | exact Rd.one ((vO.f9).aS)) (aG (aZ (by first | rfl | exact Rd.one ((vO.f6).aS)) (aG (aG (aG bU))))))))))))))))) O O) ?_
       rintro _ w22 Jv
       have GH := V.kp (Jv.f17.f17.f17.f17.f17.f17.f17.f17.f17.f17.f17.f17.f17.f17.f17.f17.f17)
       refine iG GH (by kernel_rfl) ?_
       refine qV ?_
       refine dw (_, _, _, _, _, _) uJ lU (by (try dsimp only); exact Jv.f14.f17.f17.f8.f17.f12.f10.f12.f11.f15.f17.f13.f14.f16.f16.f17.f17)
      ·skip
       refine kY 64 O (by kernel_rfl) (iC (l := [_, _, _, _, _, _, _, _, _, _, _, _, _, _, _, _, _]) EF jZ O) (oz O) ?_
       rintro _ w23 ⟨b23, rfl, CQ⟩
       have I5 := V.kp (CQ.f17.f17.f17.f17.f17.f17.f17.f17.f17.f17.f17.f17.f17.f17.f17.f17.f17)
       refine eF I5 (fun W hW => (Kp.h hW).right.f16.f16.f16.f16.f16.f16.f16.f16.f16.f16.f16.f16.f16.f16.f16.f16) ?_
       refine mZ 62 O (xq O func68 (pq CQ.f15)) ?_
       rintro _ _ ⟨rfl, rfl⟩
       have KP := V.kp (CQ.f17.f17.f17.f17.f17.f17.f17.f17.f17.f17.f17.f17.f17.f17.f17.f17.f17)
       refine eF KP (fun W hW => (Kp.h hW).f17.f17.f17.f17.f17.f17.f17.f17.f17.f17.f17.f17.f17.f17.f17.f17.f17) ?_
       refine jC 63 O KP (fun _ => fC (zl := [.slice none 0 0, .int .i64 0, .int .i64 0, .int .i64 0, .bool false, .bool false, .bool false, .int .i64 0, .int .i64 0, .int .i64 0, .int .i64 0, .slice none 0 0, .int .i64 0, .slice none 0 0, .int .i64 0, .int .i64 0, .int .i64 0]) (pl := [(0, 3), (3, 1), (4, 1), (5, 1), (6, 1), (7, 1), (8, 1), (9, 1), (10, 1), (11, 1), (12, 1), (13, 1), (14, 1), (15, 1), (16, 1)]) [_, _, _, _, _, _, _, _, _, _, _, _, _, _, _, _, _] jr jZ O (fun w => by kernel_rfl) O (.agg (us := [_, _, _]) (zs := [.slice none 0 0, .int .i64 0, .int .i64 0]) O O (.on (.on (.on (.on (.on (.on (.on (.on (.one (Rd.one ((CQ.f9).aS)) (.on (.one (Rd.one ((CQ.f6).aS)) (.on (.on (.on .nil))))))))))))))) O) ?_
       refine gB 65 O (by kernel_rfl) (dB 0 (l' := [_, _, _, _, _, _, _, _, _, _, _, _, _, _, _, _, _]) (us := [_, _, _, _, _, _, _, _, _, _, _, _, _, _, _, _, _]) CQ sizeOf50 O O O (aZ (by first | rfl | exact Rd.one ((CQ.f12).aS)) (aG (aG (aG (aG (aG (aG (aG (aG (aG (aG (aZ (by first | rfl | exact Rd.one ((CQ.f9).aS)) (aG (aZ (by first | rfl | exact Rd.one ((CQ.f6).aS)) (aG (aG (aG bU))))))))))))))))) O O) ?_
       rintro _ w25 TT
       have Zn := V.kp (TT.f17.f17.f17.f17.f17.f17.f17.f17.f17.f17.f17.f17.f17.f17.f17.f17.f17)
       refine iG Zn (by kernel_rfl) ?_
       refine qV ?_
       refine dw (_, _, _, _, _, _) uJ lU (by (try dsimp only); exact TT.f14.f17.f17.f8.f17.f12.f10.f12.f11.f15.f17.f13.f14.f16.f16.f17.f17)
     ·skip
      refine kY 64 O (by kernel_rfl) (iC (l := [_, _, _, _, _, _, _, _, _, _, _, _, _, _, _, _, _]) EN jZ O) (oz O) ?_
      rintro _ w26 ⟨b26, rfl, VA⟩
      have aeT := V.kp (VA.f13.right.f16.f16.f16.f16.f16.f16.f16.f16.f16.f16.f16.f16.f16.f16.f16.f16)
      refine eF aeT (fun W hW => (Kp.h hW).right.f15.f15.f15.f15.f15.f15.f15.f15.f15.f15.f15.f15.f15.f15.f15) ?_
      refine mZ 52 O (xq O func67 (uD VA.f15.f14.f6.f6 hU)) ?_
      rintro _ w27 ⟨rfl, NS⟩
      have aeU := V.kp (NS.f17.f17.f17.f17.f17.f17.f17.f17.f17.f17.f17.f17.f17.f17.f17.f17.f17)
      refine eF aeU (fun W hW => (Kp.h hW).f3.right.f16.f16.f5.f16.f16.f16.f16.f16.f16.f16.f16.f16.f14.f14.f16.f16) ?_
      refine mZ 62 O (xq O func68 (pq NS.f15)) ?_
      rintro _ _ ⟨rfl, rfl⟩
      have acx := V.kp (NS.f17.f17.f17.f17.f17.f17.f17.f17.f17.f17.f17.f17.f17.f17.f17.f17.f17)
      refine eF acx (fun W hW => (Kp.h hW).f17.f17.f17.f17.f17.f17.f17.f17.f17.f17.f17.f17.f17.f17.f17.f17.f17) ?_
      refine jC 63 O acx (fun _ => fC (zl := [.slice none 0 0, .int .i64 0, .int .i64 0, .int .i64 0, .bool false, .bool false, .bool false, .int .i64 0, .int .i64 0, .int .i64 0, .int .i64 0, .slice none 0 0, .int .i64 0, .slice none 0 0, .int .i64 0, .int .i64 0, .int .i64 0]) (pl := [(0, 3), (3, 1), (4, 1), (5, 1), (6, 1), (7, 1), (8, 1), (9, 1), (10, 1), (11, 1), (12, 1), (13, 1), (14, 1), (15, 1), (16, 1)]) [_, _, _, _, _, _, _, _, _, _, _, _, _, _, _, _, _] jr jZ O (fun w => by kernel_rfl) O (.agg (us := [_, _, _]) (zs := [.slice none 0 0, .int .i64 0, .int .i64 0]) O O (.on (.on (.on (.on (.on (.on (.on (.on (.one (Rd.one ((NS.f9).aS)) (.on (.one (Rd.one ((NS.f6).aS)) (.on (.on (.on .nil))))))))))))))) O) ?_
      refine gB 65 O (by kernel_rfl) (dB 0 (l' := [_, _, _, _, _, _, _, _, _, _, _, _, _, _, _, _, _]) (us := [_, _, _, _, _, _, _, _, _, _, _, _, _, _, _, _, _]) NS.f5 sizeOf50 O O O (aZ (by first | rfl | exact Rd.one ((NS.f12).aS)) (aG (aG (aG (aG (aG (aG (aG (aG (aG (aG (aZ (by first | rfl | exact Rd.one ((NS.f9).aS)) (aG (aZ (by first | rfl | exact Rd.one ((NS.f6).aS)) (aG (aG (aG bU))))))))))))))))) O O) ?_
      rintro _ w29 Yi
      have aeV := V.kp (Yi.f17.f17.f17.f17.f17.f17.f17.f17.f17.f17.f17.f17.f17.f17.f17.f17.f17)
      refine iG aeV (by kernel_rfl) ?_
      refine qV ?_
      refine dw (_, _, _, _, _, _) uJ lU (by (try dsimp only); exact Yi.f14.f17.f17.f8.f17.f12.f10.f12.f11.f15.f17.f13.f14.f16.f16.f17.f17)
    ·skip
     refine kY 64 O (by kernel_rfl) (iC (l := [_, _, _, _, _, _, _, _, _, _, _, _, _, _, _, _, _]) Dh jZ O) (oz O) ?_
     rintro _ w30 ⟨b30, rfl, VB⟩
     have aeW := V.kp (VB.f11.right.f11.right.f14.f14.f14.f14.f14.f14.f14.f14.f14.f14.f14.f14.f14.f14)
     refine eF aeW (fun W hW => (Kp.h hW).right.f13.f13.f13.f13.f13.f13.f13.f13.f13.f13.f13.f13.f13) ?_
     refine mZ 50 O (xq O func66 (yR VB.f12.f11.f11.f7)) ?_
     rintro u31 w31 Tn
     have Zo := V.kp (Tn.f13.right.f16.f16.f16.f16.f16.f16.f16.f16.f16.f16.f16.f16.f16.f16.f16.f16)
     refine eF Zo (fun W hW => (Kp.h hW).right.f4.right.f14.f14.f14.f14.f7.f7.f14.f14.f14.f14.f11.f14.f14.f14) ?_
     refine mZ 52 O (xq O func67 (uD Tn.f15.f14.f5.f5 hU)) ?_
     rintro _ w32 ⟨rfl, NT⟩
     have VU := V.kp (NT.f17.f17.f17.f17.f17.f17.f17.f17.f17.f17.f17.f17.f17.f17.f17.f17.f17)
     refine eF VU (fun W hW => (Kp.h hW).f3.right.f16.f16.f5.f16.f16.f16.f16.f16.f16.f16.f16.f16.f16.f15.f15.f16) ?_
     refine mZ 62 O (xq O func68 (pq NT.f15)) ?_
     rintro _ _ ⟨rfl, rfl⟩
     have VW := V.kp (NT.f17.f17.f17.f17.f17.f17.f17.f17.f17.f17.f17.f17.f17.f17.f17.f17.f17)
     refine eF VW (fun W hW => (Kp.h hW).f17.f17.f17.f17.f17.f17.f17.f17.f17.f17.f17.f17.f17.f17.f17.f17.f17) ?_
     refine jC 63 O VW (fun _ => fC (zl := [.slice none 0 0, .int .i64 0, .int .i64 0, .int .i64 0, .bool false, .bool false, .bool false, .int .i64 0, .int .i64 0, .int .i64 0, .int .i64 0, .slice none 0 0, .int .i64 0, .slice none 0 0, .int .i64 0, .int .i64 0, .int .i64 0]) (pl := [(0, 3), (3, 1), (4, 1), (5, 1), (6, 1), (7, 1), (8, 1), (9, 1), (10, 1), (11, 1), (12, 1), (13, 1), (14, 1), (15, 1), (16, 1)]) [_, _, _, _, _, _, _, _, _, _, _, _, _, _, _, _, _] jr jZ O (fun w => by kernel_rfl) O (.agg (us := [_, _, _]) (zs := [.slice none 0 0, .int .i64 0, .int .i64 0]) O O (.on (.on (.on (.on (.on (.on (.on (.on (.one (Rd.one ((NT.f9).aS)) (.on (.one (Rd.one ((NT.f5).aS)) (.on (.on (.on .nil))))))))))))))) O) ?_
     refine gB 65 O (by kernel_rfl) (dB 0 (l' := [_, _, _, _, _, _, _, _, _, _, _, _, _, _, _, _, _]) (us := [_, _, _, _, _, _, _, _, _, _, _, _, _, _, _, _, _]) NT.f8 sizeOf50 O O O (aZ (by first | rfl | exact Rd.one ((NT.f12).aS)) (aG (aG (aG (aG (aG (aG (aG (aG (aG (aG (aZ (by first | rfl | exact Rd.one ((NT.f9).aS)) (aG (aZ (by first | rfl | exact Rd.one ((NT.f5).aS)) (aG (aG (aG bU))))))))))))))))) O O) ?_
     rintro _ w34 Zp
     have Ob := V.kp (Zp.f17.f17.f17.f17.f17.f17.f17.f17.f17.f17.f17.f17.f17.f17.f17.f17.f17)
     refine iG Ob (by kernel_rfl) ?_
     refine qV ?_
     refine dw (_, _, _, _, _, _) uJ lU (by (try dsimp only); exact Zp.f14.f17.f17.f8.f17.f12.f10.f12.f11.f15.f17.f13.f14.f16.f16.f17.f17)
   ·skip
    refine kY 64 O (by kernel_rfl) (iC (l := [_, _, _, _, _, _, _, _, _, _, _, _, _, _, _, _, _]) vw jZ O) (oz O) ?_
    rintro _ w35 ⟨b35, rfl, H35⟩
    have Zq := V.kp (H35.f9.right.f9.right.f12.f12.f12.f12.f12.f12.f12.f12.f12.f12.f12.f12)
    refine eF Zq (fun W hW => (Kp.h hW).right.f11.f11.f11.f11.f11.f11.f11.f11.f11.f11.f11) ?_
    refine mZ 40 O (xq O func33 (Ci H35.f6.f4)) ?_
    rintro u36 w36 ⟨ahK, H36⟩
    have aeX := V.kp (H36.f11.right.f11.right.f14.f14.f14.f14.f14.f14.f14.f14.f14.f14.f14.f14.f14.f14)
    refine eF aeX (fun W hW => (Kp.h hW).right.right.f12.f12.f12.f12.f12.f12.f8.f12.f12.f10.f12.f12) ?_
    refine mZ 50 O (xq O func66 (yR H36.f12.f11.f11.f6)) ?_
    rintro u37 w37 H37
    have aeY := V.kp (H37.f13.right.f16.f16.f16.f16.f16.f16.f16.f16.f16.f16.f16.f16.f16.f16.f16.f16)
    refine eF aeY (fun W hW => (Kp.h hW).right.f4.right.f14.f14.f14.f14.f7.f7.f14.f14.f14.f14.f14.f12.f14.f14) ?_
    refine mZ 52 O (xq O func67 (uD H37.f15.f14.f5.f5 hU)) ?_
    rintro _ w38 ⟨rfl, Uw⟩
    have aeZ := V.kp (Uw.f17.f17.f17.f17.f17.f17.f17.f17.f17.f17.f17.f17.f17.f17.f17.f17.f17)
    refine eF aeZ (fun W hW => (Kp.h hW).f3.right.f16.f16.f5.f16.f16.f16.f16.f16.f16.f16.f16.f16.f16.f15.f15.f16) ?_
    refine mZ 62 O (xq O func68 (pq Uw.f15)) ?_
    rintro _ _ ⟨rfl, rfl⟩
    have RV := V.kp (Uw.f17.f17.f17.f17.f17.f17.f17.f17.f17.f17.f17.f17.f17.f17.f17.f17.f17)
    refine eF RV (fun W hW => (Kp.h hW).f17.f17.f17.f17.f17.f17.f17.f17.f17.f17.f17.f17.f17.f17.f17.f17.f17) ?_
    refine jC 63 O RV (fun _ => fC (zl := [.slice none 0 0, .int .i64 0, .int .i64 0, .int .i64 0, .bool false, .bool false, .bool false, .int .i64 0, .int .i64 0, .int .i64 0, .int .i64 0, .slice none 0 0, .int .i64 0, .slice none 0 0, .int .i64 0, .int .i64 0, .int .i64 0]) (pl := [(0, 3), (3, 1), (4, 1), (5, 1), (6, 1), (7, 1), (8, 1), (9, 1), (10, 1), (11, 1), (12, 1), (13, 1), (14, 1), (15, 1), (16, 1)]) [_, _, _, _, _, _, _, _, _, _, _, _, _, _, _, _, _] jr jZ O (fun w => by kernel_rfl) O (.agg (us := [_, _, _]) (zs := [.slice none 0 0, .int .i64 0, .int .i64 0]) O O (.on (.on (.on (.on (.on (.on (.on (.on (.one (Rd.one ((Uw.f8).aS)) (.on (.one (Rd.one ((Uw.f5).aS)) (.on (.on (.on .nil))))))))))))))) O) ?_
    refine gB 65 O (by kernel_rfl) (dB 0 (l' := [_, _, _, _, _, _, _, _, _, _, _, _, _, _, _, _, _]) (us := [_, _, _, _, _, _, _, _, _, _, _, _, _, _, _, _, _]) Uw.f11 sizeOf50 O O O (aZ (by first | rfl | exact Rd.one ((Uw.f12).aS)) (aG (aG (aG (aG (aG (aG (aG (aG (aG (aG (aZ (by first | rfl | exact Rd.one ((Uw.f8).aS)) (aG (aZ (by first | rfl | exact Rd.one ((Uw.f5).aS)) (aG (aG (aG bU))))))))))))))))) O O) ?_
    rintro _ w40 H40
    have ae0 := V.kp (H40.f17.f17.f17.f17.f17.f17.f17.f17.f17.f17.f17.f17.f17.f17.f17.f17.f17)
    refine iG ae0 (by kernel_rfl) ?_
    refine qV ?_
    refine dw (_, _, _, _, _, _) uJ lU (by (try dsimp only); exact H40.f14.f17.f17.f8.f17.f12.f10.f12.f11.f15.f17.f13.f14.f16.f16.f17.f17)
  ·skip
   refine kY 64 O (by kernel_rfl) (iC (l := [_, _, _, _, _, _, _, _, _, _, _, _, _, _, _, _, _]) Z5 jZ O) (oz O) ?_
   rintro _ w41 ⟨b41, rfl, H41⟩
   have Zr := V.kp (H41.f8.right.f8.right.f11.f11.f11.f11.f11.f11.f11.f11.f11.f11.f11)
   refine eF Zr (fun W hW => (Kp.h hW).right.f10.f10.f10.f10.f10.f10.f10.f10.f10.f10) ?_
   refine mZ 1 O (xq O func28 (Jb H41.f4.f4)) ?_
   rintro _ w42 ⟨u42, rfl, H42⟩
   have Oc := V.kp (H42.f9.right.f9.right.f12.f12.f12.f12.f12.f12.f12.f12.f12.f12.f12.f12)
   refine eF Oc (fun W hW => (Kp.h hW).right.f11.f11.f11.f11.f11.f11.f11.f9.f9.f11.f11) ?_
   refine mZ 40 O (xq O func33 (Ci H42.f6.f3)) ?_
   rintro u43 w43 ⟨ahL, H43⟩
   have Zt := V.kp (H43.f11.right.f11.right.f14.f14.f14.f14.f14.f14.f14.f14.f14.f14.f14.f14.f14.f14)
   refine eF Zt (fun W hW => (Kp.h hW).right.right.f12.f12.f12.f12.f12.f12.f8.f12.f12.f12.f11.f12) ?_
   refine mZ 50 O (xq O func66 (yR H43.f12.f11.f11.f6)) ?_
   rintro u44 w44 H44
   have ae1 := V.kp (H44.f13.right.f16.f16.f16.f16.f16.f16.f16.f16.f16.f16.f16.f16.f16.f16.f16.f16)
   refine eF ae1 (fun W hW => (Kp.h hW).right.f4.right.f14.f14.f14.f14.f7.f7.f14.f14.f14.f14.f14.f12.f14.f14) ?_
   refine mZ 52 O (xq O func67 (uD H44.f15.f14.f5.f5 hU)) ?_
   rintro _ w45 ⟨rfl, Tq⟩
   have ae2 := V.kp (Tq.f17.f17.f17.f17.f17.f17.f17.f17.f17.f17.f17.f17.f17.f17.f17.f17.f17)
   refine eF ae2 (fun W hW => (Kp.h hW).f3.right.f16.f16.f5.f16.f16.f16.f16.f16.f16.f16.f16.f16.f16.f15.f15.f16) ?_
   refine mZ 62 O (xq O func68 (pq Tq.f15)) ?_
   rintro _ _ ⟨rfl, rfl⟩
   have acy := V.kp (Tq.f17.f17.f17.f17.f17.f17.f17.f17.f17.f17.f17.f17.f17.f17.f17.f17.f17)
   refine eF acy (fun W hW => (Kp.h hW).f17.f17.f17.f17.f17.f17.f17.f17.f17.f17.f17.f17.f17.f17.f17.f17.f17) ?_
   refine jC 63 O acy (fun _ => fC (zl := [.slice none 0 0, .int .i64 0, .int .i64 0, .int .i64 0, .bool false, .bool false, .bool false, .int .i64 0, .int .i64 0, .int .i64 0, .int .i64 0, .slice none 0 0, .int .i64 0, .slice none 0 0, .int .i64 0, .int .i64 0, .int .i64 0]) (pl := [(0, 3), (3, 1), (4, 1), (5, 1), (6, 1), (7, 1), (8, 1), (9, 1), (10, 1), (11, 1), (12, 1), (13, 1), (14, 1), (15, 1), (16, 1)]) [_, _, _, _, _, _, _, _, _, _, _, _, _, _, _, _, _] jr jZ O (fun w => by kernel_rfl) O (.agg (us := [_, _, _]) (zs := [.slice none 0 0, .int .i64 0, .int .i64 0]) O O (.on (.on (.on (.on (.on (.on (.on (.on (.one (Rd.one ((Tq.f8).aS)) (.on (.one (Rd.one ((Tq.f5).aS)) (.on (.on (.on .nil))))))))))))))) O) ?_
   refine gB 65 O (by kernel_rfl) (dB 0 (l' := [_, _, _, _, _, _, _, _, _, _, _, _, _, _, _, _, _]) (us := [_, _, _, _, _, _, _, _, _, _, _, _, _, _, _, _, _]) Tq.f13 sizeOf50 O O O (aZ (by first | rfl | exact Rd.one ((Tq.f11).aS)) (aG (aG (aG (aG (aG (aG (aG (aG (aG (aG (aZ (by first | rfl | exact Rd.one ((Tq.f8).aS)) (aG (aZ (by first | rfl | exact Rd.one ((Tq.f5).aS)) (aG (aG (aG bU))))))))))))))))) O O) ?_
   rintro _ w47 H47
   have ae3 := V.kp (H47.f17.f17.f17.f17.f17.f17.f17.f17.f17.f17.f17.f17.f17.f17.f17.f17.f17)
   refine iG ae3 (by kernel_rfl) ?_
   refine qV ?_
   refine dw (_, _, _, _, _, _) uJ lU (by (try dsimp only); exact H47.f14.f17.f17.f8.f17.f12.f10.f12.f11.f15.f17.f13.f14.f16.f16.f17.f17)
end
end Go.Proofs.YtpdeedplgmbopaaGreatDoor
end
section
namespace Go.Proofs.YtpdeedplgmbopaaGreatDoor
open Go.RowKit
theorem rZ {P : Program} {L : List (Nat × Value)} {w : World} {ty t : TypeId} {fs : Array Field} {f : Field} {i : Nat} {x : Operand} {cs : Array Value} {u : Value} (off : Nat) (ht : P.underlying t = some (.struct fs)) (hf : fs[i]? = some f) (ho : f.offset = off) (hp : sG P f.type = true) (hx : ev L x = some (.agg cs)) (hc : cs[off]? = some u) :
    Val P L (.field t x i) ty w u w := fun ρ hρ _ _ _ _ => by
  simp [execOp, hρ _ _ hx, Instr.field, run_underlying ht, hf, part, asAgg, Gj hp, ho, hc]
end Go.Proofs.YtpdeedplgmbopaaGreatDoor
end
