import Derived.Test.YtnhhmieghbfalaaGreatZ4
import Derived.Test.YtnhhmieghbfalaaGreatZ12
import Derived.Test.YtnhhmieghbfalaaGreatZ5
import Derived.Lib.RuneBytes
import Derived.Test.YtnhhmieghbfalaaGreatZ3
import Derived.Laws.BitsLemmas
import GoSem.PinnedTables
import Derived.Laws.IdiomStrings
set_option linter.unusedSimpArgs false
set_option linter.unusedVariables false
/- Texts of mine, joined, their names in short: EdS2 EdS3 UtfM Bits Utf RefTab Utf2 Utf3 Utf4 Utf5 StrB EdG. -/
section
namespace Go.Proofs.YtnhhmieghbfalaaGreat
open Go.RowKit
open _root_.Go.Proofs.Tryz
theorem Si {D : List Int} {P : Int → Nat} {k : Int} (h : (Lj D P k).isSome = true) : k ∈ D := by
  unfold Lj at h
  split at h
  · assumption
  · cases h
theorem P6 {D : List Int} {P : Int → Nat} {k : Int} (h : (Lj D P k).isSome = false) : k ∉ D := by
  unfold Lj at h
  split at h
  · cases h
  · assumption
def lT (x : Int × ByteArray) : List Value := [.int .i64 x.1, .string x.2]
theorem OD (x : Int × ByteArray) : (lT x).length = 2 := rfl
theorem Sj {hl : List o7} {tx : Int → Option ByteArray} {place : Int} {i : Nat} (h : D5 hl tx place i = true) : qy hl tx place (i + 1) = qy hl tx place i ++ [((i : Int), iK hl tx i)] := by
  unfold qy; rw [List.range_succ, List.filter_append, List.map_append]; simp [List.filter, h]
theorem LK {hl : List o7} {tx : Int → Option ByteArray} {place : Int} {i : Nat} (h : D5 hl tx place i = false) : qy hl tx place (i + 1) = qy hl tx place i := by
  unfold qy; rw [List.range_succ, List.filter_append, List.map_append]; simp [List.filter, h]
theorem uU (hl : List o7) (tx : Int → Option ByteArray) (place : Int) (i : Nat) : (qy hl tx place i).length ≤ i := by
  unfold qy; rw [List.length_map]
  exact Nat.le_trans (List.length_filter_le _ _) (by simp)
def fK (E : List (List Int)) (a : Nat) : List (List Int) := E.drop a ++ E.take a
def YO (n a i : Nat) : Nat := if i = 0 then a else (a + (i - 1)) % n
theorem WO {n a i : Nat} : Hu n (YO n a i) (min (i : Int) 1) = YO n a (i + 1) := by
  cases i with
  | zero =>
    show (((a : Int) + min ((0 : Nat) : Int) 1) % (n : Int)).toNat = (a + (0 + 1 - 1)) % n
    rw [show min ((0 : Nat) : Int) 1 = 0 by omega, Int.add_zero, show ((a : Int) % (n : Int)) = ((a % n : Nat) : Int) from rfl, Int.toNat_natCast]
    rfl
  | succ j =>
    show (((((a + (j + 1 - 1)) % n : Nat) : Int) + min ((j + 1 : Nat) : Int) 1) % (n : Int)).toNat = (a + (j + 1 + 1 - 1)) % n
    rw [show min ((j + 1 : Nat) : Int) 1 = ((1 : Nat) : Int) by omega, show ((((a + (j + 1 - 1)) % n : Nat) : Int) + ((1 : Nat) : Int)) % (n : Int) = ((((a + (j + 1 - 1)) % n + 1) % n : Nat) : Int) from rfl, Int.toNat_natCast, Nat.mod_add_mod]
    congr 1
theorem WR {E : List (List Int)} {a i : Nat} (h : i < E.length) (ha : a < E.length) : (fK E a).getD i [] = E.getD (YO E.length a (i + 1)) [] := by
  unfold fK YO
  rw [if_neg (by omega), Nat.add_sub_cancel, List.getD_eq_getElem?_getD, List.getD_eq_getElem?_getD]
  by_cases hi : i < E.length - a
  · rw [List.getElem?_append_left (by simpa using hi), List.getElem?_drop, Nat.mod_eq_of_lt (by omega)]
  · rw [List.getElem?_append_right (by simpa using hi), List.length_drop, List.getElem?_take, if_pos (by omega)]
    have : (a + i) % E.length = i - (E.length - a) := by
      rw [show a + i = (i - (E.length - a)) + E.length by omega, Nat.add_mod_right, Nat.mod_eq_of_lt (by omega)]
    rw [this]
theorem LM {α : Type _} {l : List α} {k : Nat} {d : α} (h : k < l.length) : l.take (k + 1) = l.take k ++ [l.getD k d] := by rw [List.take_succ_eq_append_getElem h, List.getD_eq_getElem?_getD, List.getElem?_eq_getElem h]; rfl
theorem yV (E : List (List Int)) (a : Nat) : (fK E a).length = E.length := by unfold fK; simp; omega
section
variable {w0 w : World} {F : HP} {e p ph pw pt pr pm pb : Nat} {s : bP} {k x place : Int} {hl : List o7} {base most cls : Int} {tx : Int → Option ByteArray} {v pv : Value} {U : Int → List (List iO)} {put : List iO} {xs : List Value} {inn run whole : Bool} {E : List (List Int)} {a : Nat} {L : List Int} {pnt mk : Int}
theorem DF {x0 x1 x2 x3 x4 x5 x6 x7 x8 x9 x10 x12 tZ x14 x15 x16 x17 x18 x19 x20 x21 uD x23 x24 x25 uI x27 x28 x29 x30 x31 x32 vM : Value} (H : V w0 w (eF e (.cells (x0 :: x1 :: x2 :: x3 :: x4 :: x5 :: x6 :: x7 :: x8 :: x9 :: x10 :: .pointer (some ⟨ph, 0, none⟩) :: x12 :: tZ :: x14 :: x15 :: x16 :: x17 :: x18 :: x19 :: x20 :: x21 :: uD :: x23 :: x24 :: x25 :: uI :: x27 :: x28 :: x29 :: x30 :: x31 :: x32 :: vM :: []).toArray 71 (0, 0)) • F)) : iQ prog 29 #[.pointer (some ⟨e, 0, none⟩)] w fun v w' => v = .bool false ∧ w = w' := by
  refine jH func29 ntmps29 ?_
  refine kW O (bY O (aZ (nG rP O O) (qG O (fun h1 => ?_) (fun h1 => ?_))))
  · (try simp only [aK] at h1)
    exfalso; first | contradiction | omega
  · (try simp only [aK] at h1)
    refine bK (dn O (bK (dA O (bK (Z 11 aj O sizeOf45 O (bK (dL nS O (H).get.2 O (bK (aZ (nG nS O O) (lH O O (jP O (gy results29 O ?_))))))))))))
    exact ⟨O, O⟩
theorem uz {x0 x1 x4 x5 x6 x7 x8 x9 x11 x12 tZ x14 x15 x17 x18 x19 x20 x21 uD x23 x24 x25 uI x27 x29 x30 x31 : Value} (H : V w0 w (eF e (.cells (x0 :: x1 :: .pointer (some ⟨pw, 0, none⟩) :: .map (some pm) :: x4 :: x5 :: x6 :: x7 :: x8 :: x9 :: .bool run :: x11 :: x12 :: tZ :: x14 :: x15 :: .bool inn :: x17 :: x18 :: x19 :: x20 :: x21 :: uD :: x23 :: x24 :: x25 :: uI :: x27 :: .int .i64 cls :: x29 :: x30 :: x31 :: .bool whole :: pv :: []).toArray 71 (0, 0)) • eF pw (.cells #[.int .i64 k, .map (some pt)] 97 (0, 0)) • yC pm U • Row 130 3 pv put.length xs • F)) (hU : (U k).length ≤ 16384) :
    iQ prog 46 #[.pointer (some ⟨e, 0, none⟩)] w fun v' w' => v' = .int .i64 (sN (U k) inn put (cls == 3 && whole) run) ∧
      V w0 w' (eF e (.cells (x0 :: x1 :: .pointer (some ⟨pw, 0, none⟩) :: .map (some pm) :: x4 :: x5 :: x6 :: x7 :: x8 :: x9 :: .bool run :: x11 :: x12 :: tZ :: x14 :: x15 :: .bool inn :: x17 :: x18 :: x19 :: x20 :: x21 :: uD :: x23 :: x24 :: x25 :: uI :: x27 :: .int .i64 cls :: x29 :: x30 :: x31 :: .bool whole :: pv :: []).toArray 71 (0, 0)) • eF pw (.cells #[.int .i64 k, .map (some pt)] 97 (0, 0)) • yC pm U • Row 130 3 pv put.length xs • F) := by
  refine jH func46 ntmps46 ?_
  refine kW O (kW O ?_)
  refine vP [(0, _)] (fun (_ : Unit) => [(3, .int .i64 ((U k).length : Int))]) (fun (_ : Unit) W => V w0 W (eF e (.cells (x0 :: x1 :: .pointer (some ⟨pw, 0, none⟩) :: .map (some pm) :: x4 :: x5 :: x6 :: x7 :: x8 :: x9 :: .bool run :: x11 :: x12 :: tZ :: x14 :: x15 :: .bool inn :: x17 :: x18 :: x19 :: x20 :: x21 :: uD :: x23 :: x24 :: x25 :: uI :: x27 :: .int .i64 cls :: x29 :: x30 :: x31 :: .bool whole :: pv :: []).toArray 71 (0, 0)) • eF pw (.cells #[.int .i64 k, .map (some pt)] 97 (0, 0)) • yC pm U • Row 130 3 pv put.length xs • F)) pY ?_ ?_
  · rintro _ w1 HJ
    dsimp only [List.cons_append, List.nil_append]
    refine aO (bY O (dA O (Z 16 aj O aN O (dL bf O (HJ).get.2 O (qG O (fun h1 => ?_) (fun h1 => ?_))))))
    · (try simp only [aK] at h1)
      have hin := h1
      refine bK (dn O (bK (dA O (bK (Z 33 aj O bn O (bK (dL aQ O (HJ).get.2 O (bK (aZ (fA ((HJ.f4).aG) aQ O) (bK (aZ (gG O O) (nX O O (qG O (fun h2 => ?_) (fun h2 => ?_))))))))))))))
      · (try simp only [aK] at h2)
        have hno : put.isEmpty = false := by rw [rU]; exact decide_eq_false (by omega)
        refine bK (dn O (bK (dA O (bK (Z 28 aj O ah O (bK (dL ay O (HJ).get.2 O (bK (aZ (je O O) (bK (qG O (fun h3 => ?_) (fun h3 => ?_))))))))))))
        · (try simp only [aK] at h3)
          have hcl := h3
          refine bK (dn O (bK (dA O (bK (Z 32 aj O aN O (bK (dL bf O (HJ).get.2 O (bK (nX O O (bK (qG O (fun h4 => ?_) (fun h4 => ?_))))))))))))
          · (try simp only [aK] at h4)
            have hwh := h4
            refine bK (dn O (bK (dA O (bK (Z 0 aj O aU O (bK (Z 10 aJ O aN O (bK (dL bf O (HJ).get.2 O (bK (nX O O (bK (aZ (kY O) (nX O O (kE O (fun h5 => ?_) (fun h5 => ?_))))))))))))))))
            · (try simp only [aK] at h5)
              have hrn := h5
              refine aB (dn O (aZ (fZ O O (by omega)) (jZ O (bY O (jP O (gy results46 O ?_))))))
              refine ⟨?_, HJ.f4.f4.f4.f4⟩
              congr 1
              unfold sN
              first
                | exact absurd hrn (by decide)
                | (simp [hin]; done)
                | (simp [hin, hno]; done)
                | (simp [hin, hno, hcl]; done)
                | (simp [hin, hno, hcl, hwh]; done)
                | (simp [hin, hno, hcl, hwh, hrn]; done)
            · (try simp only [aK] at h5)
              have hrn := h5
              refine gX (bY O (jP O (gy results46 O ?_)))
              refine ⟨?_, HJ.f4.f4.f4.f4⟩
              congr 1
              unfold sN
              first
                | exact absurd hrn (by decide)
                | (simp [hin]; done)
                | (simp [hin, hno]; done)
                | (simp [hin, hno, hcl]; done)
                | (simp [hin, hno, hcl, hwh]; done)
                | (simp [hin, hno, hcl, hwh, hrn]; done)
          · (try simp only [aK] at h4)
            have hwh := h4
            refine cZ (cZ (cZ (cZ (cZ (bK (lH O O (bK (aZ (kY O) (nX O O (kE O (fun h6 => ?_) (fun h6 => ?_)))))))))))
            · (try simp only [aK] at h6)
              have hrn := h6
              refine aB (dn O (aZ (fZ O O (by omega)) (jZ O (bY O (jP O (gy results46 O ?_))))))
              refine ⟨?_, HJ.f4.f4.f4.f4⟩
              congr 1
              unfold sN
              first
                | exact absurd hrn (by decide)
                | (simp [hin]; done)
                | (simp [hin, hno]; done)
                | (simp [hin, hno, hcl]; done)
                | (simp [hin, hno, hcl, hwh]; done)
                | (simp [hin, hno, hcl, hwh, hrn]; done)
            · (try simp only [aK] at h6)
              have hrn := h6
              refine gX (bY O (jP O (gy results46 O ?_)))
              refine ⟨?_, HJ.f4.f4.f4.f4⟩
              congr 1
              unfold sN
              first
                | exact absurd hrn (by decide)
                | (simp [hin]; done)
                | (simp [hin, hno]; done)
                | (simp [hin, hno, hcl]; done)
                | (simp [hin, hno, hcl, hwh]; done)
                | (simp [hin, hno, hcl, hwh, hrn]; done)
        · (try simp only [aK] at h3)
          have hcl := h3
          refine cZ (cZ (cZ (cZ (bK (lH O O (bK (dn O (cZ (cZ (cZ (cZ (cZ (bK (lH O O (bK (aZ (kY O) (nX O O (kE O (fun h7 => ?_) (fun h7 => ?_)))))))))))))))))))
          · (try simp only [aK] at h7)
            have hrn := h7
            refine aB (dn O (aZ (fZ O O (by omega)) (jZ O (bY O (jP O (gy results46 O ?_))))))
            refine ⟨?_, HJ.f4.f4.f4.f4⟩
            congr 1
            unfold sN
            first
              | exact absurd hrn (by decide)
              | (simp [hin]; done)
              | (simp [hin, hno]; done)
              | (simp [hin, hno, hcl]; done)
              | (simp [hin, hno, hcl, hwh]; done)
              | (simp [hin, hno, hcl, hwh, hrn]; done)
          · (try simp only [aK] at h7)
            have hrn := h7
            refine gX (bY O (jP O (gy results46 O ?_)))
            refine ⟨?_, HJ.f4.f4.f4.f4⟩
            congr 1
            unfold sN
            first
              | exact absurd hrn (by decide)
              | (simp [hin]; done)
              | (simp [hin, hno]; done)
              | (simp [hin, hno, hcl]; done)
              | (simp [hin, hno, hcl, hwh]; done)
              | (simp [hin, hno, hcl, hwh, hrn]; done)
      · (try simp only [aK] at h2)
        have hno : put.isEmpty = true := by rw [rU]; exact decide_eq_true (by omega)
        refine cZ (cZ (cZ (cZ (cZ (cZ (su (su (su (su (cZ (cZ (su (su (su (su (su (cZ (cZ (lH O O (iF (vX (gX (bY O (jP O (gy results46 O ?_)))))))))))))))))))))))))
        refine ⟨?_, HJ.f4.f4.f4.f4⟩
        congr 1
        unfold sN
        first
          | exact absurd hrn (by decide)
          | (simp [hin]; done)
          | (simp [hin, hno]; done)
          | (simp [hin, hno, hcl]; done)
          | (simp [hin, hno, hcl, hwh]; done)
          | (simp [hin, hno, hcl, hwh, hrn]; done)
    · (try simp only [aK] at h1)
      have hin := h1
      refine cZ (cZ (cZ (cZ (cZ (cZ (lH O O (dn O (cZ (cZ (cZ (cZ (cZ (cZ (su (su (su (su (cZ (cZ (su (su (su (su (su (cZ (cZ (lH O O (iF (vX (gX (bY O (jP O ?_))))))))))))))))))))))))))))))))
      refine gy results46 O ?_
      refine ⟨?_, HJ.f4.f4.f4.f4⟩
      congr 1
      unfold sN
      first
        | exact absurd hrn (by decide)
        | (simp [hin]; done)
        | (simp [hin, hno]; done)
        | (simp [hin, hno, hcl]; done)
        | (simp [hin, hno, hcl, hwh]; done)
        | (simp [hin, hno, hcl, hwh, hrn]; done)
  · skip
    refine aO ?_
    obtain ⟨D, P, hD1, hD2, HU⟩ := (H.f3).aav
    have Np := HU.drew
    have lg := V.kp (Np.f5.f5.f5.f5.f5)
    refine wL [4, 9, 12, 13] lg O (gK 0 O lg O (jL 1 O lg O (fH 2 O lg 0 aj O aU O (fH 3 O lg 3 aJ O sizeOf65 O (iY 4 O lg (fun W hW => jQ nV O ((Kp.h hW).f3).get.2 O) (gK 5 O lg O (jL 6 O lg O (fH 7 O lg 0 aj O aU O (fH 8 O lg 2 aJ O sizeOf64 O (iY 9 O lg (fun W hW => jQ nU O ((Kp.h hW).f3).get.2 O) (jL 10 O lg O (fH 11 O lg 0 iG O ah O (iY 12 O lg (fun W hW => jQ ay O ((Kp.h hW).f4).get.2 O) (iY 13 O lg (fun W hW => Jf (Rl ((Kp.h hW)) nV ay zeroValue123 O O) (Vq D P k)) (jR 14 O lg (fun _ => iV O) (qN (bC (bY O (aZ (J7 underlying123 O O) (kE O (fun h8 => ?_) (fun h8 => ?_)))))))))))))))))))))
    · (try simp only [aK] at h8)
      have hmem := Si h8
      rw [Rz hmem]
      have HF := Np.f2
      rw [uP hmem] at HF
      have HF2 := HF.flat
      refine aB (dn O (fO O func100 (Px HF2) ?_))
      rintro _ w2 ⟨rfl, H2⟩
      have Q9 := H2.f2.f2
      have Oi := V.of_eq Q9 (by rw [← dI, ← uP hmem])
      have X0 := Oi.f2
      have X3 := V.D7 hD1 hD2 X0
      refine oD O (cO ?_)
      refine gZ (()) ?_ ?_ ?_
      · exact (Sub.qF O (by first | (rw [hD2 _ hnm]; rfl) | (simp; done)) (Sub.nil _))
      · exact pY
      · (try dsimp only)
        first | done | exact X3.f4.f2.f4.f4
    · (try simp only [aK] at h8)
      have hnm := P6 h8
      have PG := Np.f2.f2
      have PI := V.D7 hD1 hD2 PG
      refine fV ?_
      refine gZ (()) ?_ ?_ ?_
      · exact (Sub.qF O (by first | (rw [hD2 _ hnm]; rfl) | (simp; done)) (Sub.nil _))
      · exact pY
      · (try dsimp only)
        first | done | exact PI.f4.f2.f4.f4
theorem yL {x0 x2 x3 x4 x5 x6 x7 x8 x9 x10 x12 tZ x14 x15 x16 x17 x18 x19 x20 x21 uD x23 x24 x25 uI x27 x28 x29 x30 x31 x32 vM : Value} (H : V w0 w (eF e (.cells (x0 :: .pointer (some ⟨pr, 0, none⟩) :: x2 :: x3 :: x4 :: x5 :: x6 :: x7 :: x8 :: x9 :: x10 :: .pointer (some ⟨ph, 0, none⟩) :: x12 :: tZ :: x14 :: x15 :: x16 :: x17 :: x18 :: x19 :: x20 :: x21 :: uD :: x23 :: x24 :: x25 :: uI :: x27 :: x28 :: x29 :: x30 :: x31 :: x32 :: vM :: []).toArray 71 (0, 0)) • fJ pr E a • F)) : iQ prog 20 #[.pointer (some ⟨e, 0, none⟩)] w fun v' w' =>
  ∃ us, V w0 w' (Row 23 1 v' E.length us • sS 21 .i32 us (fK E a) • eF e (.cells (x0 :: .pointer (some ⟨pr, 0, none⟩) :: x2 :: x3 :: x4 :: x5 :: x6 :: x7 :: x8 :: x9 :: x10 :: .pointer (some ⟨ph, 0, none⟩) :: x12 :: tZ :: x14 :: x15 :: x16 :: x17 :: x18 :: x19 :: x20 :: x21 :: uD :: x23 :: x24 :: x25 :: uI :: x27 :: x28 :: x29 :: x30 :: x31 :: x32 :: vM :: []).toArray 71 (0, 0)) • fJ pr E a • F) := by
 obtain ⟨hE1, hE2, hE3⟩ := Uc H.swap
 refine jH func20 ntmps20 ?_
 refine kW O (aO (bY O (fO O func29 (DF H) ?_)))
 rintro _ _ ⟨rfl, rfl⟩
 refine iF (vX (gX (kW O (bY O (dA O (Z 0 aj O aU O (Z 1 aJ O sizeOf63 O (dL underlying63 O (H).get.2 O (fO O func48 (Dj H.f2) ?_)))))))))
 rintro _ w2 ⟨pc2, rfl, H2⟩
 refine uK O (bY O (fO O func49 (Po H2) ?_))
 rintro _ _ ⟨rfl, rfl⟩
 refine dn O (iF (bI ?_))
 obtain ⟨R4, hR4, HR4⟩ := V.acW (H2)
 refine iC [(4, _), (17, _)] (fun (⟨i, u⟩ : Nat × Value) => [(3, u), (18, .int .i64 (i : Int))]) (fun (⟨i, u⟩ : Nat × Value) W => i ≤ E.length ∧ ∃ us, V w0 W (Row 23 1 u i us • sS 21 .i32 us ((fK E a).take i) • fJ pc2 E (YO E.length a i) • R4)) (fun (⟨i, u⟩ : Nat × Value) => E.length - i) ((0, .slice none 0 0)) uj uj ⟨by omega, [], HR4.YL.gV none⟩ ?_
 rintro ⟨i, u⟩ w5 ⟨hi, us, HL⟩
 dsimp only [List.cons_append, List.nil_append]
 refine lQ (aZ (iE O O) (qJ (eP O (fun h1 => ?_) (fun h1 => ?_))))
 ·(try simp only [aK] at h1)
  refine gX (aO (bI (bY O (jZ O (bY O (dn O (aZ (QB O O) (fO O func50 (Jl HL.f3) ?_))))))))
  rintro _ w6 ⟨u6, rfl, H6⟩
  have hne : ¬ E.length = 0 := by omega
  have HX := H6
  simp only [if_neg hne] at HX
  refine dn O (xZ O O (xZ O O (oD O (jZ O (aB (jw O O (jW (jc (vs := [_]) HX aT bg jS O O O (by decide) (aW (by first | rfl | exact Rd.one ((HX).aG)) bG)) ?_)))))))
  rintro l7 w7 H7
  refine jW (dQ H7.f4 aT Bc O O O ((H7).aG) (aW (by first | rfl | exact Rd.one ((H7.f2).aG)) bG) (by omega) (by omega)) ?_
  rintro l8 w8 H8
  have Hd9 := H8.f2.right
  refine oD O (cO (aX (bC (aB (aZ (fZ O O (by omega)) (dn O (cO ?_)))))))
  have HS := (Hd9.f3.f2.f3.f4).yU.f2
  refine eX ((i + 1, l8)) ?_ ?_ ?_ ?_
  ·exact uj
  ·exact uj
  ·(try dsimp only)
   first | done | exact ⟨by omega, _, by rw [LM (d := []) (by rw [yV]; omega), WR (by omega) (by omega), ← WO]; exact HS⟩
  ·(try dsimp only); omega
 ·(try simp only [aK] at h1)
  refine gY (aY ?_)
  obtain rfl : i = E.length := by omega
  have HK := HL
  rw [List.take_of_length_le (by rw [yV]; exact Nat.le_refl _)] at HK
  subst hR4
  refine aY (dw (bC (bY O (jP O (gy results20 O ?_)))))
  exact ⟨_, HK.f3.right.f3.f4.f4.f4⟩
end
def BP (s : bP) (u ks sv : Value) : List Value := [u, .int .i64 s.c.pt, .int .i64 s.c.mark, .int .i64 s.c.mode, .bool s.c.over, .bool s.given, .bool s.minus, .int .i64 s.arg, .int .i64 s.xI, .int .i64 s.Uo, .int .i64 s.Ur, ks, .int .i64 s.c.place, sv, .int .i64 s.Dv, .int .i64 s.c.res, .int .i64 s.nZ]
section
variable {w0 w : World} {F : HP} {e p ph pw pt pr pm pb : Nat} {s : bP} {k x place : Int} {hl : List o7} {base most cls : Int} {tx : Int → Option ByteArray} {v pv : Value} {U : Int → List (List iO)} {L : List Int} {pnt mk : Int}
theorem IW {x1 x2 x3 x4 x5 x6 x7 x8 x9 x10 x12 tZ x14 x15 x16 x17 x18 x19 x20 x21 uD x23 x24 x25 uI x27 x28 x29 x30 x31 x32 vM : Value} (H : V w0 w (eF e (.cells (.pointer (some ⟨pb, 0, none⟩) :: x1 :: x2 :: x3 :: x4 :: x5 :: x6 :: x7 :: x8 :: x9 :: x10 :: .pointer (some ⟨ph, 0, none⟩) :: x12 :: tZ :: x14 :: x15 :: x16 :: x17 :: x18 :: x19 :: x20 :: x21 :: uD :: x23 :: x24 :: x25 :: uI :: x27 :: x28 :: x29 :: x30 :: x31 :: x32 :: vM :: []).toArray 71 (0, 0)) • jo pb L pnt mk • F)) : iQ prog 12 #[.pointer (some ⟨e, 0, none⟩)] w fun v' w' =>
  ∃ u, v' = .agg (lN u pnt mk) ∧ V w0 w' (jg 21 .i32 u L • eF e (.cells (.pointer (some ⟨pb, 0, none⟩) :: x1 :: x2 :: x3 :: x4 :: x5 :: x6 :: x7 :: x8 :: x9 :: x10 :: .pointer (some ⟨ph, 0, none⟩) :: x12 :: tZ :: x14 :: x15 :: x16 :: x17 :: x18 :: x19 :: x20 :: x21 :: uD :: x23 :: x24 :: x25 :: uI :: x27 :: x28 :: x29 :: x30 :: x31 :: x32 :: vM :: []).toArray 71 (0, 0)) • jo pb L pnt mk • F) := by
 refine jH func12 ntmps12 ?_
 refine lQ (jW (gq (l := [_, _, _]) H oU O) ?_)
 rintro _ w1 ⟨b1, rfl, H1⟩
 refine qJ (bY O (fO O func29 (DF H1.f2) ?_))
 rintro _ _ ⟨rfl, rfl⟩
 refine iF (vX (gX (bY O (dA O (Z 0 aj O aU O (Z 0 aJ O nJ O (dL jy O (H1.f2).get.2 O (fO O func38 (FQ H1.f3) ?_))))))))
 rintro _ w3 ⟨u3, rfl, H3⟩
 refine aC (dD 0 (l' := [_, _, _]) (us := [_, _, _]) H3.f3 kH O O O (aW (by first | rfl | exact Rd.one ((H3).aG)) (aH (aH bG))) O O) ?_
 rintro _ w4 H4
 refine XJ ?_
 refine qO (.inl O) (Jg results12 O dU O (by rw [N9]; rfl) (H4).get.2) ?_
 exact ⟨_, O, H4.right.f2.f3.f3⟩
theorem yM {x0 x1 x3 x4 x5 x6 x7 x8 x9 x10 x12 tZ x14 x15 x16 x17 x18 x19 x20 x21 uD x23 x24 x25 uI x27 x28 x29 x30 x31 x32 vM : Value} (H : V w0 w (eF e (.cells (x0 :: x1 :: .pointer (some ⟨pw, 0, none⟩) :: x3 :: x4 :: x5 :: x6 :: x7 :: x8 :: x9 :: x10 :: .pointer (some ⟨ph, 0, none⟩) :: x12 :: tZ :: x14 :: x15 :: x16 :: x17 :: x18 :: x19 :: x20 :: x21 :: uD :: x23 :: x24 :: x25 :: uI :: x27 :: x28 :: x29 :: x30 :: x31 :: x32 :: vM :: []).toArray 71 (0, 0)) • eF pw (.cells #[.int .i64 place, .map (some pt)] 97 (0, 0)) • jM uy pt (wu tx) • iP ph hl base most • F)) :
    iQ prog 45 #[.pointer (some ⟨e, 0, none⟩)] w fun v' w' => V w0 w' (Row 154 2 v' (tq hl tx place).length ((tq hl tx place).flatMap lT) •
      eF e (.cells (x0 :: x1 :: .pointer (some ⟨pw, 0, none⟩) :: x3 :: x4 :: x5 :: x6 :: x7 :: x8 :: x9 :: x10 :: .pointer (some ⟨ph, 0, none⟩) :: x12 :: tZ :: x14 :: x15 :: x16 :: x17 :: x18 :: x19 :: x20 :: x21 :: uD :: x23 :: x24 :: x25 :: uI :: x27 :: x28 :: x29 :: x30 :: x31 :: x32 :: vM :: []).toArray 71 (0, 0)) • eF pw (.cells #[.int .i64 place, .map (some pt)] 97 (0, 0)) • jM uy pt (wu tx) • iP ph hl base most • F) := by
  have hb : hl.length ≤ 4096 := by obtain ⟨v, h, _⟩ := H.r4.hist; exact h.1
  refine jH func45 ntmps45 ?_
  refine kW O (kW O (bY O (dA O (Z 11 aj O sizeOf45 O (dL nS O (H).get.2 O (fO O func97 (ru H.f4) ?_))))))
  rintro _ w1 ⟨rfl, H1⟩
  refine uK O (bY O (dn O (iF (bI ?_))))
  refine iC [(0, _), (4, _), (11, _)] (fun (⟨i, u⟩ : Nat × Value) => [(3, u), (12, .int .i64 (i : Int))]) (fun (⟨i, u⟩ : Nat × Value) W => i ≤ hl.length ∧ V w0 W (Row 154 2 u (qy hl tx place i).length ((qy hl tx place i).flatMap lT) • eF e (.cells (x0 :: x1 :: .pointer (some ⟨pw, 0, none⟩) :: x3 :: x4 :: x5 :: x6 :: x7 :: x8 :: x9 :: x10 :: .pointer (some ⟨ph, 0, none⟩) :: x12 :: tZ :: x14 :: x15 :: x16 :: x17 :: x18 :: x19 :: x20 :: x21 :: uD :: x23 :: x24 :: x25 :: uI :: x27 :: x28 :: x29 :: x30 :: x31 :: x32 :: vM :: []).toArray 71 (0, 0)) • eF pw (.cells #[.int .i64 place, .map (some pt)] 97 (0, 0)) • jM uy pt (wu tx) • iP ph hl base most • F)) (fun (⟨i, u⟩ : Nat × Value) => hl.length - i) ((0, .slice none 0 0)) AA uj ⟨by omega, H1.f4.f4.f4.gV none⟩ ?_
  rintro ⟨i, u⟩ w2 ⟨hi, HL⟩
  dsimp only [List.cons_append, List.nil_append]
  refine lQ (aZ (iE O O) (qJ (eP O (fun h1 => ?_) (fun h1 => ?_))))
  · (try simp only [aK] at h1)
    refine gX (aO (bI (bY O (uK O ?_))))
    have hLen := uU hl tx place i
    refine aB (jw O O (dA O (Z 0 aj O aU O (Z 2 aJ O sizeOf64 O (dL nU O (HL.f2).get.2 O (dA O (Z 0 iG O ah O (dL ay O (HL.f3).get.2 O (aZ (fF O O) (qG O (fun h2 => ?_) (fun h2 => ?_)))))))))))
    · (try simp only [aK] at h2)
      have hpl := h2
      refine bK (dn O (bK (dn O (bK (fO O func98 (Ar HL.f5.f5.f5.f5) ?_)))))
      rintro _ w3 ⟨rfl, H3⟩
      refine bK (dn O (bK (dn O (bK (fO O func99 (Gq H3.f4.f2) ?_)))))
      rintro _ w4 ⟨rfl, H4⟩
      refine bK (aZ (NT O O) (nX O O (kE O (fun h3 => ?_) (fun h3 => ?_))))
      · (try simp only [aK] at h3)
        have hsv := Sj (hl := hl) (tx := tx) (place := place) (i := i) (by unfold D5; rw [decide_eq_true hpl]; simpa using h3)
        refine aB (jw O O (jw O O (fO O func98 (Ar H4.f2.f4.f4.f4) ?_)))
        rintro _ w5 ⟨rfl, H5⟩
        refine aZ (fC (zl := [.int .i64 0, .string .empty]) (pl := [(0, 1), (1, 1)]) [_, _] oq o9 O (fun w => by kernel_rfl) O (.on (.on .nil)) O) ?_
        refine jW (lK H5 dZ oK o9 O O O (by decide) (by decide)) ?_
        rintro l6 w6 H6
        refine jW (dQ H6.f6 dZ P7 O O O ((H6).aG) (aH (aH bG)) (by omega) (by omega)) ?_
        rintro l7 w7 H7
        have Hd8 := H7.f2.right
        refine oD O (cO (aX (bC (aB (aZ (fZ O O (by omega)) (dn O (cO ?_)))))))
        have hLen := uU hl tx place i
        refine eX ((i + 1, l7)) ?_ ?_ ?_ ?_
        · exact uj
        · exact AA
        · (try dsimp only)
          first | done | exact ⟨by omega, by first | (rw [hsv, List.length_append, List.flatMap_append]; exact Hd8.f5.f5.f5.f5.f5) | (rw [hsv]; exact Hd8.f5.f5.f5.f5.f5)⟩
        · (try dsimp only); omega
      · (try simp only [aK] at h3)
        have hsv := LK (hl := hl) (tx := tx) (place := place) (i := i) (by unfold D5; rw [decide_eq_true hpl]; simpa using h3)
        refine fV (aX (bC (aB (aZ (fZ O O (by omega)) (dn O (cO ?_))))))
        have hLen := uU hl tx place i
        refine eX ((i + 1, u)) ?_ ?_ ?_ ?_
        · exact uj
        · exact AA
        · (try dsimp only)
          first | done | exact ⟨by omega, by first | (rw [hsv, List.length_append, List.flatMap_append]; exact H4.f2.f4.f4.f4.f5) | (rw [hsv]; exact H4.f2.f4.f4.f4.f5)⟩
        · (try dsimp only); omega
    · (try simp only [aK] at h2)
      have hsv := LK (hl := hl) (tx := tx) (place := place) (i := i) (by unfold D5; rw [decide_eq_false (by simpa using h2)]; rfl)
      refine cZ (cZ (cZ (cZ (cZ (cZ (cZ (lH O O (iF (vX (fV (aX (bC (aB (aZ (fZ O O (by omega)) (dn O (cO ?_))))))))))))))))
      have hLen := uU hl tx place i
      refine eX ((i + 1, u)) ?_ ?_ ?_ ?_
      · exact uj
      · exact AA
      · (try dsimp only)
        first | done | exact ⟨by omega, by first | (rw [hsv, List.length_append, List.flatMap_append]; exact HL.f5.f5.f5.f5.f5) | (rw [hsv]; exact HL.f5.f5.f5.f5.f5)⟩
      · (try dsimp only); omega
  · (try simp only [aK] at h1)
    refine gY (aY ?_)
    obtain rfl : i = hl.length := by omega
    refine aY (dw (bC (aO (aO ?_))))
    have hLen := uU hl tx place hl.length
    refine aB (lM O O (Z 0 aj O aU O (Z 2 aJ O sizeOf64 O (dL nU O (HL.f2).get.2 O (dA O (Z 0 iG O ah O (dL ay O (HL.f3).get.2 O (dn O (aZ (fF O O) (kE O (fun h4 => ?_) (fun h4 => ?_)))))))))))
    · (try simp only [aK] at h4)
      have hsv : tq hl tx place = qy hl tx place hl.length ++ [((hl.length : Int), iK hl tx hl.length)] := by unfold tq; rw [if_pos h4]
      refine aB (jw O O (jw O O (fO O func98 (Ar HL.f5.f5.f5.f5) ?_)))
      rintro _ w9 ⟨rfl, H9⟩
      refine aZ (fC (zl := [.int .i64 0, .string .empty]) (pl := [(0, 1), (1, 1)]) [_, _] oq o9 O (fun w => by kernel_rfl) O (.on (.on .nil)) O) ?_
      refine jW (lK H9 dZ oK o9 O O O (by decide) (by decide)) ?_
      rintro l10 w10 rD
      refine jW (dQ rD.f6 dZ P7 O O O ((rD).aG) (aH (aH bG)) (by omega) (by omega)) ?_
      rintro l11 Hr rX
      have Jq := rX.f2.right
      refine jZ O (bY O (jP O (gy results45 O ?_)))
      first
        | (rw [hsv, List.length_append, List.flatMap_append]; exact Jq.f5.f5.f5.f5.f5)
        | (rw [hsv]; exact Jq.f5.f5.f5.f5.f5)
    · (try simp only [aK] at h4)
      have hsv : tq hl tx place = qy hl tx place hl.length := by unfold tq; rw [if_neg (by simpa using h4), List.append_nil]
      refine gX (bY O (jP O (gy results45 O ?_)))
      first
        | (rw [hsv, List.length_append, List.flatMap_append]; exact HL.f5.f5.f5.f5.f5)
        | (rw [hsv]; exact HL.f5.f5.f5.f5.f5)
theorem WS {u0 u1 u2 u3 u4 u5 u6 u7 u8 u9 ua : Value} (hin : s.inn = true) (H : V w0 w (xJ s.inn s.was [u0, u1, u2, u3, u4, u5, u6, u7, u8, u9, ua] • F)) : u6 = .int .i64 s.was.last ∧ u7 = .int .i64 s.was.fr ∧ u8 = .int .i64 s.was.to := by
  rw [hin] at H
  obtain ⟨qb, qr, qw, qt, qm, hu, -⟩ := H.was
  simp only [Rw, List.cons.injEq, and_true] at hu
  exact ⟨hu.2.2.2.2.2.2.1, hu.2.2.2.2.2.2.2.1, hu.2.2.2.2.2.2.2.2.1⟩
set_option maxHeartbeats 1000000 in
theorem BQ (H : V w0 w (iL e s • F)) : iQ prog 19 #[.pointer (some ⟨e, 0, none⟩)] w fun v w' => ∃ u ks us sv, v = .agg (BP s u ks sv).toArray ∧
  V w0 w' (jg 21 .i32 u s.c.L • Row 23 1 ks s.c.E.length us • sS 21 .i32 us (fK s.c.E s.c.at_) • Row 154 2 sv s.saved.length (s.saved.flatMap lT) • iL e s • F) := by
 refine jH func19 ntmps19 ?_
 obtain ⟨yD, yE, yF, yG, yH, yI, yJ, yK, wI, uY, uZ, vk, vw, vC, vF, vG, vH, vI, vJ, vK, iI, dK, mF, iJ⟩ := (H).JO
 have hU : (s.c.un s.c.place).length ≤ 16384 := by
  obtain ⟨D, P, hD1, hD2, HU⟩ := (iJ.f6).aav
  by_cases hm : s.c.place ∈ D
  ·have HF := HU.swap
   rw [uP hm] at HF
   obtain ⟨_, _, _, _, k1, _⟩ := HF.flat.y5
   have := k1.len; simpa using this
  ·rw [hD2 _ hm]; decide
 refine lQ (jW (gq (l := [_, _, _, _, _, _, _, _, _, _, _, _, _, _, _, _, _]) iJ iD O) ?_)
 rintro _ w2 ⟨b2, rfl, H2⟩
 refine qJ (bY O (fO O func29 (DF H2.f2) ?_))
 rintro _ _ ⟨rfl, rfl⟩
 refine iF (vX (gX ?_))
 refine vP [(0, _)] (fun (⟨r, q, u, ks, sv, us⟩ : Nat × Nat × Value × Value × Value × List Value) => [(2, .pointer (some ⟨r, 0, none⟩)), (3, .pointer (some ⟨q, 0, none⟩))]) (fun (⟨r, q, u, ks, sv, us⟩ : Nat × Nat × Value × Value × Value × List Value) W => V w0 W (eF q (.cells (u :: .int .i64 s.c.pt :: .int .i64 s.c.mark :: .int .i64 s.c.mode :: .bool s.c.over :: .bool s.given :: .bool s.minus :: .int .i64 s.arg :: .int .i64 s.c.last :: .int .i64 s.c.fr :: .int .i64 s.c.to :: ks :: .int .i64 s.c.place :: sv :: .int .i64 s.Dv :: .int .i64 s.c.res :: .int .i64 s.nZ :: []).toArray 42 (0, 0)) • jg 21 .i32 u s.c.L • Row 23 1 ks s.c.E.length us • sS 21 .i32 us (fK s.c.E s.c.at_) • Row 154 2 sv s.saved.length (s.saved.flatMap lT) • eF e (.cells (.pointer (some ⟨yD, 0, none⟩) :: .pointer (some ⟨yE, 0, none⟩) :: .pointer (some ⟨yF, 0, none⟩) :: .map (some yH) :: .int .i64 s.c.mode :: .bool s.c.over :: .int .i64 s.c.last :: .int .i64 s.c.fr :: .int .i64 s.c.to :: .int .i64 s.c.res :: .bool s.c.run :: .pointer (some ⟨yI, 0, none⟩) :: .pointer (some ⟨yJ, 0, none⟩) :: .bool s.given :: .bool s.minus :: .int .i64 s.arg :: .bool s.inn :: uY :: uZ :: vk :: vw :: vC :: vF :: vG :: vH :: vI :: vJ :: vK :: .int .i64 s.cls :: .bool s.kJ :: .bool s.kZ :: .bool s.argues :: .bool s.whole :: yK :: []).toArray 71 (0, 0)) • jo yD s.c.L s.c.pt s.c.mark • fJ yE s.c.E s.c.at_ • eF yF (.cells #[.int .i64 s.c.place, .map (some yG)] 97 (0, 0)) • jM uy yG (wu s.c.tx) • yC yH s.c.un • iP yI s.hl s.base s.most • eF yJ (.cells #[.int .i64 s.nZ] 117 (0, 0)) • Row 130 3 yK s.put.length (wI.flatMap fB.enc) • nP wI • xJ s.inn s.was [uY, uZ, vk, vw, vC, vF, vG, vH, vI, vJ, vK] • eF r (.cells (.slice none 0 0 :: .int .i64 0 :: .int .i64 0 :: .int .i64 0 :: .bool false :: .bool false :: .bool false :: .int .i64 0 :: .int .i64 0 :: .int .i64 0 :: .int .i64 0 :: .slice none 0 0 :: .int .i64 0 :: .slice none 0 0 :: .int .i64 0 :: .int .i64 0 :: .int .i64 0 :: []).toArray 42 (0, 0)) • F)) pY ?_ ?_
 ·rintro ⟨r, q, u, ks, sv, us⟩ w4 HJ
  dsimp only [List.cons_append, List.nil_append]
  refine aO (bY O (dA O (Z 16 aj O aN O (dL bf O (HJ.f6).get.2 O (kE O (fun h1 => ?_) (fun h1 => ?_))))))
  ·(try simp only [aK] at h1)
   have hin := h1
   obtain ⟨rfl, rfl, rfl⟩ := WS hin HJ.f16
   have adJ := HJ.drew
   have xO := V.kp (adJ.right.f16.f16.f16.f16.f16.f16.f16.f16.f16.f16.f16.f16.f16.f16.f16.f16)
   refine wL [4, 9, 14] xO O (gK 0 O xO O (jL 1 O xO O (fH 2 O xO 17 aj O aU O (fH 3 O xO 6 aJ O ah O (iY 4 O xO (fun W hW => jQ ay O ((Kp.h hW).f5).get.2 O) (gK 5 O xO O (jL 6 O xO O (fH 7 O xO 17 aj O aU O (fH 8 O xO 7 aJ O ah O (iY 9 O xO (fun W hW => jQ ay O ((Kp.h hW).f5).get.2 O) (gK 10 O xO O (jL 11 O xO O (fH 12 O xO 17 aj O aU O (fH 13 O xO 8 aJ O ah O (iY 14 O xO (fun W hW => jQ ay O ((Kp.h hW).f5).get.2 O) (fH 15 O xO 8 aS O ah O ?_))))))))))))))))
   refine gJ 16 O (by kernel_rfl) (aag 8 adJ ah) ?_
   rintro _ w5 H5
   have En := V.kp (H5.right.f16.f16.f16.f16.f16.f16.f16.f16.f16.f16.f16.f16.f16.f16.f16.f16)
   refine dV En (fun W hW => (Kp.h hW).f16.f16.f16.f16.f16.f16.f16.f16.f16.f16.f16.f16.f16.f16.f16.f16) ?_
   refine fH 17 O En 9 aS O ah O ?_
   refine gJ 18 O (by kernel_rfl) (aag 9 H5 ah) ?_
   rintro _ w6 H6
   have CQ := V.kp (H6.f17.f17.f17.f17.f17.f17.f17.f17.f17.f17.f17.f17.f17.f17.f17.f17.f17)
   refine dV CQ (fun W hW => (Kp.h hW).right.f16.f16.f16.f16.f16.f16.f16.f16.f16.f16.f16.f16.f16.f16.f16.f16) ?_
   refine fH 19 O CQ 10 aS O ah O ?_
   refine gJ 20 O (by kernel_rfl) (aag 10 H6 ah) ?_
   rintro _ w7 H7
   have xU := V.kp (H7.f17.f17.f17.f17.f17.f17.f17.f17.f17.f17.f17.f17.f17.f17.f17.f17.f17)
   refine fG xU (by kernel_rfl) ?_
   refine qN (bC (lQ (aZ (dF aS O kL O O (H7).get.2) (aC (dD 0 (l' := [_, _, _, _, _, _, _, _, _, _, _, _, _, _, _, _, _]) (us := [_, _, _, _, _, _, _, _, _, _, _, _, _, _, _, _, _]) H7.f17 kL O O O (aW (by first | rfl | exact Rd.one ((H7.f2).aG)) (aH (aH (aH (aH (aH (aH (aH (aH (aH (aH (aW (by first | rfl | exact Rd.one ((H7.f3).aG)) (aH (aW (by first | rfl | exact Rd.one ((H7.f5).aG)) (aH (aH (aH bG))))))))))))))))) O O) ?_))))
   rintro _ w8 H8
   refine XJ ?_
   refine qO (.inl O) (Jg results19 O aS O (by rw [YP]; rfl) (H8).get.2) ?_
   have KR := H8.f17.f17.f17.f17.f17.f17.f17.f17.f17.f17.f17
   have Jr := V.iH (s := s) iI dK KR
   refine ⟨u, ks, us, sv, ?_, Jr.f2.right.f2.right.f5.f5.f5.f5⟩
   unfold BP bP.xI bP.Uo bP.Ur
   rw [hin]
   rfl
  ·(try simp only [aK] at h1)
   have hin := h1
   refine gX (lQ (aZ (dF aS O kL O O (HJ).get.2) (aC (dD 0 (l' := [_, _, _, _, _, _, _, _, _, _, _, _, _, _, _, _, _]) (us := [_, _, _, _, _, _, _, _, _, _, _, _, _, _, _, _, _]) HJ.f17 kL O O O (aW (by first | rfl | exact Rd.one ((HJ.f2).aG)) (aH (aH (aH (aH (aH (aH (aH (aH (aH (aH (aW (by first | rfl | exact Rd.one ((HJ.f3).aG)) (aH (aW (by first | rfl | exact Rd.one ((HJ.f5).aG)) (aH (aH (aH bG))))))))))))))))) O O) ?_)))
   rintro _ w12 vN
   refine XJ ?_
   refine qO (.inl O) (Jg results19 O aS O (by rw [YP]; rfl) (vN).get.2) ?_
   have PU := vN.f17.f17.f17.f17.f17.f17.f17.f17.f17.f17.f17
   have PV := V.iH (s := s) iI dK PU
   refine ⟨u, ks, us, sv, ?_, PV.f2.right.f2.right.f5.f5.f5.f5⟩
   unfold BP bP.xI bP.Uo bP.Ur
   rw [hin]
   rfl
 ·skip
  have YQ := H2.drew
  have fP := V.kp (YQ.f7.right.f7.right.f10.f10.f10.f10.f10.f10.f10.f10.f10.f10)
  refine wL [6, 11, 15, 19, 23, 28, 33, 38, 45, 48, 57, 61] fP O (gK 0 O fP O (gK 2 O fP O (jL 3 O fP O (fH 4 O fP 0 aj O aU O (fH 5 O fP 4 aJ O ah O (iY 6 O fP (fun W hW => jQ ay O ((Kp.h hW).f2).get.2 O) (gK 7 O fP O (jL 8 O fP O (fH 9 O fP 0 aj O aU O (fH 10 O fP 5 aJ O aN O (iY 11 O fP (fun W hW => jQ bf O ((Kp.h hW).f2).get.2 O) (gK 12 O fP O (jL 13 O fP O (fH 14 O fP 13 aj O aN O (iY 15 O fP (fun W hW => jQ bf O ((Kp.h hW).f2).get.2 O) (gK 16 O fP O (jL 17 O fP O (fH 18 O fP 14 aj O aN O (iY 19 O fP (fun W hW => jQ bf O ((Kp.h hW).f2).get.2 O) (gK 20 O fP O (jL 21 O fP O (fH 22 O fP 15 aj O ah O (iY 23 O fP (fun W hW => jQ ay O ((Kp.h hW).f2).get.2 O) (gK 24 O fP O (jL 25 O fP O (fH 26 O fP 0 aj O aU O (fH 27 O fP 6 aJ O ah O (iY 28 O fP (fun W hW => jQ ay O ((Kp.h hW).f2).get.2 O) (gK 29 O fP O (jL 30 O fP O (fH 31 O fP 0 aj O aU O (fH 32 O fP 7 aJ O ah O (iY 33 O fP (fun W hW => jQ ay O ((Kp.h hW).f2).get.2 O) (gK 34 O fP O (jL 35 O fP O (fH 36 O fP 0 aj O aU O (fH 37 O fP 8 aJ O ah O (iY 38 O fP (fun W hW => jQ ay O ((Kp.h hW).f2).get.2 O) (gK 39 O fP O ?_)))))))))))))))))))))))))))))))))))))))
  refine gK 41 O fP O (jL 42 O fP O (fH 43 O fP 0 aj O aU O (fH 44 O fP 2 aJ O sizeOf64 O (iY 45 O fP (fun W hW => jQ nU O ((Kp.h hW).f2).get.2 O) (jL 46 O fP O (fH 47 O fP 0 iG O ah O (iY 48 O fP (fun W hW => jQ ay O ((Kp.h hW).f5).get.2 O) (gK 49 O fP O (gK 51 O fP O (gK 53 O fP O (jL 54 O fP O (fH 55 O fP 0 aj O aU O (fH 56 O fP 9 aJ O ah O (iY 57 O fP (fun W hW => jQ ay O ((Kp.h hW).f2).get.2 O) (gK 58 O fP O (jL 59 O fP O (fH 60 O fP 12 aj O sizeOf68 O (iY 61 O fP (fun W hW => jQ underlying68 O ((Kp.h hW).f2).get.2 O) ?_))))))))))))))))))
  refine yZ (i := 1) (j := 64) (by kernel_rfl) ?_ ?_
  ·skip
   refine lC 1 O (by kernel_rfl) (oJ (oQ O func12 O O) (IW YQ.f3.f3)) (nD O) ?_
   rintro _ w16 ⟨u16, rfl, wE⟩
   have KU := V.kp (wE.f8.right.f8.right.f11.f11.f11.f11.f11.f11.f11.f11.f11.f11.f11)
   refine dV KU (fun W hW => (Kp.h hW).right.f10.f10.f10.f10.f10.f10.f10.f9.f9.f10) ?_
   refine yZ (i := 40) (j := 64) (by kernel_rfl) ?_ ?_
   ·skip
    refine lC 40 O (by kernel_rfl) (oJ (oQ O func20 O O) (yL wE.f5.f3)) (nD O) ?_
    rintro u17 ZQ ⟨ahr, Dh⟩
    have Oh := V.kp (Dh.f10.right.f10.right.f13.f13.f13.f13.f13.f13.f13.f13.f13.f13.f13.f13.f13)
    refine dV Oh (fun W hW => (Kp.h hW).right.right.f11.f11.f11.f11.f11.f11.f8.f11.f11.f10.f11) ?_
    refine yZ (i := 50) (j := 64) (by kernel_rfl) ?_ ?_
    ·skip
     refine lC 50 O (by kernel_rfl) (oJ (oQ O func45 O O) (yM Dh.f11.f10.f10.f6)) (nD O) ?_
     rintro u18 Xv Ef
     have y8 := V.kp (Ef.f12.right.f15.f15.f15.f15.f15.f15.f15.f15.f15.f15.f15.f15.f15.f15.f15)
     refine dV y8 (fun W hW => (Kp.h hW).right.f4.right.f13.f13.f13.f13.f7.f7.f13.f13.f13.f13.f11.f13.f13) ?_
     refine yZ (i := 52) (j := 64) (by kernel_rfl) ?_ ?_
     ·skip
      refine lC 52 O (by kernel_rfl) (oJ (oQ O func46 O O) (uz Ef.f14.f13.f5.f5 hU)) (nD O) ?_
      rintro _ Xw ⟨rfl, zN⟩
      have Lc := V.kp (zN.f16.f16.f16.f16.f16.f16.f16.f16.f16.f16.f16.f16.f16.f16.f16.f16)
      refine dV Lc (fun W hW => (Kp.h hW).f3.right.f15.f15.f5.f15.f15.f15.f15.f15.f15.f15.f15.f15.f14.f14.f15) ?_
      refine yZ (i := 62) (j := 64) (by kernel_rfl) ?_ ?_
      ·skip
       refine lC 62 O (by kernel_rfl) (oJ (oQ O func47 O O) (rQ zN.f14)) (nD O) ?_
       rintro _ _ ⟨rfl, rfl⟩
       have Dx := V.kp (zN.f16.f16.f16.f16.f16.f16.f16.f16.f16.f16.f16.f16.f16.f16.f16.f16)
       refine dV Dx (fun W hW => (Kp.h hW).f16.f16.f16.f16.f16.f16.f16.f16.f16.f16.f16.f16.f16.f16.f16.f16) ?_
       refine jR 63 O Dx (fun _ => fC (zl := [.slice none 0 0, .int .i64 0, .int .i64 0, .int .i64 0, .bool false, .bool false, .bool false, .int .i64 0, .int .i64 0, .int .i64 0, .int .i64 0, .slice none 0 0, .int .i64 0, .slice none 0 0, .int .i64 0, .int .i64 0, .int .i64 0]) (pl := [(0, 3), (3, 1), (4, 1), (5, 1), (6, 1), (7, 1), (8, 1), (9, 1), (10, 1), (11, 1), (12, 1), (13, 1), (14, 1), (15, 1), (16, 1)]) [_, _, _, _, _, _, _, _, _, _, _, _, _, _, _, _, _] aS iD O (fun w => by kernel_rfl) O (.agg (us := [_, _, _]) (zs := [.slice none 0 0, .int .i64 0, .int .i64 0]) O O (.on (.on (.on (.on (.on (.on (.on (.on (.one (Rd.one ((zN.f8).aG)) (.on (.one (Rd.one ((zN.f5).aG)) (.on (.on (.on .nil))))))))))))))) O) ?_
       refine lU 64 O (gq (l := [_, _, _, _, _, _, _, _, _, _, _, _, _, _, _, _, _]) zN iD O) ?_
       rintro _ Xx ⟨b21, rfl, tK⟩
       have Gs := V.kp (tK.f17.f17.f17.f17.f17.f17.f17.f17.f17.f17.f17.f17.f17.f17.f17.f17.f17)
       refine dV Gs (fun W hW => (Kp.h hW).right.f16.f16.f16.f16.f16.f16.f16.f16.f16.f16.f16.f16.f16.f16.f16.f16) ?_
       refine gJ 65 O (by kernel_rfl) (dD 0 (l' := [_, _, _, _, _, _, _, _, _, _, _, _, _, _, _, _, _]) (us := [_, _, _, _, _, _, _, _, _, _, _, _, _, _, _, _, _]) tK kL O O O (aW (by first | rfl | exact Rd.one ((tK.f12).aG)) (aH (aH (aH (aH (aH (aH (aH (aH (aH (aH (aW (by first | rfl | exact Rd.one ((tK.f9).aG)) (aH (aW (by first | rfl | exact Rd.one ((tK.f6).aG)) (aH (aH (aH bG))))))))))))))))) O O) ?_
       rintro _ w22 FN
       have Gf := V.kp (FN.f17.f17.f17.f17.f17.f17.f17.f17.f17.f17.f17.f17.f17.f17.f17.f17.f17)
       refine fG Gf (by kernel_rfl) ?_
       refine qN ?_
       refine gZ (_, _, _, _, _, _) uj pY (by (try dsimp only); exact FN.f14.f17.f17.f8.f17.f12.f10.f12.f11.f15.f17.f13.f14.f16.f16.f17.f17)
      ·skip
       refine lC 64 O (by kernel_rfl) (gq (l := [_, _, _, _, _, _, _, _, _, _, _, _, _, _, _, _, _]) zN iD O) (nD O) ?_
       rintro _ ZR ⟨b23, rfl, BA⟩
       have CG := V.kp (BA.f17.f17.f17.f17.f17.f17.f17.f17.f17.f17.f17.f17.f17.f17.f17.f17.f17)
       refine dV CG (fun W hW => (Kp.h hW).right.f16.f16.f16.f16.f16.f16.f16.f16.f16.f16.f16.f16.f16.f16.f16.f16) ?_
       refine lU 62 O (xB O func47 (rQ BA.f15)) ?_
       rintro _ _ ⟨rfl, rfl⟩
       have Dz := V.kp (BA.f17.f17.f17.f17.f17.f17.f17.f17.f17.f17.f17.f17.f17.f17.f17.f17.f17)
       refine dV Dz (fun W hW => (Kp.h hW).f17.f17.f17.f17.f17.f17.f17.f17.f17.f17.f17.f17.f17.f17.f17.f17.f17) ?_
       refine jR 63 O Dz (fun _ => fC (zl := [.slice none 0 0, .int .i64 0, .int .i64 0, .int .i64 0, .bool false, .bool false, .bool false, .int .i64 0, .int .i64 0, .int .i64 0, .int .i64 0, .slice none 0 0, .int .i64 0, .slice none 0 0, .int .i64 0, .int .i64 0, .int .i64 0]) (pl := [(0, 3), (3, 1), (4, 1), (5, 1), (6, 1), (7, 1), (8, 1), (9, 1), (10, 1), (11, 1), (12, 1), (13, 1), (14, 1), (15, 1), (16, 1)]) [_, _, _, _, _, _, _, _, _, _, _, _, _, _, _, _, _] aS iD O (fun w => by kernel_rfl) O (.agg (us := [_, _, _]) (zs := [.slice none 0 0, .int .i64 0, .int .i64 0]) O O (.on (.on (.on (.on (.on (.on (.on (.on (.one (Rd.one ((BA.f9).aG)) (.on (.one (Rd.one ((BA.f6).aG)) (.on (.on (.on .nil))))))))))))))) O) ?_
       refine gJ 65 O (by kernel_rfl) (dD 0 (l' := [_, _, _, _, _, _, _, _, _, _, _, _, _, _, _, _, _]) (us := [_, _, _, _, _, _, _, _, _, _, _, _, _, _, _, _, _]) BA kL O O O (aW (by first | rfl | exact Rd.one ((BA.f12).aG)) (aH (aH (aH (aH (aH (aH (aH (aH (aH (aH (aW (by first | rfl | exact Rd.one ((BA.f9).aG)) (aH (aW (by first | rfl | exact Rd.one ((BA.f6).aG)) (aH (aH (aH bG))))))))))))))))) O O) ?_
       rintro _ w25 JE
       have EF := V.kp (JE.f17.f17.f17.f17.f17.f17.f17.f17.f17.f17.f17.f17.f17.f17.f17.f17.f17)
       refine fG EF (by kernel_rfl) ?_
       refine qN ?_
       refine gZ (_, _, _, _, _, _) uj pY (by (try dsimp only); exact JE.f14.f17.f17.f8.f17.f12.f10.f12.f11.f15.f17.f13.f14.f16.f16.f17.f17)
     ·skip
      refine lC 64 O (by kernel_rfl) (gq (l := [_, _, _, _, _, _, _, _, _, _, _, _, _, _, _, _, _]) Ef iD O) (nD O) ?_
      rintro _ w26 ⟨b26, rfl, EW⟩
      have Sl := V.kp (EW.f13.right.f16.f16.f16.f16.f16.f16.f16.f16.f16.f16.f16.f16.f16.f16.f16.f16)
      refine dV Sl (fun W hW => (Kp.h hW).right.f15.f15.f15.f15.f15.f15.f15.f15.f15.f15.f15.f15.f15.f15.f15) ?_
      refine lU 52 O (xB O func46 (uz EW.f15.f14.f6.f6 hU)) ?_
      rintro _ w27 ⟨rfl, FP⟩
      have IX := V.kp (FP.f17.f17.f17.f17.f17.f17.f17.f17.f17.f17.f17.f17.f17.f17.f17.f17.f17)
      refine dV IX (fun W hW => (Kp.h hW).f3.right.f16.f16.f5.f16.f16.f16.f16.f16.f16.f16.f16.f16.f14.f14.f16.f16) ?_
      refine lU 62 O (xB O func47 (rQ FP.f15)) ?_
      rintro _ _ ⟨rfl, rfl⟩
      have IY := V.kp (FP.f17.f17.f17.f17.f17.f17.f17.f17.f17.f17.f17.f17.f17.f17.f17.f17.f17)
      refine dV IY (fun W hW => (Kp.h hW).f17.f17.f17.f17.f17.f17.f17.f17.f17.f17.f17.f17.f17.f17.f17.f17.f17) ?_
      refine jR 63 O IY (fun _ => fC (zl := [.slice none 0 0, .int .i64 0, .int .i64 0, .int .i64 0, .bool false, .bool false, .bool false, .int .i64 0, .int .i64 0, .int .i64 0, .int .i64 0, .slice none 0 0, .int .i64 0, .slice none 0 0, .int .i64 0, .int .i64 0, .int .i64 0]) (pl := [(0, 3), (3, 1), (4, 1), (5, 1), (6, 1), (7, 1), (8, 1), (9, 1), (10, 1), (11, 1), (12, 1), (13, 1), (14, 1), (15, 1), (16, 1)]) [_, _, _, _, _, _, _, _, _, _, _, _, _, _, _, _, _] aS iD O (fun w => by kernel_rfl) O (.agg (us := [_, _, _]) (zs := [.slice none 0 0, .int .i64 0, .int .i64 0]) O O (.on (.on (.on (.on (.on (.on (.on (.on (.one (Rd.one ((FP.f9).aG)) (.on (.one (Rd.one ((FP.f6).aG)) (.on (.on (.on .nil))))))))))))))) O) ?_
      refine gJ 65 O (by kernel_rfl) (dD 0 (l' := [_, _, _, _, _, _, _, _, _, _, _, _, _, _, _, _, _]) (us := [_, _, _, _, _, _, _, _, _, _, _, _, _, _, _, _, _]) FP.f5 kL O O O (aW (by first | rfl | exact Rd.one ((FP.f12).aG)) (aH (aH (aH (aH (aH (aH (aH (aH (aH (aH (aW (by first | rfl | exact Rd.one ((FP.f9).aG)) (aH (aW (by first | rfl | exact Rd.one ((FP.f6).aG)) (aH (aH (aH bG))))))))))))))))) O O) ?_
      rintro _ w29 Ji
      have Sm := V.kp (Ji.f17.f17.f17.f17.f17.f17.f17.f17.f17.f17.f17.f17.f17.f17.f17.f17.f17)
      refine fG Sm (by kernel_rfl) ?_
      refine qN ?_
      refine gZ (_, _, _, _, _, _) uj pY (by (try dsimp only); exact Ji.f14.f17.f17.f8.f17.f12.f10.f12.f11.f15.f17.f13.f14.f16.f16.f17.f17)
    ·skip
     refine lC 64 O (by kernel_rfl) (gq (l := [_, _, _, _, _, _, _, _, _, _, _, _, _, _, _, _, _]) Dh iD O) (nD O) ?_
     rintro _ w30 ⟨b30, rfl, JF⟩
     have Sr := V.kp (JF.f11.right.f11.right.f14.f14.f14.f14.f14.f14.f14.f14.f14.f14.f14.f14.f14.f14)
     refine dV Sr (fun W hW => (Kp.h hW).right.f13.f13.f13.f13.f13.f13.f13.f13.f13.f13.f13.f13.f13) ?_
     refine lU 50 O (xB O func45 (yM JF.f12.f11.f11.f7)) ?_
     rintro u31 w31 MS
     have Yr := V.kp (MS.f13.right.f16.f16.f16.f16.f16.f16.f16.f16.f16.f16.f16.f16.f16.f16.f16.f16)
     refine dV Yr (fun W hW => (Kp.h hW).right.f4.right.f14.f14.f14.f14.f7.f7.f14.f14.f14.f14.f11.f14.f14.f14) ?_
     refine lU 52 O (xB O func46 (uz MS.f15.f14.f5.f5 hU)) ?_
     rintro _ w32 ⟨rfl, Ht⟩
     have Vr := V.kp (Ht.f17.f17.f17.f17.f17.f17.f17.f17.f17.f17.f17.f17.f17.f17.f17.f17.f17)
     refine dV Vr (fun W hW => (Kp.h hW).f3.right.f16.f16.f5.f16.f16.f16.f16.f16.f16.f16.f16.f16.f16.f15.f15.f16) ?_
     refine lU 62 O (xB O func47 (rQ Ht.f15)) ?_
     rintro _ _ ⟨rfl, rfl⟩
     have Vs := V.kp (Ht.f17.f17.f17.f17.f17.f17.f17.f17.f17.f17.f17.f17.f17.f17.f17.f17.f17)
     refine dV Vs (fun W hW => (Kp.h hW).f17.f17.f17.f17.f17.f17.f17.f17.f17.f17.f17.f17.f17.f17.f17.f17.f17) ?_
     refine jR 63 O Vs (fun _ => fC (zl := [.slice none 0 0, .int .i64 0, .int .i64 0, .int .i64 0, .bool false, .bool false, .bool false, .int .i64 0, .int .i64 0, .int .i64 0, .int .i64 0, .slice none 0 0, .int .i64 0, .slice none 0 0, .int .i64 0, .int .i64 0, .int .i64 0]) (pl := [(0, 3), (3, 1), (4, 1), (5, 1), (6, 1), (7, 1), (8, 1), (9, 1), (10, 1), (11, 1), (12, 1), (13, 1), (14, 1), (15, 1), (16, 1)]) [_, _, _, _, _, _, _, _, _, _, _, _, _, _, _, _, _] aS iD O (fun w => by kernel_rfl) O (.agg (us := [_, _, _]) (zs := [.slice none 0 0, .int .i64 0, .int .i64 0]) O O (.on (.on (.on (.on (.on (.on (.on (.on (.one (Rd.one ((Ht.f9).aG)) (.on (.one (Rd.one ((Ht.f5).aG)) (.on (.on (.on .nil))))))))))))))) O) ?_
     refine gJ 65 O (by kernel_rfl) (dD 0 (l' := [_, _, _, _, _, _, _, _, _, _, _, _, _, _, _, _, _]) (us := [_, _, _, _, _, _, _, _, _, _, _, _, _, _, _, _, _]) Ht.f8 kL O O O (aW (by first | rfl | exact Rd.one ((Ht.f12).aG)) (aH (aH (aH (aH (aH (aH (aH (aH (aH (aH (aW (by first | rfl | exact Rd.one ((Ht.f9).aG)) (aH (aW (by first | rfl | exact Rd.one ((Ht.f5).aG)) (aH (aH (aH bG))))))))))))))))) O O) ?_
     rintro _ w34 Lm
     have Ot := V.kp (Lm.f17.f17.f17.f17.f17.f17.f17.f17.f17.f17.f17.f17.f17.f17.f17.f17.f17)
     refine fG Ot (by kernel_rfl) ?_
     refine qN ?_
     refine gZ (_, _, _, _, _, _) uj pY (by (try dsimp only); exact Lm.f14.f17.f17.f8.f17.f12.f10.f12.f11.f15.f17.f13.f14.f16.f16.f17.f17)
   ·skip
    refine lC 64 O (by kernel_rfl) (gq (l := [_, _, _, _, _, _, _, _, _, _, _, _, _, _, _, _, _]) wE iD O) (nD O) ?_
    rintro _ w35 ⟨b35, rfl, Ou⟩
    have RD := V.kp (Ou.f9.right.f9.right.f12.f12.f12.f12.f12.f12.f12.f12.f12.f12.f12.f12)
    refine dV RD (fun W hW => (Kp.h hW).right.f11.f11.f11.f11.f11.f11.f11.f11.f11.f11.f11) ?_
    refine lU 40 O (xB O func20 (yL Ou.f6.f4)) ?_
    rintro u36 w36 ⟨ahs, UA⟩
    have YR := V.kp (UA.f11.right.f11.right.f14.f14.f14.f14.f14.f14.f14.f14.f14.f14.f14.f14.f14.f14)
    refine dV YR (fun W hW => (Kp.h hW).right.right.f12.f12.f12.f12.f12.f12.f8.f12.f12.f10.f12.f12) ?_
    refine lU 50 O (xB O func45 (yM UA.f12.f11.f11.f6)) ?_
    rintro u37 w37 Lp
    have adK := V.kp (Lp.f13.right.f16.f16.f16.f16.f16.f16.f16.f16.f16.f16.f16.f16.f16.f16.f16.f16)
    refine dV adK (fun W hW => (Kp.h hW).right.f4.right.f14.f14.f14.f14.f7.f7.f14.f14.f14.f14.f14.f12.f14.f14) ?_
    refine lU 52 O (xB O func46 (uz Lp.f15.f14.f5.f5 hU)) ?_
    rintro _ w38 ⟨rfl, Ov⟩
    have VH := V.kp (Ov.f17.f17.f17.f17.f17.f17.f17.f17.f17.f17.f17.f17.f17.f17.f17.f17.f17)
    refine dV VH (fun W hW => (Kp.h hW).f3.right.f16.f16.f5.f16.f16.f16.f16.f16.f16.f16.f16.f16.f16.f15.f15.f16) ?_
    refine lU 62 O (xB O func47 (rQ Ov.f15)) ?_
    rintro _ _ ⟨rfl, rfl⟩
    have RU := V.kp (Ov.f17.f17.f17.f17.f17.f17.f17.f17.f17.f17.f17.f17.f17.f17.f17.f17.f17)
    refine dV RU (fun W hW => (Kp.h hW).f17.f17.f17.f17.f17.f17.f17.f17.f17.f17.f17.f17.f17.f17.f17.f17.f17) ?_
    refine jR 63 O RU (fun _ => fC (zl := [.slice none 0 0, .int .i64 0, .int .i64 0, .int .i64 0, .bool false, .bool false, .bool false, .int .i64 0, .int .i64 0, .int .i64 0, .int .i64 0, .slice none 0 0, .int .i64 0, .slice none 0 0, .int .i64 0, .int .i64 0, .int .i64 0]) (pl := [(0, 3), (3, 1), (4, 1), (5, 1), (6, 1), (7, 1), (8, 1), (9, 1), (10, 1), (11, 1), (12, 1), (13, 1), (14, 1), (15, 1), (16, 1)]) [_, _, _, _, _, _, _, _, _, _, _, _, _, _, _, _, _] aS iD O (fun w => by kernel_rfl) O (.agg (us := [_, _, _]) (zs := [.slice none 0 0, .int .i64 0, .int .i64 0]) O O (.on (.on (.on (.on (.on (.on (.on (.on (.one (Rd.one ((Ov.f8).aG)) (.on (.one (Rd.one ((Ov.f5).aG)) (.on (.on (.on .nil))))))))))))))) O) ?_
    refine gJ 65 O (by kernel_rfl) (dD 0 (l' := [_, _, _, _, _, _, _, _, _, _, _, _, _, _, _, _, _]) (us := [_, _, _, _, _, _, _, _, _, _, _, _, _, _, _, _, _]) Ov.f11 kL O O O (aW (by first | rfl | exact Rd.one ((Ov.f12).aG)) (aH (aH (aH (aH (aH (aH (aH (aH (aH (aH (aW (by first | rfl | exact Rd.one ((Ov.f8).aG)) (aH (aW (by first | rfl | exact Rd.one ((Ov.f5).aG)) (aH (aH (aH bG))))))))))))))))) O O) ?_
    rintro _ w40 H40
    have adL := V.kp (H40.f17.f17.f17.f17.f17.f17.f17.f17.f17.f17.f17.f17.f17.f17.f17.f17.f17)
    refine fG adL (by kernel_rfl) ?_
    refine qN ?_
    refine gZ (_, _, _, _, _, _) uj pY (by (try dsimp only); exact H40.f14.f17.f17.f8.f17.f12.f10.f12.f11.f15.f17.f13.f14.f16.f16.f17.f17)
  ·skip
   refine lC 64 O (by kernel_rfl) (gq (l := [_, _, _, _, _, _, _, _, _, _, _, _, _, _, _, _, _]) YQ iD O) (nD O) ?_
   rintro _ w41 ⟨b41, rfl, Vt⟩
   have Ox := V.kp (Vt.f8.right.f8.right.f11.f11.f11.f11.f11.f11.f11.f11.f11.f11.f11)
   refine dV Ox (fun W hW => (Kp.h hW).right.f10.f10.f10.f10.f10.f10.f10.f10.f10.f10) ?_
   refine lU 1 O (xB O func12 (IW Vt.f4.f4)) ?_
   rintro _ w42 ⟨u42, rfl, ZT⟩
   have Oy := V.kp (ZT.f9.right.f9.right.f12.f12.f12.f12.f12.f12.f12.f12.f12.f12.f12.f12)
   refine dV Oy (fun W hW => (Kp.h hW).right.f11.f11.f11.f11.f11.f11.f11.f9.f9.f11.f11) ?_
   refine lU 40 O (xB O func20 (yL ZT.f6.f3)) ?_
   rintro u43 w43 ⟨aht, WB⟩
   have Yt := V.kp (WB.f11.right.f11.right.f14.f14.f14.f14.f14.f14.f14.f14.f14.f14.f14.f14.f14.f14)
   refine dV Yt (fun W hW => (Kp.h hW).right.right.f12.f12.f12.f12.f12.f12.f8.f12.f12.f12.f11.f12) ?_
   refine lU 50 O (xB O func45 (yM WB.f12.f11.f11.f6)) ?_
   rintro u44 w44 Qv
   have adM := V.kp (Qv.f13.right.f16.f16.f16.f16.f16.f16.f16.f16.f16.f16.f16.f16.f16.f16.f16.f16)
   refine dV adM (fun W hW => (Kp.h hW).right.f4.right.f14.f14.f14.f14.f7.f7.f14.f14.f14.f14.f14.f12.f14.f14) ?_
   refine lU 52 O (xB O func46 (uz Qv.f15.f14.f5.f5 hU)) ?_
   rintro _ w45 ⟨rfl, JR⟩
   have adN := V.kp (JR.f17.f17.f17.f17.f17.f17.f17.f17.f17.f17.f17.f17.f17.f17.f17.f17.f17)
   refine dV adN (fun W hW => (Kp.h hW).f3.right.f16.f16.f5.f16.f16.f16.f16.f16.f16.f16.f16.f16.f16.f15.f15.f16) ?_
   refine lU 62 O (xB O func47 (rQ JR.f15)) ?_
   rintro _ _ ⟨rfl, rfl⟩
   have abl := V.kp (JR.f17.f17.f17.f17.f17.f17.f17.f17.f17.f17.f17.f17.f17.f17.f17.f17.f17)
   refine dV abl (fun W hW => (Kp.h hW).f17.f17.f17.f17.f17.f17.f17.f17.f17.f17.f17.f17.f17.f17.f17.f17.f17) ?_
   refine jR 63 O abl (fun _ => fC (zl := [.slice none 0 0, .int .i64 0, .int .i64 0, .int .i64 0, .bool false, .bool false, .bool false, .int .i64 0, .int .i64 0, .int .i64 0, .int .i64 0, .slice none 0 0, .int .i64 0, .slice none 0 0, .int .i64 0, .int .i64 0, .int .i64 0]) (pl := [(0, 3), (3, 1), (4, 1), (5, 1), (6, 1), (7, 1), (8, 1), (9, 1), (10, 1), (11, 1), (12, 1), (13, 1), (14, 1), (15, 1), (16, 1)]) [_, _, _, _, _, _, _, _, _, _, _, _, _, _, _, _, _] aS iD O (fun w => by kernel_rfl) O (.agg (us := [_, _, _]) (zs := [.slice none 0 0, .int .i64 0, .int .i64 0]) O O (.on (.on (.on (.on (.on (.on (.on (.on (.one (Rd.one ((JR.f8).aG)) (.on (.one (Rd.one ((JR.f5).aG)) (.on (.on (.on .nil))))))))))))))) O) ?_
   refine gJ 65 O (by kernel_rfl) (dD 0 (l' := [_, _, _, _, _, _, _, _, _, _, _, _, _, _, _, _, _]) (us := [_, _, _, _, _, _, _, _, _, _, _, _, _, _, _, _, _]) JR.f13 kL O O O (aW (by first | rfl | exact Rd.one ((JR.f11).aG)) (aH (aH (aH (aH (aH (aH (aH (aH (aH (aH (aW (by first | rfl | exact Rd.one ((JR.f8).aG)) (aH (aW (by first | rfl | exact Rd.one ((JR.f5).aG)) (aH (aH (aH bG))))))))))))))))) O O) ?_
   rintro _ w47 VG
   have adO := V.kp (VG.f17.f17.f17.f17.f17.f17.f17.f17.f17.f17.f17.f17.f17.f17.f17.f17.f17)
   refine fG adO (by kernel_rfl) ?_
   refine qN ?_
   refine gZ (_, _, _, _, _, _) uj pY (by (try dsimp only); exact VG.f14.f17.f17.f8.f17.f12.f10.f12.f11.f15.f17.f13.f14.f16.f16.f17.f17)
end
end Go.Proofs.YtnhhmieghbfalaaGreat
end
section
namespace Go.Proofs.YtnhhmieghbfalaaGreat

def Sv (x : Int) : Nat := if x < 128 then 1 else if 194 ≤ x ∧ x ≤ 223 then 2 else if 224 ≤ x ∧ x ≤ 239 then 3 else if 240 ≤ x ∧ x ≤ 244 then 4 else 0
def ace (x : Int) : Int := if x = 224 then 160 else if x = 240 then 144 else 128
def YS (x : Int) : Int := if x = 237 then 159 else if x = 244 then 143 else 191
def acf (b : List Int) (j : Nat) : Bool := j == 0 || (decide (128 ≤ b.getD j 0 ∧ b.getD j 0 ≤ 191) && (j != 1 || decide (ace (b.getD 0 0) ≤ b.getD 1 0 ∧ b.getD 1 0 ≤ YS (b.getD 0 0))))
def abm (b : List Int) : Nat → Bool
  | 0 => true
  | k + 1 => abm b k && acf b k
def IZ (b : List Int) : Nat × Nat := if b = [] then (0, 0) else if Sv (b.getD 0 0) = 0 then (0, 0) else if abm b (min (Sv (b.getD 0 0)) b.length) then (min (Sv (b.getD 0 0)) b.length, Sv (b.getD 0 0)) else (0, Sv (b.getD 0 0))
def afm (b : List Int) (n : Nat) : Int :=
  if n = 1 then b.getD 0 0 else if n = 2 then b.getD 0 0 % 32 * 64 + b.getD 1 0 % 64 else if n = 3 then b.getD 0 0 % 16 * 4096 + b.getD 1 0 % 64 * 64 + b.getD 2 0 % 64
  else b.getD 0 0 % 8 * 262144 + b.getD 1 0 % 64 * 4096 + b.getD 2 0 % 64 * 64 + b.getD 3 0 % 64
def acg (b : List Int) : Bool := decide ((IZ b).1 = (IZ b).2 ∧ 0 < (IZ b).2)
def YT (b : List Int) : Int × Nat := if acg b then (afm b (IZ b).2, (IZ b).2) else (65533, 1)
def adP (b : List Int) : Bool := decide (0 < (IZ b).1 ∧ (IZ b).1 < (IZ b).2)
def YU : Nat → List Int → List Int
  | 0, _ => []
  | f + 1, b => if b = [] then [] else (YT b).1 :: YU f (b.drop (YT b).2)
def YV (b : List Int) : List Int := YU b.length b
def ach : Nat → List Int → List Int × List Int
  | 0, b => ([], b)
  | f + 1, b => if b = [] ∨ adP b = true then ([], b) else ((YT b).1 :: (ach f (b.drop (YT b).2)).1, (ach f (b.drop (YT b).2)).2)
def ahu (b : List Int) : List Int × List Int := ach b.length b
def aci (l : List Int) : List Int := l.flatMap Lib.encodeRuneZ
def ahv (b : List Int) : Prop := ∀ x ∈ b, 0 ≤ x ∧ x < 256
end Go.Proofs.YtnhhmieghbfalaaGreat
end
section
namespace Go.Proofs.YtnhhmieghbfalaaGreat
open Go.RowKit
section
variable {P : Program} {L : List (Nat × Value)} {w : World} {ty t t' : TypeId} {x y : Operand} {k k2 : IntKind} {m n : Int}
end
def firstM (x : Nat) : Int := ((Go.Pinned.utf8FirstZ.getD x 0 : Nat) : Int)
def adQ : List (Int × Int) := [(128, 191), (160, 191), (128, 159), (144, 191), (128, 143)]
structure agq (w : World) : Prop where
  first : ∀ x : Nat, x < 256 → w.cell? ⟨0, x, none⟩ = some (.int .u8 (firstM x))
  acc : ∀ i : Nat, i < 5 → w.cell? ⟨1, i * 2, none⟩ = some (.int .u8 (adQ.getD i (0, 0)).1) ∧ w.cell? ⟨1, i * 2 + 1, none⟩ = some (.int .u8 (adQ.getD i (0, 0)).2)
section
variable {b : List Int}
theorem ok1 (h1 : ace (b.getD 0 0) ≤ b.getD 1 0) (h2 : b.getD 1 0 ≤ YS (b.getD 0 0)) : acf b 1 = true := by
  have : 128 ≤ b.getD 1 0 ∧ b.getD 1 0 ≤ 191 := by
    unfold ace at h1; unfold YS at h2
    constructor
    · split at h1 <;> (try split at h1) <;> omega
    · split at h2 <;> (try split at h2) <;> omega
  unfold acf
  simp only [Bool.or_eq_true, Bool.and_eq_true, decide_eq_true_eq]
  exact .inr ⟨this, .inr ⟨h1, h2⟩⟩
end
section
variable {w0 w : World} {F : HP} {v : Value} {b : List Int}
end
def ends (T : List (Int × Int)) : List Int := T.flatMap fun x => [x.1, x.2]
section
variable {w0 w : World} {F : HP} {r : Int}
abbrev afn : List (Int × Int) := [(48, 57), (65, 90), (97, 122)]
abbrev ahw : List (Int × Int) := [(215, 215), (247, 247), (8192, 8303), (12288, 12351), (65280, 65295), (65533, 65533)]
end
section
variable {w0 w : World} {F : HP} {v : Value} {b l : List Int} {r x y : Int}
end
section
variable {w0 w : World} {F : HP} {v : Value} {b l : List Int} {r x y : Int}
end
section
variable {w0 w : World} {F : HP} {v : Value} {b l : List Int} {r x y : Int}
end
def tX (l : List Int) : Prop := ∀ x ∈ l, -2147483648 ≤ x ∧ x < 2147483648
section
variable {w0 w : World} {F : HP} {v : Value} {b l : List Int} {r x y : Int}
end
def adR (l : List Int) : ByteArray := l.foldl (fun s n => s.push (UInt8.ofNat n.toNat)) .empty
def YW (s : ByteArray) : List Int := s.data.toList.map fun b => (b.toNat : Int)
section
variable {P : Program} {L : List (Nat × Value)} {w0 w : World} {F : HP} {ty : TypeId} {x : Operand}
end
def acj (hl : List o7) (tx : Int → Option ByteArray) (place : Int) (L : List Int) : ByteArray := if YV (YW (iK hl tx place)) = L then iK hl tx place else adR (aci L)
section
variable {w0 w : World} {F : HP} {e pb pw pt ph : Nat} {L : List Int} {pnt mk place base most : Int} {tx : Int → Option ByteArray} {hl : List o7}
end
end Go.Proofs.YtnhhmieghbfalaaGreat
end
