import Derived.Test.YtnhhmieghbfalaaGreatDoorZ4
import Derived.Test.YtnhhmieghbfalaaGreatDoorZ17
import Derived.Test.YtnhhmieghbfalaaGreatDoorZ21
set_option linter.unusedSimpArgs false
set_option linter.unusedVariables false
/- Texts of mine, joined, their names in short: EdS EdS2 EdS3. -/
section
namespace Go.Proofs.YtnhhmieghbfalaaGreatDoor
open Go.RowKit
open _root_.Go.Proofs.Tryz
section
variable {w0 w : World} {F : HP} {e p ph pw pt pr pm : Nat} {s : aX} {k x place : Int} {hl : List rM} {base most : Int} {tx : Int → Option ByteArray} {v : Value}
theorem Zl (H : V w0 w (jM p hl base most • F)) : iK prog 177 #[.pointer (some ⟨p, 0, none⟩), .int .i64 k] w fun v w' =>
  v = .tuple #[.agg #[.string (WB hl k).1, .int .i64 (WB hl k).2], .bool (decide (0 ≤ k ∧ k < hl.length))] ∧ V w0 w' (jM p hl base most • F) := by
 have hb : hl.length ≤ 4096 := by obtain ⟨v, h, _⟩ := H.hist; exact h.1
 refine nO func177 ntmps177 ?_
 refine kQ (jT (iI (l := [_, _]) H wY O) ?_)
 rintro _ w1 ⟨b1, rfl, H1⟩
 refine vI O (bT O (aT (fJ O O) (nS O (fun h1 => ?_) (fun h1 => ?_))))
 ·(try simp only [aG] at h1)
  refine dB (dB (dB (dB (mQ O O (iR (DZ (kQ (aT (iT (zl := [.string .empty, .int .i64 0]) (pl := [(0, 1), (1, 1)]) [_, _] kW wY O (fun w => by kernel_rfl) O (.zero (zs := [.string .empty]) O (.zero (zs := [.int .i64 0]) O .nil)) O) (aH (dR 0 (l' := [_, _]) (us := [_, _]) H1 ni O O O (aP (aP bW)) O O) ?_)))))))))
  rintro _ w2 H2
  refine iJ O (aC ?_)
  refine wW (.inl O) (abq results177 O O kW O (by rw [aa1]; rfl) (H2).get.2) ?_
  exact ⟨by unfold WB; rw [if_neg (by omega), decide_eq_false (by omega)], H2.right⟩
 ·(try simp only [aG] at h1)
  refine bJ (cO O (bJ (cO O (bJ (fH O func131 (vX H1.f2) ?_)))))
  rintro _ w3 ⟨rfl, H3⟩
  refine bJ (aT (vT O O) (kP O O (jo O (fun h2 => ?_) (fun h2 => ?_))))
  ·(try simp only [aG] at h2)
   refine kQ (aT (iT (zl := [.string .empty, .int .i64 0]) (pl := [(0, 1), (1, 1)]) [_, _] kW wY O (fun w => by kernel_rfl) O (.zero (zs := [.string .empty]) O (.zero (zs := [.int .i64 0]) O .nil)) O) (aH (dR 0 (l' := [_, _]) (us := [_, _]) H3.f2 ni O O O (aP (aP bW)) O O) ?_))
   rintro _ w4 H4
   refine iJ O (aC ?_)
   refine wW (.inl O) (abq results177 O O kW O (by rw [aa1]; rfl) (H4).get.2) ?_
   exact ⟨by unfold WB; rw [if_neg (by omega), decide_eq_false (by omega)], H4.right⟩
  ·(try simp only [aG] at h2)
   refine gX (aI ?_)
   obtain ⟨m, rfl⟩ := Int.eq_ofNat_of_zero_le (show 0 ≤ k by omega)
   obtain ⟨VY, AY, Dp⟩ := (H3).hist
   refine aF (kY O O (bg 0 jQ O pO O (bg 0 jR O lN O (dQ dN O (Dp).get.2 O (cO O ?_)))))
   obtain ⟨ai4, ai5, ai6, adT⟩ := Rd.qX ((Dp.f2).aJ) (by omega)
   cases adT
   refine aT (dP dN ni O O (by omega)) (aT (mF (ys := [_, _]) ((Dp.f2).aJ) (by omega) kW O ni O (mY Ey (by omega) default) O) (aH (dR 0 (l' := [_, _]) (us := [_, _]) Dp.f3 ni O O O (aP (aP bW)) O O) ?_))
   rintro _ w6 H6
   refine iJ O ?_
   refine wW (.inl O) (abq results177 O O kW O (by rw [aa1]; rfl) (H6).get.2) ?_
   have YW := H6.f3.f3
   have QC := V.Kt AY YW
   exact ⟨by unfold WB; rw [if_pos (by omega), decide_eq_true (by omega)]; rfl, QC.f2.right⟩
theorem NQ {x0 x1 x2 x3 x4 x5 x6 x7 x8 x9 x10 x12 yJ x14 x15 x16 x17 x18 x19 x20 x21 yO x23 x24 x25 yS x27 x28 x29 x30 x31 x32 yZ : Value} (H : V w0 w (gU e (.cells (x0 :: x1 :: x2 :: x3 :: x4 :: x5 :: x6 :: x7 :: x8 :: x9 :: x10 :: .pointer (some ⟨ph, 0, none⟩) :: x12 :: yJ :: x14 :: x15 :: x16 :: x17 :: x18 :: x19 :: x20 :: x21 :: yO :: x23 :: x24 :: x25 :: yS :: x27 :: x28 :: x29 :: x30 :: x31 :: x32 :: yZ :: []).toArray 85 (0, 0)) • jM ph hl base most • F)) : iK prog 141 #[.pointer (some ⟨e, 0, none⟩), .int .i64 k] w fun v w' =>
    v = .string (BA hl k) ∧ V w0 w' (gU e (.cells (x0 :: x1 :: x2 :: x3 :: x4 :: x5 :: x6 :: x7 :: x8 :: x9 :: x10 :: .pointer (some ⟨ph, 0, none⟩) :: x12 :: yJ :: x14 :: x15 :: x16 :: x17 :: x18 :: x19 :: x20 :: x21 :: yO :: x23 :: x24 :: x25 :: yS :: x27 :: x28 :: x29 :: x30 :: x31 :: x32 :: yZ :: []).toArray 85 (0, 0)) • jM ph hl base most • F) := by
  refine nO func141 ntmps141 ?_
  refine kG O (bT O (dM O (bg 11 aj O sizeOf41 O (dQ oL O (H).get.2 O (cO O (fH O func177 (Zl H.f2) ?_))))))
  rintro _ w1 ⟨rfl, H1⟩
  refine cO O (xY O O (xY O O (jT (iI (l := [_, _]) H1 wY O) ?_)))
  rintro _ w2 ⟨b2, rfl, H2⟩
  refine aH (dR 0 (l' := [_, _]) (us := [_, _]) H2 ni O O O (aP (aP bW)) O O) ?_
  rintro _ w3 H3
  refine iU O (kQ (bg 0 kW O oM O (dQ iW O (H3).get.2 O (iJ O (dO results141 O ?_)))))
  exact ⟨O, H3.right.f2⟩
theorem acT {t : ByteArray} (h : tx k = some t) : (zI tx k).getD (.string .empty) = .string t ∧ (zI tx k).isSome = true := by unfold zI; rw [h]; exact ⟨rfl, rfl⟩
theorem PG : (zI tx k).isSome = (tx k).isSome := by unfold zI; cases tx k <;> rfl
theorem Ad {x0 x1 x3 x4 x5 x6 x7 x8 x9 x10 x12 yJ x14 x15 x16 x17 x18 x19 x20 x21 yO x23 x24 x25 yS x27 x28 x29 x30 x31 x32 yZ : Value} (H : V w0 w (gU e (.cells (x0 :: x1 :: .pointer (some ⟨pw, 0, none⟩) :: x3 :: x4 :: x5 :: x6 :: x7 :: x8 :: x9 :: x10 :: .pointer (some ⟨ph, 0, none⟩) :: x12 :: yJ :: x14 :: x15 :: x16 :: x17 :: x18 :: x19 :: x20 :: x21 :: yO :: x23 :: x24 :: x25 :: yS :: x27 :: x28 :: x29 :: x30 :: x31 :: x32 :: yZ :: []).toArray 85 (0, 0)) • gU pw (.cells #[v, .map (some pt)] 123 (0, 0)) • lV zH pt (zI tx) • jM ph hl base most • F)) :
    iK prog 140 #[.pointer (some ⟨e, 0, none⟩), .int .i64 k] w fun v' w' =>
    v' = .string (fP hl tx k) ∧ V w0 w' (gU e (.cells (x0 :: x1 :: .pointer (some ⟨pw, 0, none⟩) :: x3 :: x4 :: x5 :: x6 :: x7 :: x8 :: x9 :: x10 :: .pointer (some ⟨ph, 0, none⟩) :: x12 :: yJ :: x14 :: x15 :: x16 :: x17 :: x18 :: x19 :: x20 :: x21 :: yO :: x23 :: x24 :: x25 :: yS :: x27 :: x28 :: x29 :: x30 :: x31 :: x32 :: yZ :: []).toArray 85 (0, 0)) • gU pw (.cells #[v, .map (some pt)] 123 (0, 0)) • lV zH pt (zI tx) • jM ph hl base most • F) := by
  refine nO func140 ntmps140 ?_
  refine kG O (aI (bT O (dM O (bg 0 aj O aU O (bg 2 aK O qc O (dQ lZ O (H).get.2 O (dM O (bg 1 iF O sizeOf121 O (dQ qU O (H.f2).get.2 O (cO O (aT (YD (H.f3) qU ay zeroValue9 O O) (cO O (xY O O (xY O O (lg O (iU O (bT O (jo O (fun h1 => ?_) (fun h1 => ?_)))))))))))))))))))
  · (try simp only [aG] at h1)
    obtain ⟨tt, htt⟩ := Option.isSome_iff_exists.1 (PG (tx := tx) ▸ h1)
    refine bT O (iJ O (aC (dO results140 O ?_)))
    exact ⟨by unfold fP; rw [htt]; show (zI tx k).getD (.string .empty) = _; rw [(acT htt).1]; rfl, H.f4.f4.f4.f4⟩
  · (try simp only [aG] at h1)
    have htt : tx k = none := by have := PG (tx := tx) (k := k) ▸ h1; simpa using this
    refine gX (bT O (cO O (fH O func141 (NQ H.f4.f2) ?_)))
    rintro _ w1 ⟨rfl, H1⟩
    refine iJ O (dO results140 O ?_)
    exact ⟨by unfold fP; rw [htt]; rfl, H1.f2.f4.f4.f4⟩
end
theorem Zm {D : List Int} {P : Int → Nat} {k : Int} (h : (SQ D P k).isSome = true) : k ∈ D := by
  unfold SQ at h
  split at h
  · assumption
  · cases h
theorem Xp {D : List Int} {P : Int → Nat} {k : Int} (h : (SQ D P k).isSome = false) : k ∉ D := by
  unfold SQ at h
  split at h
  · cases h
  · assumption
def pF (x : Int × ByteArray) : List Value := [.int .i64 x.1, .string x.2]
theorem Vx (x : Int × ByteArray) : (pF x).length = 2 := rfl
theorem Zn {hl : List rM} {tx : Int → Option ByteArray} {place : Int} {i : Nat} (h : Kv hl tx place i = true) : wz hl tx place (i + 1) = wz hl tx place i ++ [((i : Int), fP hl tx i)] := by
  unfold wz; rw [List.range_succ, List.filter_append, List.map_append]; simp [List.filter, h]
theorem TF {hl : List rM} {tx : Int → Option ByteArray} {place : Int} {i : Nat} (h : Kv hl tx place i = false) : wz hl tx place (i + 1) = wz hl tx place i := by
  unfold wz; rw [List.range_succ, List.filter_append, List.map_append]; simp [List.filter, h]
theorem AX (hl : List rM) (tx : Int → Option ByteArray) (place : Int) (i : Nat) : (wz hl tx place i).length ≤ i := by
  unfold wz; rw [List.length_map]
  exact Nat.le_trans (List.length_filter_le _ _) (by simp)
def kR (E : List (List Int)) (a : Nat) : List (List Int) := E.drop a ++ E.take a
def ae2 (n a i : Nat) : Nat := if i = 0 then a else (a + (i - 1)) % n
theorem acU {n a i : Nat} : zC n (ae2 n a i) (min (i : Int) 1) = ae2 n a (i + 1) := by
  cases i with
  | zero =>
    show (((a : Int) + min ((0 : Nat) : Int) 1) % (n : Int)).toNat = (a + (0 + 1 - 1)) % n
    rw [show min ((0 : Nat) : Int) 1 = 0 by omega, Int.add_zero, show ((a : Int) % (n : Int)) = ((a % n : Nat) : Int) from rfl, Int.toNat_natCast]
    rfl
  | succ j =>
    show (((((a + (j + 1 - 1)) % n : Nat) : Int) + min ((j + 1 : Nat) : Int) 1) % (n : Int)).toNat = (a + (j + 1 + 1 - 1)) % n
    rw [show min ((j + 1 : Nat) : Int) 1 = ((1 : Nat) : Int) by omega, show ((((a + (j + 1 - 1)) % n : Nat) : Int) + ((1 : Nat) : Int)) % (n : Int) = ((((a + (j + 1 - 1)) % n + 1) % n : Nat) : Int) from rfl, Int.toNat_natCast, Nat.mod_add_mod]
    congr 1
theorem acV {E : List (List Int)} {a i : Nat} (h : i < E.length) (ha : a < E.length) : (kR E a).getD i [] = E.getD (ae2 E.length a (i + 1)) [] := by
  unfold kR ae2
  rw [if_neg (by omega), Nat.add_sub_cancel, List.getD_eq_getElem?_getD, List.getD_eq_getElem?_getD]
  by_cases hi : i < E.length - a
  · rw [List.getElem?_append_left (by simpa using hi), List.getElem?_drop, Nat.mod_eq_of_lt (by omega)]
  · rw [List.getElem?_append_right (by simpa using hi), List.length_drop, List.getElem?_take, if_pos (by omega)]
    have : (a + i) % E.length = i - (E.length - a) := by
      rw [show a + i = (i - (E.length - a)) + E.length by omega, Nat.add_mod_right, Nat.mod_eq_of_lt (by omega)]
    rw [this]
theorem TG {α : Type _} {l : List α} {k : Nat} {d : α} (h : k < l.length) : l.take (k + 1) = l.take k ++ [l.getD k d] := by rw [List.take_succ_eq_append_getElem h, List.getD_eq_getElem?_getD, List.getElem?_eq_getElem h]; rfl
theorem Hl (E : List (List Int)) (a : Nat) : (kR E a).length = E.length := by unfold kR; simp; omega
section
variable {w0 w : World} {F : HP} {e p ph pw pt pr pm pb : Nat} {s : aX} {k x place : Int} {hl : List rM} {base most cls : Int} {tx : Int → Option ByteArray} {v pv : Value} {U : Int → List (List jH)} {put : List jH} {xs : List Value} {inn run whole : Bool} {E : List (List Int)} {a : Nat} {L : List Int} {pnt mk : Int}
theorem JU {x0 x1 x2 x3 x4 x5 x6 x7 x8 x9 x10 x12 yJ x14 x15 x16 x17 x18 x19 x20 x21 yO x23 x24 x25 yS x27 x28 x29 x30 x31 x32 yZ : Value} (H : V w0 w (gU e (.cells (x0 :: x1 :: x2 :: x3 :: x4 :: x5 :: x6 :: x7 :: x8 :: x9 :: x10 :: .pointer (some ⟨ph, 0, none⟩) :: x12 :: yJ :: x14 :: x15 :: x16 :: x17 :: x18 :: x19 :: x20 :: x21 :: yO :: x23 :: x24 :: x25 :: yS :: x27 :: x28 :: x29 :: x30 :: x31 :: x32 :: yZ :: []).toArray 85 (0, 0)) • F)) : iK prog 22 #[.pointer (some ⟨e, 0, none⟩)] w fun v w' => v = .bool false ∧ w = w' := by
  refine jl func22 ntmps22 ?_
  refine kG O (bT O (aT (oQ yP O O) (nS O (fun h1 => ?_) (fun h1 => ?_))))
  · (try simp only [aG] at h1)
    exfalso; first | contradiction | omega
  · (try simp only [aG] at h1)
    refine bJ (cO O (bJ (dM O (bJ (bg 11 aj O sizeOf41 O (bJ (dQ oL O (H).get.2 O (bJ (aT (oQ oL O O) (kP O O (iJ O (dO results22 O ?_))))))))))))
    exact ⟨O, O⟩
theorem Ae {x0 x1 x4 x5 x6 x7 x8 x9 x11 x12 yJ x14 x15 x17 x18 x19 x20 x21 yO x23 x24 x25 yS x27 x29 x30 x31 : Value} (H : V w0 w (gU e (.cells (x0 :: x1 :: .pointer (some ⟨pw, 0, none⟩) :: .map (some pm) :: x4 :: x5 :: x6 :: x7 :: x8 :: x9 :: .bool run :: x11 :: x12 :: yJ :: x14 :: x15 :: .bool inn :: x17 :: x18 :: x19 :: x20 :: x21 :: yO :: x23 :: x24 :: x25 :: yS :: x27 :: .int .i64 cls :: x29 :: x30 :: x31 :: .bool whole :: pv :: []).toArray 85 (0, 0)) • gU pw (.cells #[.int .i64 k, .map (some pt)] 123 (0, 0)) • DX pm U • Row 143 3 pv put.length xs • F)) (hU : (U k).length ≤ 16384) :
    iK prog 76 #[.pointer (some ⟨e, 0, none⟩)] w fun v' w' => v' = .int .i64 (zk (U k) inn put (cls == 3 && whole) run) ∧
      V w0 w' (gU e (.cells (x0 :: x1 :: .pointer (some ⟨pw, 0, none⟩) :: .map (some pm) :: x4 :: x5 :: x6 :: x7 :: x8 :: x9 :: .bool run :: x11 :: x12 :: yJ :: x14 :: x15 :: .bool inn :: x17 :: x18 :: x19 :: x20 :: x21 :: yO :: x23 :: x24 :: x25 :: yS :: x27 :: .int .i64 cls :: x29 :: x30 :: x31 :: .bool whole :: pv :: []).toArray 85 (0, 0)) • gU pw (.cells #[.int .i64 k, .map (some pt)] 123 (0, 0)) • DX pm U • Row 143 3 pv put.length xs • F) := by
  refine jl func76 ntmps76 ?_
  refine kG O (kG O ?_)
  refine yV [(0, _)] (fun (_ : Unit) => [(3, .int .i64 ((U k).length : Int))]) (fun (_ : Unit) W => V w0 W (gU e (.cells (x0 :: x1 :: .pointer (some ⟨pw, 0, none⟩) :: .map (some pm) :: x4 :: x5 :: x6 :: x7 :: x8 :: x9 :: .bool run :: x11 :: x12 :: yJ :: x14 :: x15 :: .bool inn :: x17 :: x18 :: x19 :: x20 :: x21 :: yO :: x23 :: x24 :: x25 :: yS :: x27 :: .int .i64 cls :: x29 :: x30 :: x31 :: .bool whole :: pv :: []).toArray 85 (0, 0)) • gU pw (.cells #[.int .i64 k, .map (some pt)] 123 (0, 0)) • DX pm U • Row 143 3 pv put.length xs • F)) rJ ?_ ?_
  · rintro _ w1 HJ
    dsimp only [List.cons_append, List.nil_append]
    refine aI (bT O (dM O (bg 16 aj O aN O (dQ bn O (HJ).get.2 O (nS O (fun h1 => ?_) (fun h1 => ?_))))))
    · (try simp only [aG] at h1)
      have hin := h1
      refine bJ (cO O (bJ (dM O (bJ (bg 33 aj O bU O (bJ (dQ aV O (HJ).get.2 O (bJ (aT (fV ((HJ.f4).aJ) aV O) (bJ (aT (fZ O O) (mQ O O (nS O (fun h2 => ?_) (fun h2 => ?_))))))))))))))
      · (try simp only [aG] at h2)
        have hno : put.isEmpty = false := by rw [yR]; exact decide_eq_false (by omega)
        refine bJ (cO O (bJ (dM O (bJ (bg 28 aj O ah O (bJ (dQ ay O (HJ).get.2 O (bJ (aT (fA O O) (bJ (nS O (fun h3 => ?_) (fun h3 => ?_))))))))))))
        · (try simp only [aG] at h3)
          have hcl := h3
          refine bJ (cO O (bJ (dM O (bJ (bg 32 aj O aN O (bJ (dQ bn O (HJ).get.2 O (bJ (mQ O O (bJ (nS O (fun h4 => ?_) (fun h4 => ?_))))))))))))
          · (try simp only [aG] at h4)
            have hwh := h4
            refine bJ (cO O (bJ (dM O (bJ (bg 0 aj O aU O (bJ (bg 10 aK O aN O (bJ (dQ bn O (HJ).get.2 O (bJ (mQ O O (bJ (aT (jG O) (mQ O O (jo O (fun h5 => ?_) (fun h5 => ?_))))))))))))))))
            · (try simp only [aG] at h5)
              have hrn := h5
              refine aF (cO O (aT (gY O O (by omega)) (iU O (bT O (iJ O (dO results76 O ?_))))))
              refine ⟨?_, HJ.f4.f4.f4.f4⟩
              congr 1
              unfold zk
              first
                | exact absurd hrn (by decide)
                | (simp [hin]; done)
                | (simp [hin, hno]; done)
                | (simp [hin, hno, hcl]; done)
                | (simp [hin, hno, hcl, hwh]; done)
                | (simp [hin, hno, hcl, hwh, hrn]; done)
            · (try simp only [aG] at h5)
              have hrn := h5
              refine gX (bT O (iJ O (dO results76 O ?_)))
              refine ⟨?_, HJ.f4.f4.f4.f4⟩
              congr 1
              unfold zk
              first
                | exact absurd hrn (by decide)
                | (simp [hin]; done)
                | (simp [hin, hno]; done)
                | (simp [hin, hno, hcl]; done)
                | (simp [hin, hno, hcl, hwh]; done)
                | (simp [hin, hno, hcl, hwh, hrn]; done)
          · (try simp only [aG] at h4)
            have hwh := h4
            refine dB (dB (dB (dB (dB (bJ (kP O O (bJ (aT (jG O) (mQ O O (jo O (fun h6 => ?_) (fun h6 => ?_)))))))))))
            · (try simp only [aG] at h6)
              have hrn := h6
              refine aF (cO O (aT (gY O O (by omega)) (iU O (bT O (iJ O (dO results76 O ?_))))))
              refine ⟨?_, HJ.f4.f4.f4.f4⟩
              congr 1
              unfold zk
              first
                | exact absurd hrn (by decide)
                | (simp [hin]; done)
                | (simp [hin, hno]; done)
                | (simp [hin, hno, hcl]; done)
                | (simp [hin, hno, hcl, hwh]; done)
                | (simp [hin, hno, hcl, hwh, hrn]; done)
            · (try simp only [aG] at h6)
              have hrn := h6
              refine gX (bT O (iJ O (dO results76 O ?_)))
              refine ⟨?_, HJ.f4.f4.f4.f4⟩
              congr 1
              unfold zk
              first
                | exact absurd hrn (by decide)
                | (simp [hin]; done)
                | (simp [hin, hno]; done)
                | (simp [hin, hno, hcl]; done)
                | (simp [hin, hno, hcl, hwh]; done)
                | (simp [hin, hno, hcl, hwh, hrn]; done)
        · (try simp only [aG] at h3)
          have hcl := h3
          refine dB (dB (dB (dB (bJ (kP O O (bJ (cO O (dB (dB (dB (dB (dB (bJ (kP O O (bJ (aT (jG O) (mQ O O (jo O (fun h7 => ?_) (fun h7 => ?_)))))))))))))))))))
          · (try simp only [aG] at h7)
            have hrn := h7
            refine aF (cO O (aT (gY O O (by omega)) (iU O (bT O (iJ O (dO results76 O ?_))))))
            refine ⟨?_, HJ.f4.f4.f4.f4⟩
            congr 1
            unfold zk
            first
              | exact absurd hrn (by decide)
              | (simp [hin]; done)
              | (simp [hin, hno]; done)
              | (simp [hin, hno, hcl]; done)
              | (simp [hin, hno, hcl, hwh]; done)
              | (simp [hin, hno, hcl, hwh, hrn]; done)
          · (try simp only [aG] at h7)
            have hrn := h7
            refine gX (bT O (iJ O (dO results76 O ?_)))
            refine ⟨?_, HJ.f4.f4.f4.f4⟩
            congr 1
            unfold zk
            first
              | exact absurd hrn (by decide)
              | (simp [hin]; done)
              | (simp [hin, hno]; done)
              | (simp [hin, hno, hcl]; done)
              | (simp [hin, hno, hcl, hwh]; done)
              | (simp [hin, hno, hcl, hwh, hrn]; done)
      · (try simp only [aG] at h2)
        have hno : put.isEmpty = true := by rw [yR]; exact decide_eq_true (by omega)
        refine dB (dB (dB (dB (dB (dB (yX (yX (yX (yX (dB (dB (yX (yX (yX (yX (yX (dB (dB (kP O O (iR (yh (gX (bT O (iJ O (dO results76 O ?_)))))))))))))))))))))))))
        refine ⟨?_, HJ.f4.f4.f4.f4⟩
        congr 1
        unfold zk
        first
          | exact absurd hrn (by decide)
          | (simp [hin]; done)
          | (simp [hin, hno]; done)
          | (simp [hin, hno, hcl]; done)
          | (simp [hin, hno, hcl, hwh]; done)
          | (simp [hin, hno, hcl, hwh, hrn]; done)
    · (try simp only [aG] at h1)
      have hin := h1
      refine dB (dB (dB (dB (dB (dB (kP O O (cO O (dB (dB (dB (dB (dB (dB (yX (yX (yX (yX (dB (dB (yX (yX (yX (yX (yX (dB (dB (kP O O (iR (yh (gX (bT O (iJ O ?_))))))))))))))))))))))))))))))))
      refine dO results76 O ?_
      refine ⟨?_, HJ.f4.f4.f4.f4⟩
      congr 1
      unfold zk
      first
        | exact absurd hrn (by decide)
        | (simp [hin]; done)
        | (simp [hin, hno]; done)
        | (simp [hin, hno, hcl]; done)
        | (simp [hin, hno, hcl, hwh]; done)
        | (simp [hin, hno, hcl, hwh, hrn]; done)
  · skip
    refine aI ?_
    obtain ⟨D, P, hD1, hD2, HU⟩ := (H.f3).aek
    have OM := HU.drew
    have mW := V.kp (OM.f5.f5.f5.f5.f5)
    refine tH [4, 9, 12, 13] mW O (fM 0 O mW O (jF 1 O mW O (eP 2 O mW 0 aj O aU O (eP 3 O mW 3 aK O sizeOf80 O (iD 4 O mW (fun W hW => jk qO O ((Kp.h hW).f3).get.2 O) (fM 5 O mW O (jF 6 O mW O (eP 7 O mW 0 aj O aU O (eP 8 O mW 2 aK O qc O (iD 9 O mW (fun W hW => jk lZ O ((Kp.h hW).f3).get.2 O) (jF 10 O mW O (eP 11 O mW 0 iF O ah O (iD 12 O mW (fun W hW => jk ay O ((Kp.h hW).f4).get.2 O) (iD 13 O mW (fun W hW => FW (YC ((Kp.h hW)) qO ay zeroValue127 O O) (abO D P k)) (iE 14 O mW (fun _ => eH O) (oH (aZ (bT O (aT (QN underlying127 O O) (jo O (fun h8 => ?_) (fun h8 => ?_)))))))))))))))))))))
    · (try simp only [aG] at h8)
      have hmem := Zm h8
      rw [YL hmem]
      have HF := OM.f2
      rw [AL hmem] at HF
      have HF2 := HF.flat
      refine aF (cO O (fH O func142 (Nk HF2) ?_))
      rintro _ w2 ⟨rfl, H2⟩
      have F9 := H2.f2.f2
      have Fq := V.of_eq F9 (by rw [← eX, ← AL hmem])
      have Ho5 := Fq.f2
      have Hc6 := V.Ky hD1 hD2 Ho5
      refine lg O (dJ ?_)
      refine ji (()) ?_ ?_ ?_
      · exact (Sub.vG O (by first | (rw [hD2 _ hnm]; rfl) | (simp; done)) (Sub.nil _))
      · exact rJ
      · (try dsimp only)
        first | done | exact Hc6.f4.f2.f4.f4
    · (try simp only [aG] at h8)
      have hnm := Xp h8
      have Qd := OM.f2.f2
      have Qe := V.Ky hD1 hD2 Qd
      refine eG ?_
      refine ji (()) ?_ ?_ ?_
      · exact (Sub.vG O (by first | (rw [hD2 _ hnm]; rfl) | (simp; done)) (Sub.nil _))
      · exact rJ
      · (try dsimp only)
        first | done | exact Qe.f4.f2.f4.f4
theorem Eo {x0 x2 x3 x4 x5 x6 x7 x8 x9 x10 x12 yJ x14 x15 x16 x17 x18 x19 x20 x21 yO x23 x24 x25 yS x27 x28 x29 x30 x31 x32 yZ : Value} (H : V w0 w (gU e (.cells (x0 :: .pointer (some ⟨pr, 0, none⟩) :: x2 :: x3 :: x4 :: x5 :: x6 :: x7 :: x8 :: x9 :: x10 :: .pointer (some ⟨ph, 0, none⟩) :: x12 :: yJ :: x14 :: x15 :: x16 :: x17 :: x18 :: x19 :: x20 :: x21 :: yO :: x23 :: x24 :: x25 :: yS :: x27 :: x28 :: x29 :: x30 :: x31 :: x32 :: yZ :: []).toArray 85 (0, 0)) • iG pr E a • F)) : iK prog 59 #[.pointer (some ⟨e, 0, none⟩)] w fun v' w' =>
  ∃ us, V w0 w' (Row 24 1 v' E.length us • Gl 21 .i32 us (kR E a) • gU e (.cells (x0 :: .pointer (some ⟨pr, 0, none⟩) :: x2 :: x3 :: x4 :: x5 :: x6 :: x7 :: x8 :: x9 :: x10 :: .pointer (some ⟨ph, 0, none⟩) :: x12 :: yJ :: x14 :: x15 :: x16 :: x17 :: x18 :: x19 :: x20 :: x21 :: yO :: x23 :: x24 :: x25 :: yS :: x27 :: x28 :: x29 :: x30 :: x31 :: x32 :: yZ :: []).toArray 85 (0, 0)) • iG pr E a • F) := by
 obtain ⟨hE1, hE2, hE3⟩ := LU H.swap
 refine jl func59 ntmps59 ?_
 refine kG O (aI (bT O (fH O func22 (JU H) ?_)))
 rintro _ _ ⟨rfl, rfl⟩
 refine iR (yh (gX (kG O (bT O (dM O (bg 0 aj O aU O (bg 1 aK O sizeOf78 O (dQ xg O (H).get.2 O (fH O func79 (EP H.f2) ?_)))))))))
 rintro _ w2 ⟨pc2, rfl, H2⟩
 refine vI O (bT O (fH O func125 (Wj H2) ?_))
 rintro _ _ ⟨rfl, rfl⟩
 refine cO O (iR (bK ?_))
 obtain ⟨R4, hR4, HR4⟩ := V.aiT (H2)
 refine jh [(4, _), (17, _)] (fun (⟨i, u⟩ : Nat × Value) => [(3, u), (18, .int .i64 (i : Int))]) (fun (⟨i, u⟩ : Nat × Value) W => i ≤ E.length ∧ ∃ us, V w0 W (Row 24 1 u i us • Gl 21 .i32 us ((kR E a).take i) • iG pc2 E (ae2 E.length a i) • R4)) (fun (⟨i, u⟩ : Nat × Value) => E.length - i) ((0, .slice none 0 0)) vV vV ⟨by omega, [], HR4.ae1.iV none⟩ ?_
 rintro ⟨i, u⟩ w5 ⟨hi, us, HL⟩
 dsimp only [List.cons_append, List.nil_append]
 refine kQ (aT (fJ O O) (uV (dw O (fun h1 => ?_) (fun h1 => ?_))))
 ·(try simp only [aG] at h1)
  refine gX (aI (bK (bT O (iU O (bT O (cO O (aT (QO O O) (fH O func126 (Je HL.f3) ?_))))))))
  rintro _ w6 ⟨u6, rfl, H6⟩
  have hne : ¬ E.length = 0 := by omega
  have HX := H6
  simp only [if_neg hne] at HX
  refine cO O (xY O O (xY O O (lg O (iU O (aF (ku O O (jT (mX (vs := [_]) HX bF bI pR O O O (by decide) (bD (by first | rfl | exact Rd.one ((HX).aJ)) bW)) ?_)))))))
  rintro l7 w7 H7
  refine jT (gK H7.f4 bF Po O O O ((H7).aJ) (bD (by first | rfl | exact Rd.one ((H7.f2).aJ)) bW) (by omega) (by omega)) ?_
  rintro l8 w8 H8
  have Hd9 := H8.f2.right
  refine lg O (dJ (aS (aZ (aF (aT (gY O O (by omega)) (cO O (dJ ?_)))))))
  have HS := (Hd9.f3.f2.f3.f4).KA.f2
  refine fG ((i + 1, l8)) ?_ ?_ ?_ ?_
  ·exact vV
  ·exact vV
  ·(try dsimp only)
   first | done | exact ⟨by omega, _, by rw [TG (d := []) (by rw [Hl]; omega), acV (by omega) (by omega), ← acU]; exact HS⟩
  ·(try dsimp only); omega
 ·(try simp only [aG] at h1)
  refine iZ (bC ?_)
  obtain rfl : i = E.length := by omega
  have HK := HL
  rw [List.take_of_length_le (by rw [Hl]; exact Nat.le_refl _)] at HK
  subst hR4
  refine bC (dK (aZ (bT O (iJ O (dO results59 O ?_)))))
  exact ⟨_, HK.f3.right.f3.f4.f4.f4⟩
end
def IL (s : aX) (u ks sv : Value) : List Value := [u, .int .i64 s.c.pt, .int .i64 s.c.mark, .int .i64 s.c.mode, .bool s.c.over, .bool s.given, .bool s.minus, .int .i64 s.arg, .int .i64 s.yx, .int .i64 s.Ox, .int .i64 s.Qi, ks, .int .i64 s.c.place, sv, .int .i64 s.JG, .int .i64 s.c.res, .int .i64 s.nR]
section
variable {w0 w : World} {F : HP} {e p ph pw pt pr pm pb : Nat} {s : aX} {k x place : Int} {hl : List rM} {base most cls : Int} {tx : Int → Option ByteArray} {v pv : Value} {U : Int → List (List jH)} {L : List Int} {pnt mk : Int}
theorem PI {x1 x2 x3 x4 x5 x6 x7 x8 x9 x10 x12 yJ x14 x15 x16 x17 x18 x19 x20 x21 yO x23 x24 x25 yS x27 x28 x29 x30 x31 x32 yZ : Value} (H : V w0 w (gU e (.cells (.pointer (some ⟨pb, 0, none⟩) :: x1 :: x2 :: x3 :: x4 :: x5 :: x6 :: x7 :: x8 :: x9 :: x10 :: .pointer (some ⟨ph, 0, none⟩) :: x12 :: yJ :: x14 :: x15 :: x16 :: x17 :: x18 :: x19 :: x20 :: x21 :: yO :: x23 :: x24 :: x25 :: yS :: x27 :: x28 :: x29 :: x30 :: x31 :: x32 :: yZ :: []).toArray 85 (0, 0)) • jC pb L pnt mk • F)) : iK prog 54 #[.pointer (some ⟨e, 0, none⟩)] w fun v' w' =>
  ∃ u, v' = .agg (oU u pnt mk) ∧ V w0 w' (kF 21 .i32 u L • gU e (.cells (.pointer (some ⟨pb, 0, none⟩) :: x1 :: x2 :: x3 :: x4 :: x5 :: x6 :: x7 :: x8 :: x9 :: x10 :: .pointer (some ⟨ph, 0, none⟩) :: x12 :: yJ :: x14 :: x15 :: x16 :: x17 :: x18 :: x19 :: x20 :: x21 :: yO :: x23 :: x24 :: x25 :: yS :: x27 :: x28 :: x29 :: x30 :: x31 :: x32 :: yZ :: []).toArray 85 (0, 0)) • jC pb L pnt mk • F) := by
 refine jl func54 ntmps54 ?_
 refine kQ (jT (iI (l := [_, _, _]) H vZ O) ?_)
 rintro _ w1 ⟨b1, rfl, H1⟩
 refine uV (bT O (fH O func22 (JU H1.f2) ?_))
 rintro _ _ ⟨rfl, rfl⟩
 refine iR (yh (gX (bT O (dM O (bg 0 aj O aU O (bg 0 aK O kM O (dQ iL O (H1.f2).get.2 O (fH O func123 (MZ H1.f3) ?_))))))))
 rintro _ w3 ⟨u3, rfl, H3⟩
 refine aH (dR 0 (l' := [_, _, _]) (us := [_, _, _]) H3.f3 oV O O O (bD (by first | rfl | exact Rd.one ((H3).aJ)) (aP (aP bW))) O O) ?_
 rintro _ w4 H4
 refine zkc ?_
 refine wW (.inl O) (Oj results54 O iM O (by rw [U7]; rfl) (H4).get.2) ?_
 exact ⟨_, O, H4.right.f2.f3.f3⟩
theorem Ep {x0 x1 x3 x4 x5 x6 x7 x8 x9 x10 x12 yJ x14 x15 x16 x17 x18 x19 x20 x21 yO x23 x24 x25 yS x27 x28 x29 x30 x31 x32 yZ : Value} (H : V w0 w (gU e (.cells (x0 :: x1 :: .pointer (some ⟨pw, 0, none⟩) :: x3 :: x4 :: x5 :: x6 :: x7 :: x8 :: x9 :: x10 :: .pointer (some ⟨ph, 0, none⟩) :: x12 :: yJ :: x14 :: x15 :: x16 :: x17 :: x18 :: x19 :: x20 :: x21 :: yO :: x23 :: x24 :: x25 :: yS :: x27 :: x28 :: x29 :: x30 :: x31 :: x32 :: yZ :: []).toArray 85 (0, 0)) • gU pw (.cells #[.int .i64 place, .map (some pt)] 123 (0, 0)) • lV zH pt (zI tx) • jM ph hl base most • F)) :
    iK prog 75 #[.pointer (some ⟨e, 0, none⟩)] w fun v' w' => V w0 w' (Row 152 2 v' (zD hl tx place).length ((zD hl tx place).flatMap pF) •
      gU e (.cells (x0 :: x1 :: .pointer (some ⟨pw, 0, none⟩) :: x3 :: x4 :: x5 :: x6 :: x7 :: x8 :: x9 :: x10 :: .pointer (some ⟨ph, 0, none⟩) :: x12 :: yJ :: x14 :: x15 :: x16 :: x17 :: x18 :: x19 :: x20 :: x21 :: yO :: x23 :: x24 :: x25 :: yS :: x27 :: x28 :: x29 :: x30 :: x31 :: x32 :: yZ :: []).toArray 85 (0, 0)) • gU pw (.cells #[.int .i64 place, .map (some pt)] 123 (0, 0)) • lV zH pt (zI tx) • jM ph hl base most • F) := by
  have hb : hl.length ≤ 4096 := by obtain ⟨v, h, _⟩ := H.r4.hist; exact h.1
  refine jl func75 ntmps75 ?_
  refine kG O (kG O (bT O (dM O (bg 11 aj O sizeOf41 O (dQ oL O (H).get.2 O (fH O func131 (vX H.f4) ?_))))))
  rintro _ w1 ⟨rfl, H1⟩
  refine vI O (bT O (cO O (iR (bK ?_))))
  refine jh [(0, _), (4, _), (11, _)] (fun (⟨i, u⟩ : Nat × Value) => [(3, u), (12, .int .i64 (i : Int))]) (fun (⟨i, u⟩ : Nat × Value) W => i ≤ hl.length ∧ V w0 W (Row 152 2 u (wz hl tx place i).length ((wz hl tx place i).flatMap pF) • gU e (.cells (x0 :: x1 :: .pointer (some ⟨pw, 0, none⟩) :: x3 :: x4 :: x5 :: x6 :: x7 :: x8 :: x9 :: x10 :: .pointer (some ⟨ph, 0, none⟩) :: x12 :: yJ :: x14 :: x15 :: x16 :: x17 :: x18 :: x19 :: x20 :: x21 :: yO :: x23 :: x24 :: x25 :: yS :: x27 :: x28 :: x29 :: x30 :: x31 :: x32 :: yZ :: []).toArray 85 (0, 0)) • gU pw (.cells #[.int .i64 place, .map (some pt)] 123 (0, 0)) • lV zH pt (zI tx) • jM ph hl base most • F)) (fun (⟨i, u⟩ : Nat × Value) => hl.length - i) ((0, .slice none 0 0)) DK vV ⟨by omega, H1.f4.f4.f4.iV none⟩ ?_
  rintro ⟨i, u⟩ w2 ⟨hi, HL⟩
  dsimp only [List.cons_append, List.nil_append]
  refine kQ (aT (fJ O O) (uV (dw O (fun h1 => ?_) (fun h1 => ?_))))
  · (try simp only [aG] at h1)
    refine gX (aI (bK (bT O (vI O ?_))))
    have hLen := AX hl tx place i
    refine aF (ku O O (dM O (bg 0 aj O aU O (bg 2 aK O qc O (dQ lZ O (HL.f2).get.2 O (dM O (bg 0 iF O ah O (dQ ay O (HL.f3).get.2 O (aT (fF O O) (nS O (fun h2 => ?_) (fun h2 => ?_)))))))))))
    · (try simp only [aG] at h2)
      have hpl := h2
      refine bJ (cO O (bJ (cO O (bJ (fH O func140 (Ad HL.f5.f5.f5.f5) ?_)))))
      rintro _ w3 ⟨rfl, H3⟩
      refine bJ (cO O (bJ (cO O (bJ (fH O func141 (NQ H3.f4.f2) ?_)))))
      rintro _ w4 ⟨rfl, H4⟩
      refine bJ (aT (UO O O) (mQ O O (jo O (fun h3 => ?_) (fun h3 => ?_))))
      · (try simp only [aG] at h3)
        have hsv := Zn (hl := hl) (tx := tx) (place := place) (i := i) (by unfold Kv; rw [decide_eq_true hpl]; simpa using h3)
        refine aF (ku O O (ku O O (fH O func140 (Ad H4.f2.f4.f4.f4) ?_)))
        rintro _ w5 ⟨rfl, H5⟩
        refine aT (iT (zl := [.int .i64 0, .string .empty]) (pl := [(0, 1), (1, 1)]) [_, _] qV uf O (fun w => by kernel_rfl) O (.on (.on .nil)) O) ?_
        refine jT (qL H5 iy rH uf O O O (by decide) (by decide)) ?_
        rintro l6 w6 H6
        refine jT (gK H6.f6 iy Xq O O O ((H6).aJ) (aP (aP bW)) (by omega) (by omega)) ?_
        rintro l7 w7 H7
        have Hd8 := H7.f2.right
        refine lg O (dJ (aS (aZ (aF (aT (gY O O (by omega)) (cO O (dJ ?_)))))))
        have hLen := AX hl tx place i
        refine fG ((i + 1, l7)) ?_ ?_ ?_ ?_
        · exact vV
        · exact DK
        · (try dsimp only)
          first | done | exact ⟨by omega, by first | (rw [hsv, List.length_append, List.flatMap_append]; exact Hd8.f5.f5.f5.f5.f5) | (rw [hsv]; exact Hd8.f5.f5.f5.f5.f5)⟩
        · (try dsimp only); omega
      · (try simp only [aG] at h3)
        have hsv := TF (hl := hl) (tx := tx) (place := place) (i := i) (by unfold Kv; rw [decide_eq_true hpl]; simpa using h3)
        refine eG (aS (aZ (aF (aT (gY O O (by omega)) (cO O (dJ ?_))))))
        have hLen := AX hl tx place i
        refine fG ((i + 1, u)) ?_ ?_ ?_ ?_
        · exact vV
        · exact DK
        · (try dsimp only)
          first | done | exact ⟨by omega, by first | (rw [hsv, List.length_append, List.flatMap_append]; exact H4.f2.f4.f4.f4.f5) | (rw [hsv]; exact H4.f2.f4.f4.f4.f5)⟩
        · (try dsimp only); omega
    · (try simp only [aG] at h2)
      have hsv := TF (hl := hl) (tx := tx) (place := place) (i := i) (by unfold Kv; rw [decide_eq_false (by simpa using h2)]; rfl)
      refine dB (dB (dB (dB (dB (dB (dB (kP O O (iR (yh (eG (aS (aZ (aF (aT (gY O O (by omega)) (cO O (dJ ?_))))))))))))))))
      have hLen := AX hl tx place i
      refine fG ((i + 1, u)) ?_ ?_ ?_ ?_
      · exact vV
      · exact DK
      · (try dsimp only)
        first | done | exact ⟨by omega, by first | (rw [hsv, List.length_append, List.flatMap_append]; exact HL.f5.f5.f5.f5.f5) | (rw [hsv]; exact HL.f5.f5.f5.f5.f5)⟩
      · (try dsimp only); omega
  · (try simp only [aG] at h1)
    refine iZ (bC ?_)
    obtain rfl : i = hl.length := by omega
    refine bC (dK (aZ (aI (aI ?_))))
    have hLen := AX hl tx place hl.length
    refine aF (kY O O (bg 0 aj O aU O (bg 2 aK O qc O (dQ lZ O (HL.f2).get.2 O (dM O (bg 0 iF O ah O (dQ ay O (HL.f3).get.2 O (cO O (aT (fF O O) (jo O (fun h4 => ?_) (fun h4 => ?_)))))))))))
    · (try simp only [aG] at h4)
      have hsv : zD hl tx place = wz hl tx place hl.length ++ [((hl.length : Int), fP hl tx hl.length)] := by unfold zD; rw [if_pos h4]
      refine aF (ku O O (ku O O (fH O func140 (Ad HL.f5.f5.f5.f5) ?_)))
      rintro _ w9 ⟨rfl, H9⟩
      refine aT (iT (zl := [.int .i64 0, .string .empty]) (pl := [(0, 1), (1, 1)]) [_, _] qV uf O (fun w => by kernel_rfl) O (.on (.on .nil)) O) ?_
      refine jT (qL H9 iy rH uf O O O (by decide) (by decide)) ?_
      rintro l10 w10 rU
      refine jT (gK rU.f6 iy Xq O O O ((rU).aJ) (aP (aP bW)) (by omega) (by omega)) ?_
      rintro l11 Ii rE
      have Qc := rE.f2.right
      refine iU O (bT O (iJ O (dO results75 O ?_)))
      first
        | (rw [hsv, List.length_append, List.flatMap_append]; exact Qc.f5.f5.f5.f5.f5)
        | (rw [hsv]; exact Qc.f5.f5.f5.f5.f5)
    · (try simp only [aG] at h4)
      have hsv : zD hl tx place = wz hl tx place hl.length := by unfold zD; rw [if_neg (by simpa using h4), List.append_nil]
      refine gX (bT O (iJ O (dO results75 O ?_)))
      first
        | (rw [hsv, List.length_append, List.flatMap_append]; exact HL.f5.f5.f5.f5.f5)
        | (rw [hsv]; exact HL.f5.f5.f5.f5.f5)
theorem acW {u0 u1 u2 u3 u4 u5 u6 u7 u8 u9 ua : Value} (hin : s.inn = true) (H : V w0 w (Dy s.inn s.was [u0, u1, u2, u3, u4, u5, u6, u7, u8, u9, ua] • F)) : u6 = .int .i64 s.was.last ∧ u7 = .int .i64 s.was.fr ∧ u8 = .int .i64 s.was.to := by
  rw [hin] at H
  obtain ⟨qb, qr, qw, qt, qm, hu, -⟩ := H.was
  simp only [YI, List.cons.injEq, and_true] at hu
  exact ⟨hu.2.2.2.2.2.2.1, hu.2.2.2.2.2.2.2.1, hu.2.2.2.2.2.2.2.2.1⟩
set_option maxHeartbeats 1000000 in
theorem NR (H : V w0 w (gQ e s • F)) : iK prog 21 #[.pointer (some ⟨e, 0, none⟩)] w fun v w' => ∃ u ks us sv, v = .agg (IL s u ks sv).toArray ∧
  V w0 w' (kF 21 .i32 u s.c.L • Row 24 1 ks s.c.E.length us • Gl 21 .i32 us (kR s.c.E s.c.at_) • Row 152 2 sv s.saved.length (s.saved.flatMap pF) • gQ e s • F) := by
 refine jl func21 ntmps21 ?_
 obtain ⟨vC, wF, wG, xC, wH, wI, wJ, wK, vF, rW, rX, rY, rZ, su, sD, sH, sJ, sK, sN, sO, gB, dF, kK, gG⟩ := (H).Gs
 have hU : (s.c.un s.c.place).length ≤ 16384 := by
  obtain ⟨D, P, hD1, hD2, HU⟩ := (gG.f6).aek
  by_cases hm : s.c.place ∈ D
  ·have HF := HU.swap
   rw [AL hm] at HF
   obtain ⟨_, _, _, _, k1, _⟩ := HF.flat.Du
   have := k1.len; simpa using this
  ·rw [hD2 _ hm]; decide
 refine kQ (jT (iI (l := [_, _, _, _, _, _, _, _, _, _, _, _, _, _, _, _, _]) gG kL O) ?_)
 rintro _ w2 ⟨b2, rfl, H2⟩
 refine uV (bT O (fH O func22 (JU H2.f2) ?_))
 rintro _ _ ⟨rfl, rfl⟩
 refine iR (yh (gX ?_))
 refine yV [(0, _)] (fun (⟨r, q, u, ks, sv, us⟩ : Nat × Nat × Value × Value × Value × List Value) => [(2, .pointer (some ⟨r, 0, none⟩)), (3, .pointer (some ⟨q, 0, none⟩))]) (fun (⟨r, q, u, ks, sv, us⟩ : Nat × Nat × Value × Value × Value × List Value) W => V w0 W (gU q (.cells (u :: .int .i64 s.c.pt :: .int .i64 s.c.mark :: .int .i64 s.c.mode :: .bool s.c.over :: .bool s.given :: .bool s.minus :: .int .i64 s.arg :: .int .i64 s.c.last :: .int .i64 s.c.fr :: .int .i64 s.c.to :: ks :: .int .i64 s.c.place :: sv :: .int .i64 s.JG :: .int .i64 s.c.res :: .int .i64 s.nR :: []).toArray 75 (0, 0)) • kF 21 .i32 u s.c.L • Row 24 1 ks s.c.E.length us • Gl 21 .i32 us (kR s.c.E s.c.at_) • Row 152 2 sv s.saved.length (s.saved.flatMap pF) • gU e (.cells (.pointer (some ⟨vC, 0, none⟩) :: .pointer (some ⟨wF, 0, none⟩) :: .pointer (some ⟨wG, 0, none⟩) :: .map (some wH) :: .int .i64 s.c.mode :: .bool s.c.over :: .int .i64 s.c.last :: .int .i64 s.c.fr :: .int .i64 s.c.to :: .int .i64 s.c.res :: .bool s.c.run :: .pointer (some ⟨wI, 0, none⟩) :: .pointer (some ⟨wJ, 0, none⟩) :: .bool s.given :: .bool s.minus :: .int .i64 s.arg :: .bool s.inn :: rW :: rX :: rY :: rZ :: su :: sD :: sH :: sJ :: sK :: sN :: sO :: .int .i64 s.cls :: .bool s.lS :: .bool s.jc :: .bool s.argues :: .bool s.whole :: wK :: []).toArray 85 (0, 0)) • jC vC s.c.L s.c.pt s.c.mark • iG wF s.c.E s.c.at_ • gU wG (.cells #[.int .i64 s.c.place, .map (some xC)] 123 (0, 0)) • lV zH xC (zI s.c.tx) • DX wH s.c.un • jM wI s.hl s.base s.most • gU wJ (.cells #[.int .i64 s.nR] 112 (0, 0)) • Row 143 3 wK s.put.length (vF.flatMap gJ.enc) • oK vF • Dy s.inn s.was [rW, rX, rY, rZ, su, sD, sH, sJ, sK, sN, sO] • gU r (.cells (.slice none 0 0 :: .int .i64 0 :: .int .i64 0 :: .int .i64 0 :: .bool false :: .bool false :: .bool false :: .int .i64 0 :: .int .i64 0 :: .int .i64 0 :: .int .i64 0 :: .slice none 0 0 :: .int .i64 0 :: .slice none 0 0 :: .int .i64 0 :: .int .i64 0 :: .int .i64 0 :: []).toArray 75 (0, 0)) • F)) rJ ?_ ?_
 ·rintro ⟨r, q, u, ks, sv, us⟩ w4 HJ
  dsimp only [List.cons_append, List.nil_append]
  refine aI (bT O (dM O (bg 16 aj O aN O (dQ bn O (HJ.f6).get.2 O (jo O (fun h1 => ?_) (fun h1 => ?_))))))
  ·(try simp only [aG] at h1)
   have hin := h1
   obtain ⟨rfl, rfl, rfl⟩ := acW hin HJ.f16
   have ajT := HJ.drew
   have DF := V.kp (ajT.right.f16.f16.f16.f16.f16.f16.f16.f16.f16.f16.f16.f16.f16.f16.f16.f16)
   refine tH [4, 9, 14] DF O (fM 0 O DF O (jF 1 O DF O (eP 2 O DF 17 aj O aU O (eP 3 O DF 6 aK O ah O (iD 4 O DF (fun W hW => jk ay O ((Kp.h hW).f5).get.2 O) (fM 5 O DF O (jF 6 O DF O (eP 7 O DF 17 aj O aU O (eP 8 O DF 7 aK O ah O (iD 9 O DF (fun W hW => jk ay O ((Kp.h hW).f5).get.2 O) (fM 10 O DF O (jF 11 O DF O (eP 12 O DF 17 aj O aU O (eP 13 O DF 8 aK O ah O (iD 14 O DF (fun W hW => jk ay O ((Kp.h hW).f5).get.2 O) (eP 15 O DF 8 aW O ah O ?_))))))))))))))))
   refine gW 16 O (by kernel_rfl) (afU 8 ajT ah) ?_
   rintro _ w5 H5
   have zQ := V.kp (H5.right.f16.f16.f16.f16.f16.f16.f16.f16.f16.f16.f16.f16.f16.f16.f16.f16)
   refine dZ zQ (fun W hW => (Kp.h hW).f16.f16.f16.f16.f16.f16.f16.f16.f16.f16.f16.f16.f16.f16.f16.f16) ?_
   refine eP 17 O zQ 9 aW O ah O ?_
   refine gW 18 O (by kernel_rfl) (afU 9 H5 ah) ?_
   rintro _ w6 H6
   have Am := V.kp (H6.f17.f17.f17.f17.f17.f17.f17.f17.f17.f17.f17.f17.f17.f17.f17.f17.f17)
   refine dZ Am (fun W hW => (Kp.h hW).right.f16.f16.f16.f16.f16.f16.f16.f16.f16.f16.f16.f16.f16.f16.f16.f16) ?_
   refine eP 19 O Am 10 aW O ah O ?_
   refine gW 20 O (by kernel_rfl) (afU 10 H6 ah) ?_
   rintro _ w7 H7
   have Ak := V.kp (H7.f17.f17.f17.f17.f17.f17.f17.f17.f17.f17.f17.f17.f17.f17.f17.f17.f17)
   refine dX Ak (by kernel_rfl) ?_
   refine oH (aZ (kQ (aT (dU aW O oI O O (H7).get.2) (aH (dR 0 (l' := [_, _, _, _, _, _, _, _, _, _, _, _, _, _, _, _, _]) (us := [_, _, _, _, _, _, _, _, _, _, _, _, _, _, _, _, _]) H7.f17 oI O O O (bD (by first | rfl | exact Rd.one ((H7.f2).aJ)) (aP (aP (aP (aP (aP (aP (aP (aP (aP (aP (bD (by first | rfl | exact Rd.one ((H7.f3).aJ)) (aP (bD (by first | rfl | exact Rd.one ((H7.f5).aJ)) (aP (aP (aP bW))))))))))))))))) O O) ?_))))
   rintro _ w8 H8
   refine zkc ?_
   refine wW (.inl O) (Oj results21 O aW O (by rw [ae3]; rfl) (H8).get.2) ?_
   have Iy := H8.f17.f17.f17.f17.f17.f17.f17.f17.f17.f17.f17
   have GK := V.iC (s := s) gB dF Iy
   refine ⟨u, ks, us, sv, ?_, GK.f2.right.f2.right.f5.f5.f5.f5⟩
   unfold IL aX.yx aX.Ox aX.Qi
   rw [hin]
   rfl
  ·(try simp only [aG] at h1)
   have hin := h1
   refine gX (kQ (aT (dU aW O oI O O (HJ).get.2) (aH (dR 0 (l' := [_, _, _, _, _, _, _, _, _, _, _, _, _, _, _, _, _]) (us := [_, _, _, _, _, _, _, _, _, _, _, _, _, _, _, _, _]) HJ.f17 oI O O O (bD (by first | rfl | exact Rd.one ((HJ.f2).aJ)) (aP (aP (aP (aP (aP (aP (aP (aP (aP (aP (bD (by first | rfl | exact Rd.one ((HJ.f3).aJ)) (aP (bD (by first | rfl | exact Rd.one ((HJ.f5).aJ)) (aP (aP (aP bW))))))))))))))))) O O) ?_)))
   rintro _ w12 uP
   refine zkc ?_
   refine wW (.inl O) (Oj results21 O aW O (by rw [ae3]; rfl) (uP).get.2) ?_
   have LX := uP.f17.f17.f17.f17.f17.f17.f17.f17.f17.f17.f17
   have Fz := V.iC (s := s) gB dF LX
   refine ⟨u, ks, us, sv, ?_, Fz.f2.right.f2.right.f5.f5.f5.f5⟩
   unfold IL aX.yx aX.Ox aX.Qi
   rw [hin]
   rfl
 ·skip
  have ae4 := H2.drew
  have jg := V.kp (ae4.f7.right.f7.right.f10.f10.f10.f10.f10.f10.f10.f10.f10.f10)
  refine tH [6, 11, 15, 19, 23, 28, 33, 38, 45, 48, 57, 61] jg O (fM 0 O jg O (fM 2 O jg O (jF 3 O jg O (eP 4 O jg 0 aj O aU O (eP 5 O jg 4 aK O ah O (iD 6 O jg (fun W hW => jk ay O ((Kp.h hW).f2).get.2 O) (fM 7 O jg O (jF 8 O jg O (eP 9 O jg 0 aj O aU O (eP 10 O jg 5 aK O aN O (iD 11 O jg (fun W hW => jk bn O ((Kp.h hW).f2).get.2 O) (fM 12 O jg O (jF 13 O jg O (eP 14 O jg 13 aj O aN O (iD 15 O jg (fun W hW => jk bn O ((Kp.h hW).f2).get.2 O) (fM 16 O jg O (jF 17 O jg O (eP 18 O jg 14 aj O aN O (iD 19 O jg (fun W hW => jk bn O ((Kp.h hW).f2).get.2 O) (fM 20 O jg O (jF 21 O jg O (eP 22 O jg 15 aj O ah O (iD 23 O jg (fun W hW => jk ay O ((Kp.h hW).f2).get.2 O) (fM 24 O jg O (jF 25 O jg O (eP 26 O jg 0 aj O aU O (eP 27 O jg 6 aK O ah O (iD 28 O jg (fun W hW => jk ay O ((Kp.h hW).f2).get.2 O) (fM 29 O jg O (jF 30 O jg O (eP 31 O jg 0 aj O aU O (eP 32 O jg 7 aK O ah O (iD 33 O jg (fun W hW => jk ay O ((Kp.h hW).f2).get.2 O) (fM 34 O jg O (jF 35 O jg O (eP 36 O jg 0 aj O aU O (eP 37 O jg 8 aK O ah O (iD 38 O jg (fun W hW => jk ay O ((Kp.h hW).f2).get.2 O) (fM 39 O jg O ?_)))))))))))))))))))))))))))))))))))))))
  refine fM 41 O jg O (jF 42 O jg O (eP 43 O jg 0 aj O aU O (eP 44 O jg 2 aK O qc O (iD 45 O jg (fun W hW => jk lZ O ((Kp.h hW).f2).get.2 O) (jF 46 O jg O (eP 47 O jg 0 iF O ah O (iD 48 O jg (fun W hW => jk ay O ((Kp.h hW).f5).get.2 O) (fM 49 O jg O (fM 51 O jg O (fM 53 O jg O (jF 54 O jg O (eP 55 O jg 0 aj O aU O (eP 56 O jg 9 aK O ah O (iD 57 O jg (fun W hW => jk ay O ((Kp.h hW).f2).get.2 O) (fM 58 O jg O (jF 59 O jg O (eP 60 O jg 12 aj O sizeOf83 O (iD 61 O jg (fun W hW => jk underlying83 O ((Kp.h hW).f2).get.2 O) ?_))))))))))))))))))
  refine FX (i := 1) (j := 64) (by kernel_rfl) ?_ ?_
  ·skip
   refine pK 1 O (by kernel_rfl) (nM (nX O func54 O O) (PI ae4.f3.f3)) (iO O) ?_
   rintro _ w16 ⟨u16, rfl, yG⟩
   have GL := V.kp (yG.f8.right.f8.right.f11.f11.f11.f11.f11.f11.f11.f11.f11.f11.f11)
   refine dZ GL (fun W hW => (Kp.h hW).right.f10.f10.f10.f10.f10.f10.f10.f9.f9.f10) ?_
   refine FX (i := 40) (j := 64) (by kernel_rfl) ?_ ?_
   ·skip
    refine pK 40 O (by kernel_rfl) (nM (nX O func59 O O) (Eo yG.f5.f3)) (iO O) ?_
    rintro u17 ZI ⟨amZ, DL⟩
    have BR := V.kp (DL.f10.right.f10.right.f13.f13.f13.f13.f13.f13.f13.f13.f13.f13.f13.f13.f13)
    refine dZ BR (fun W hW => (Kp.h hW).right.right.f11.f11.f11.f11.f11.f11.f8.f11.f11.f10.f11) ?_
    refine FX (i := 50) (j := 64) (by kernel_rfl) ?_ ?_
    ·skip
     refine pK 50 O (by kernel_rfl) (nM (nX O func75 O O) (Ep DL.f11.f10.f10.f6)) (iO O) ?_
     rintro u18 U5 DN
     have Bz := V.kp (DN.f12.right.f15.f15.f15.f15.f15.f15.f15.f15.f15.f15.f15.f15.f15.f15.f15)
     refine dZ Bz (fun W hW => (Kp.h hW).right.f4.right.f13.f13.f13.f13.f7.f7.f13.f13.f13.f13.f11.f13.f13) ?_
     refine FX (i := 52) (j := 64) (by kernel_rfl) ?_ ?_
     ·skip
      refine pK 52 O (by kernel_rfl) (nM (nX O func76 O O) (Ae DN.f14.f13.f5.f5 hU)) (iO O) ?_
      rintro _ X9 ⟨rfl, Df⟩
      have EW := V.kp (Df.f16.f16.f16.f16.f16.f16.f16.f16.f16.f16.f16.f16.f16.f16.f16.f16)
      refine dZ EW (fun W hW => (Kp.h hW).f3.right.f15.f15.f5.f15.f15.f15.f15.f15.f15.f15.f15.f15.f14.f14.f15) ?_
      refine FX (i := 62) (j := 64) (by kernel_rfl) ?_ ?_
      ·skip
       refine pK 62 O (by kernel_rfl) (nM (nX O func77 O O) (yQ Df.f14)) (iO O) ?_
       rintro _ _ ⟨rfl, rfl⟩
       have GX := V.kp (Df.f16.f16.f16.f16.f16.f16.f16.f16.f16.f16.f16.f16.f16.f16.f16.f16)
       refine dZ GX (fun W hW => (Kp.h hW).f16.f16.f16.f16.f16.f16.f16.f16.f16.f16.f16.f16.f16.f16.f16.f16) ?_
       refine iE 63 O GX (fun _ => iT (zl := [.slice none 0 0, .int .i64 0, .int .i64 0, .int .i64 0, .bool false, .bool false, .bool false, .int .i64 0, .int .i64 0, .int .i64 0, .int .i64 0, .slice none 0 0, .int .i64 0, .slice none 0 0, .int .i64 0, .int .i64 0, .int .i64 0]) (pl := [(0, 3), (3, 1), (4, 1), (5, 1), (6, 1), (7, 1), (8, 1), (9, 1), (10, 1), (11, 1), (12, 1), (13, 1), (14, 1), (15, 1), (16, 1)]) [_, _, _, _, _, _, _, _, _, _, _, _, _, _, _, _, _] aW kL O (fun w => by kernel_rfl) O (.agg (us := [_, _, _]) (zs := [.slice none 0 0, .int .i64 0, .int .i64 0]) O O (.on (.on (.on (.on (.on (.on (.on (.on (.one (Rd.one ((Df.f8).aJ)) (.on (.one (Rd.one ((Df.f5).aJ)) (.on (.on (.on .nil))))))))))))))) O) ?_
       refine lC 64 O (iI (l := [_, _, _, _, _, _, _, _, _, _, _, _, _, _, _, _, _]) Df kL O) ?_
       rintro _ Ya ⟨b21, rfl, xZ⟩
       have Hg := V.kp (xZ.f17.f17.f17.f17.f17.f17.f17.f17.f17.f17.f17.f17.f17.f17.f17.f17.f17)
       refine dZ Hg (fun W hW => (Kp.h hW).right.f16.f16.f16.f16.f16.f16.f16.f16.f16.f16.f16.f16.f16.f16.f16.f16) ?_
       refine gW 65 O (by kernel_rfl) (dR 0 (l' := [_, _, _, _, _, _, _, _, _, _, _, _, _, _, _, _, _]) (us := [_, _, _, _, _, _, _, _, _, _, _, _, _, _, _, _, _]) xZ oI O O O (bD (by first | rfl | exact Rd.one ((xZ.f12).aJ)) (aP (aP (aP (aP (aP (aP (aP (aP (aP (aP (bD (by first | rfl | exact Rd.one ((xZ.f9).aJ)) (aP (bD (by first | rfl | exact Rd.one ((xZ.f6).aJ)) (aP (aP (aP bW))))))))))))))))) O O) ?_
       rintro _ w22 FI
       have EX := V.kp (FI.f17.f17.f17.f17.f17.f17.f17.f17.f17.f17.f17.f17.f17.f17.f17.f17.f17)
       refine dX EX (by kernel_rfl) ?_
       refine oH ?_
       refine ji (_, _, _, _, _, _) vV rJ (by (try dsimp only); exact FI.f14.f17.f17.f8.f17.f12.f10.f12.f11.f15.f17.f13.f14.f16.f16.f17.f17)
      ·skip
       refine pK 64 O (by kernel_rfl) (iI (l := [_, _, _, _, _, _, _, _, _, _, _, _, _, _, _, _, _]) Df kL O) (iO O) ?_
       rintro _ Yb ⟨b23, rfl, BM⟩
       have AB := V.kp (BM.f17.f17.f17.f17.f17.f17.f17.f17.f17.f17.f17.f17.f17.f17.f17.f17.f17)
       refine dZ AB (fun W hW => (Kp.h hW).right.f16.f16.f16.f16.f16.f16.f16.f16.f16.f16.f16.f16.f16.f16.f16.f16) ?_
       refine lC 62 O (qW O func77 (yQ BM.f15)) ?_
       rintro _ _ ⟨rfl, rfl⟩
       have GY := V.kp (BM.f17.f17.f17.f17.f17.f17.f17.f17.f17.f17.f17.f17.f17.f17.f17.f17.f17)
       refine dZ GY (fun W hW => (Kp.h hW).f17.f17.f17.f17.f17.f17.f17.f17.f17.f17.f17.f17.f17.f17.f17.f17.f17) ?_
       refine iE 63 O GY (fun _ => iT (zl := [.slice none 0 0, .int .i64 0, .int .i64 0, .int .i64 0, .bool false, .bool false, .bool false, .int .i64 0, .int .i64 0, .int .i64 0, .int .i64 0, .slice none 0 0, .int .i64 0, .slice none 0 0, .int .i64 0, .int .i64 0, .int .i64 0]) (pl := [(0, 3), (3, 1), (4, 1), (5, 1), (6, 1), (7, 1), (8, 1), (9, 1), (10, 1), (11, 1), (12, 1), (13, 1), (14, 1), (15, 1), (16, 1)]) [_, _, _, _, _, _, _, _, _, _, _, _, _, _, _, _, _] aW kL O (fun w => by kernel_rfl) O (.agg (us := [_, _, _]) (zs := [.slice none 0 0, .int .i64 0, .int .i64 0]) O O (.on (.on (.on (.on (.on (.on (.on (.on (.one (Rd.one ((BM.f9).aJ)) (.on (.one (Rd.one ((BM.f6).aJ)) (.on (.on (.on .nil))))))))))))))) O) ?_
       refine gW 65 O (by kernel_rfl) (dR 0 (l' := [_, _, _, _, _, _, _, _, _, _, _, _, _, _, _, _, _]) (us := [_, _, _, _, _, _, _, _, _, _, _, _, _, _, _, _, _]) BM oI O O O (bD (by first | rfl | exact Rd.one ((BM.f12).aJ)) (aP (aP (aP (aP (aP (aP (aP (aP (aP (aP (bD (by first | rfl | exact Rd.one ((BM.f9).aJ)) (aP (bD (by first | rfl | exact Rd.one ((BM.f6).aJ)) (aP (aP (aP bW))))))))))))))))) O O) ?_
       rintro _ w25 Jo
       have Cc := V.kp (Jo.f17.f17.f17.f17.f17.f17.f17.f17.f17.f17.f17.f17.f17.f17.f17.f17.f17)
       refine dX Cc (by kernel_rfl) ?_
       refine oH ?_
       refine ji (_, _, _, _, _, _) vV rJ (by (try dsimp only); exact Jo.f14.f17.f17.f8.f17.f12.f10.f12.f11.f15.f17.f13.f14.f16.f16.f17.f17)
     ·skip
      refine pK 64 O (by kernel_rfl) (iI (l := [_, _, _, _, _, _, _, _, _, _, _, _, _, _, _, _, _]) DN kL O) (iO O) ?_
      rintro _ w26 ⟨b26, rfl, FK⟩
      have ND := V.kp (FK.f13.right.f16.f16.f16.f16.f16.f16.f16.f16.f16.f16.f16.f16.f16.f16.f16.f16)
      refine dZ ND (fun W hW => (Kp.h hW).right.f15.f15.f15.f15.f15.f15.f15.f15.f15.f15.f15.f15.f15.f15.f15) ?_
      refine lC 52 O (qW O func76 (Ae FK.f15.f14.f6.f6 hU)) ?_
      rintro _ w27 ⟨rfl, KT⟩
      have Ji := V.kp (KT.f17.f17.f17.f17.f17.f17.f17.f17.f17.f17.f17.f17.f17.f17.f17.f17.f17)
      refine dZ Ji (fun W hW => (Kp.h hW).f3.right.f16.f16.f5.f16.f16.f16.f16.f16.f16.f16.f16.f16.f14.f14.f16.f16) ?_
      refine lC 62 O (qW O func77 (yQ KT.f15)) ?_
      rintro _ _ ⟨rfl, rfl⟩
      have Jh := V.kp (KT.f17.f17.f17.f17.f17.f17.f17.f17.f17.f17.f17.f17.f17.f17.f17.f17.f17)
      refine dZ Jh (fun W hW => (Kp.h hW).f17.f17.f17.f17.f17.f17.f17.f17.f17.f17.f17.f17.f17.f17.f17.f17.f17) ?_
      refine iE 63 O Jh (fun _ => iT (zl := [.slice none 0 0, .int .i64 0, .int .i64 0, .int .i64 0, .bool false, .bool false, .bool false, .int .i64 0, .int .i64 0, .int .i64 0, .int .i64 0, .slice none 0 0, .int .i64 0, .slice none 0 0, .int .i64 0, .int .i64 0, .int .i64 0]) (pl := [(0, 3), (3, 1), (4, 1), (5, 1), (6, 1), (7, 1), (8, 1), (9, 1), (10, 1), (11, 1), (12, 1), (13, 1), (14, 1), (15, 1), (16, 1)]) [_, _, _, _, _, _, _, _, _, _, _, _, _, _, _, _, _] aW kL O (fun w => by kernel_rfl) O (.agg (us := [_, _, _]) (zs := [.slice none 0 0, .int .i64 0, .int .i64 0]) O O (.on (.on (.on (.on (.on (.on (.on (.on (.one (Rd.one ((KT.f9).aJ)) (.on (.one (Rd.one ((KT.f6).aJ)) (.on (.on (.on .nil))))))))))))))) O) ?_
      refine gW 65 O (by kernel_rfl) (dR 0 (l' := [_, _, _, _, _, _, _, _, _, _, _, _, _, _, _, _, _]) (us := [_, _, _, _, _, _, _, _, _, _, _, _, _, _, _, _, _]) KT.f5 oI O O O (bD (by first | rfl | exact Rd.one ((KT.f12).aJ)) (aP (aP (aP (aP (aP (aP (aP (aP (aP (aP (bD (by first | rfl | exact Rd.one ((KT.f9).aJ)) (aP (bD (by first | rfl | exact Rd.one ((KT.f6).aJ)) (aP (aP (aP bW))))))))))))))))) O O) ?_
      rintro _ w29 N9
      have Tz := V.kp (N9.f17.f17.f17.f17.f17.f17.f17.f17.f17.f17.f17.f17.f17.f17.f17.f17.f17)
      refine dX Tz (by kernel_rfl) ?_
      refine oH ?_
      refine ji (_, _, _, _, _, _) vV rJ (by (try dsimp only); exact N9.f14.f17.f17.f8.f17.f12.f10.f12.f11.f15.f17.f13.f14.f16.f16.f17.f17)
    ·skip
     refine pK 64 O (by kernel_rfl) (iI (l := [_, _, _, _, _, _, _, _, _, _, _, _, _, _, _, _, _]) DL kL O) (iO O) ?_
     rintro _ w30 ⟨b30, rfl, P9⟩
     have JV := V.kp (P9.f11.right.f11.right.f14.f14.f14.f14.f14.f14.f14.f14.f14.f14.f14.f14.f14.f14)
     refine dZ JV (fun W hW => (Kp.h hW).right.f13.f13.f13.f13.f13.f13.f13.f13.f13.f13.f13.f13.f13) ?_
     refine lC 50 O (qW O func75 (Ep P9.f12.f11.f11.f7)) ?_
     rintro u31 w31 TW
     have SV := V.kp (TW.f13.right.f16.f16.f16.f16.f16.f16.f16.f16.f16.f16.f16.f16.f16.f16.f16.f16)
     refine dZ SV (fun W hW => (Kp.h hW).right.f4.right.f14.f14.f14.f14.f7.f7.f14.f14.f14.f14.f11.f14.f14.f14) ?_
     refine lC 52 O (qW O func76 (Ae TW.f15.f14.f5.f5 hU)) ?_
     rintro _ w32 ⟨rfl, TY⟩
     have abP := V.kp (TY.f17.f17.f17.f17.f17.f17.f17.f17.f17.f17.f17.f17.f17.f17.f17.f17.f17)
     refine dZ abP (fun W hW => (Kp.h hW).f3.right.f16.f16.f5.f16.f16.f16.f16.f16.f16.f16.f16.f16.f16.f15.f15.f16) ?_
     refine lC 62 O (qW O func77 (yQ TY.f15)) ?_
     rintro _ _ ⟨rfl, rfl⟩
     have abQ := V.kp (TY.f17.f17.f17.f17.f17.f17.f17.f17.f17.f17.f17.f17.f17.f17.f17.f17.f17)
     refine dZ abQ (fun W hW => (Kp.h hW).f17.f17.f17.f17.f17.f17.f17.f17.f17.f17.f17.f17.f17.f17.f17.f17.f17) ?_
     refine iE 63 O abQ (fun _ => iT (zl := [.slice none 0 0, .int .i64 0, .int .i64 0, .int .i64 0, .bool false, .bool false, .bool false, .int .i64 0, .int .i64 0, .int .i64 0, .int .i64 0, .slice none 0 0, .int .i64 0, .slice none 0 0, .int .i64 0, .int .i64 0, .int .i64 0]) (pl := [(0, 3), (3, 1), (4, 1), (5, 1), (6, 1), (7, 1), (8, 1), (9, 1), (10, 1), (11, 1), (12, 1), (13, 1), (14, 1), (15, 1), (16, 1)]) [_, _, _, _, _, _, _, _, _, _, _, _, _, _, _, _, _] aW kL O (fun w => by kernel_rfl) O (.agg (us := [_, _, _]) (zs := [.slice none 0 0, .int .i64 0, .int .i64 0]) O O (.on (.on (.on (.on (.on (.on (.on (.on (.one (Rd.one ((TY.f9).aJ)) (.on (.one (Rd.one ((TY.f5).aJ)) (.on (.on (.on .nil))))))))))))))) O) ?_
     refine gW 65 O (by kernel_rfl) (dR 0 (l' := [_, _, _, _, _, _, _, _, _, _, _, _, _, _, _, _, _]) (us := [_, _, _, _, _, _, _, _, _, _, _, _, _, _, _, _, _]) TY.f8 oI O O O (bD (by first | rfl | exact Rd.one ((TY.f12).aJ)) (aP (aP (aP (aP (aP (aP (aP (aP (aP (aP (bD (by first | rfl | exact Rd.one ((TY.f9).aJ)) (aP (bD (by first | rfl | exact Rd.one ((TY.f5).aJ)) (aP (aP (aP bW))))))))))))))))) O O) ?_
     rintro _ w34 Yy
     have Ld := V.kp (Yy.f17.f17.f17.f17.f17.f17.f17.f17.f17.f17.f17.f17.f17.f17.f17.f17.f17)
     refine dX Ld (by kernel_rfl) ?_
     refine oH ?_
     refine ji (_, _, _, _, _, _) vV rJ (by (try dsimp only); exact Yy.f14.f17.f17.f8.f17.f12.f10.f12.f11.f15.f17.f13.f14.f16.f16.f17.f17)
   ·skip
    refine pK 64 O (by kernel_rfl) (iI (l := [_, _, _, _, _, _, _, _, _, _, _, _, _, _, _, _, _]) yG kL O) (iO O) ?_
    rintro _ w35 ⟨b35, rfl, H35⟩
    have SX := V.kp (H35.f9.right.f9.right.f12.f12.f12.f12.f12.f12.f12.f12.f12.f12.f12.f12)
    refine dZ SX (fun W hW => (Kp.h hW).right.f11.f11.f11.f11.f11.f11.f11.f11.f11.f11.f11) ?_
    refine lC 40 O (qW O func59 (Eo H35.f6.f4)) ?_
    rintro u36 w36 ⟨am0, H36⟩
    have Zj := V.kp (H36.f11.right.f11.right.f14.f14.f14.f14.f14.f14.f14.f14.f14.f14.f14.f14.f14.f14)
    refine dZ Zj (fun W hW => (Kp.h hW).right.right.f12.f12.f12.f12.f12.f12.f8.f12.f12.f10.f12.f12) ?_
    refine lC 50 O (qW O func75 (Ep H36.f12.f11.f11.f6)) ?_
    rintro u37 w37 H37
    have aeV := V.kp (H37.f13.right.f16.f16.f16.f16.f16.f16.f16.f16.f16.f16.f16.f16.f16.f16.f16.f16)
    refine dZ aeV (fun W hW => (Kp.h hW).right.f4.right.f14.f14.f14.f14.f7.f7.f14.f14.f14.f14.f14.f12.f14.f14) ?_
    refine lC 52 O (qW O func76 (Ae H37.f15.f14.f5.f5 hU)) ?_
    rintro _ w38 ⟨rfl, Ve⟩
    have ajU := V.kp (Ve.f17.f17.f17.f17.f17.f17.f17.f17.f17.f17.f17.f17.f17.f17.f17.f17.f17)
    refine dZ ajU (fun W hW => (Kp.h hW).f3.right.f16.f16.f5.f16.f16.f16.f16.f16.f16.f16.f16.f16.f16.f15.f15.f16) ?_
    refine lC 62 O (qW O func77 (yQ Ve.f15)) ?_
    rintro _ _ ⟨rfl, rfl⟩
    have Y5 := V.kp (Ve.f17.f17.f17.f17.f17.f17.f17.f17.f17.f17.f17.f17.f17.f17.f17.f17.f17)
    refine dZ Y5 (fun W hW => (Kp.h hW).f17.f17.f17.f17.f17.f17.f17.f17.f17.f17.f17.f17.f17.f17.f17.f17.f17) ?_
    refine iE 63 O Y5 (fun _ => iT (zl := [.slice none 0 0, .int .i64 0, .int .i64 0, .int .i64 0, .bool false, .bool false, .bool false, .int .i64 0, .int .i64 0, .int .i64 0, .int .i64 0, .slice none 0 0, .int .i64 0, .slice none 0 0, .int .i64 0, .int .i64 0, .int .i64 0]) (pl := [(0, 3), (3, 1), (4, 1), (5, 1), (6, 1), (7, 1), (8, 1), (9, 1), (10, 1), (11, 1), (12, 1), (13, 1), (14, 1), (15, 1), (16, 1)]) [_, _, _, _, _, _, _, _, _, _, _, _, _, _, _, _, _] aW kL O (fun w => by kernel_rfl) O (.agg (us := [_, _, _]) (zs := [.slice none 0 0, .int .i64 0, .int .i64 0]) O O (.on (.on (.on (.on (.on (.on (.on (.on (.one (Rd.one ((Ve.f8).aJ)) (.on (.one (Rd.one ((Ve.f5).aJ)) (.on (.on (.on .nil))))))))))))))) O) ?_
    refine gW 65 O (by kernel_rfl) (dR 0 (l' := [_, _, _, _, _, _, _, _, _, _, _, _, _, _, _, _, _]) (us := [_, _, _, _, _, _, _, _, _, _, _, _, _, _, _, _, _]) Ve.f11 oI O O O (bD (by first | rfl | exact Rd.one ((Ve.f12).aJ)) (aP (aP (aP (aP (aP (aP (aP (aP (aP (aP (bD (by first | rfl | exact Rd.one ((Ve.f8).aJ)) (aP (bD (by first | rfl | exact Rd.one ((Ve.f5).aJ)) (aP (aP (aP bW))))))))))))))))) O O) ?_
    rintro _ w40 H40
    have ajV := V.kp (H40.f17.f17.f17.f17.f17.f17.f17.f17.f17.f17.f17.f17.f17.f17.f17.f17.f17)
    refine dX ajV (by kernel_rfl) ?_
    refine oH ?_
    refine ji (_, _, _, _, _, _) vV rJ (by (try dsimp only); exact H40.f14.f17.f17.f8.f17.f12.f10.f12.f11.f15.f17.f13.f14.f16.f16.f17.f17)
  ·skip
   refine pK 64 O (by kernel_rfl) (iI (l := [_, _, _, _, _, _, _, _, _, _, _, _, _, _, _, _, _]) ae4 kL O) (iO O) ?_
   rintro _ w41 ⟨b41, rfl, H41⟩
   have Vj := V.kp (H41.f8.right.f8.right.f11.f11.f11.f11.f11.f11.f11.f11.f11.f11.f11)
   refine dZ Vj (fun W hW => (Kp.h hW).right.f10.f10.f10.f10.f10.f10.f10.f10.f10.f10) ?_
   refine lC 1 O (qW O func54 (PI H41.f4.f4)) ?_
   rintro _ w42 ⟨u42, rfl, H42⟩
   have Vk := V.kp (H42.f9.right.f9.right.f12.f12.f12.f12.f12.f12.f12.f12.f12.f12.f12.f12)
   refine dZ Vk (fun W hW => (Kp.h hW).right.f11.f11.f11.f11.f11.f11.f11.f9.f9.f11.f11) ?_
   refine lC 40 O (qW O func59 (Eo H42.f6.f3)) ?_
   rintro u43 w43 ⟨am1, H43⟩
   have aes := V.kp (H43.f11.right.f11.right.f14.f14.f14.f14.f14.f14.f14.f14.f14.f14.f14.f14.f14.f14)
   refine dZ aes (fun W hW => (Kp.h hW).right.right.f12.f12.f12.f12.f12.f12.f8.f12.f12.f12.f11.f12) ?_
   refine lC 50 O (qW O func75 (Ep H43.f12.f11.f11.f6)) ?_
   rintro u44 w44 ZN
   have ajW := V.kp (ZN.f13.right.f16.f16.f16.f16.f16.f16.f16.f16.f16.f16.f16.f16.f16.f16.f16.f16)
   refine dZ ajW (fun W hW => (Kp.h hW).right.f4.right.f14.f14.f14.f14.f7.f7.f14.f14.f14.f14.f14.f12.f14.f14) ?_
   refine lC 52 O (qW O func76 (Ae ZN.f15.f14.f5.f5 hU)) ?_
   rintro _ w45 ⟨rfl, Ut⟩
   have ajX := V.kp (Ut.f17.f17.f17.f17.f17.f17.f17.f17.f17.f17.f17.f17.f17.f17.f17.f17.f17)
   refine dZ ajX (fun W hW => (Kp.h hW).f3.right.f16.f16.f5.f16.f16.f16.f16.f16.f16.f16.f16.f16.f16.f15.f15.f16) ?_
   refine lC 62 O (qW O func77 (yQ Ut.f15)) ?_
   rintro _ _ ⟨rfl, rfl⟩
   have ahf := V.kp (Ut.f17.f17.f17.f17.f17.f17.f17.f17.f17.f17.f17.f17.f17.f17.f17.f17.f17)
   refine dZ ahf (fun W hW => (Kp.h hW).f17.f17.f17.f17.f17.f17.f17.f17.f17.f17.f17.f17.f17.f17.f17.f17.f17) ?_
   refine iE 63 O ahf (fun _ => iT (zl := [.slice none 0 0, .int .i64 0, .int .i64 0, .int .i64 0, .bool false, .bool false, .bool false, .int .i64 0, .int .i64 0, .int .i64 0, .int .i64 0, .slice none 0 0, .int .i64 0, .slice none 0 0, .int .i64 0, .int .i64 0, .int .i64 0]) (pl := [(0, 3), (3, 1), (4, 1), (5, 1), (6, 1), (7, 1), (8, 1), (9, 1), (10, 1), (11, 1), (12, 1), (13, 1), (14, 1), (15, 1), (16, 1)]) [_, _, _, _, _, _, _, _, _, _, _, _, _, _, _, _, _] aW kL O (fun w => by kernel_rfl) O (.agg (us := [_, _, _]) (zs := [.slice none 0 0, .int .i64 0, .int .i64 0]) O O (.on (.on (.on (.on (.on (.on (.on (.on (.one (Rd.one ((Ut.f8).aJ)) (.on (.one (Rd.one ((Ut.f5).aJ)) (.on (.on (.on .nil))))))))))))))) O) ?_
   refine gW 65 O (by kernel_rfl) (dR 0 (l' := [_, _, _, _, _, _, _, _, _, _, _, _, _, _, _, _, _]) (us := [_, _, _, _, _, _, _, _, _, _, _, _, _, _, _, _, _]) Ut.f13 oI O O O (bD (by first | rfl | exact Rd.one ((Ut.f11).aJ)) (aP (aP (aP (aP (aP (aP (aP (aP (aP (aP (bD (by first | rfl | exact Rd.one ((Ut.f8).aJ)) (aP (bD (by first | rfl | exact Rd.one ((Ut.f5).aJ)) (aP (aP (aP bW))))))))))))))))) O O) ?_
   rintro _ w47 H47
   have ajY := V.kp (H47.f17.f17.f17.f17.f17.f17.f17.f17.f17.f17.f17.f17.f17.f17.f17.f17.f17)
   refine dX ajY (by kernel_rfl) ?_
   refine oH ?_
   refine ji (_, _, _, _, _, _) vV rJ (by (try dsimp only); exact H47.f14.f17.f17.f8.f17.f12.f10.f12.f11.f15.f17.f13.f14.f16.f16.f17.f17)
end
end Go.Proofs.YtnhhmieghbfalaaGreatDoor
end
