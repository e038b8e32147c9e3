import Derived.Test.YtnhhmieghbfalaaGreatDoorZ4
import Derived.Test.YtnhhmieghbfalaaGreatDoorZ24
import Derived.Test.YtnhhmieghbfalaaGreatDoorZ16
import Derived.Test.YtnhhmieghbfalaaGreatDoorZ17
import Derived.Test.YtnhhmieghbfalaaGreatDoorZ15
import Derived.Test.YtnhhmieghbfalaaGreatDoorZ11
set_option linter.unusedSimpArgs false
set_option linter.unusedVariables false
/- Texts of mine, joined, their names in short: REdS2 REdS3 EEdit EEditG ETyM ETyM2. -/
section
namespace Go.Proofs.YtnhhmieghbfalaaGreatDoor
open Go.RowKit
open _root_.Go.Proofs.Tryz
def Zr (hl : List rM) (tx : Int → Option ByteArray) (k : Nat) : Bool := !((fP hl tx k).toList == (BA hl k).toList)
def Fh (hl : List rM) (tx : Int → Option ByteArray) (n : Nat) : List (Int × ByteArray) := ((List.range n).filter (Zr hl tx)).map fun (k : Nat) => ((k : Int), fP hl tx k)
theorem ac2 {hl : List rM} {tx : Int → Option ByteArray} {i : Nat} (h : Zr hl tx i = true) : Fh hl tx (i + 1) = Fh hl tx i ++ [((i : Int), fP hl tx i)] := by
  unfold Fh
  rw [List.range_succ, List.filter_append, List.map_append]
  simp [h]
theorem aff {hl : List rM} {tx : Int → Option ByteArray} {i : Nat} (h : Zr hl tx i = false) : Fh hl tx (i + 1) = Fh hl tx i := by
  unfold Fh
  rw [List.range_succ, List.filter_append, List.map_append]
  simp [h]
theorem VB (hl : List rM) (tx : Int → Option ByteArray) (i : Nat) : (Fh hl tx i).length ≤ i := by
  unfold Fh
  rw [List.length_map]
  exact Nat.le_trans (List.length_filter_le _ _) (by simp)
theorem Zt (hl : List rM) (tx : Int → Option ByteArray) (place : Int) (n : Nat) : wz hl tx place n = (Fh hl tx n).filter fun x => decide (x.1 ≠ place) := by
  unfold wz Fh
  rw [List.filter_map, List.filter_filter]
  congr 2
theorem afg {l : List (Int × ByteArray)} {k : Nat} (hk : k < l.length) : (l.flatMap pF).getD (k * 2 + 0) undef = .int .i64 (l.getD k default).1 := by
  have h := congrArg (fun x => x.getD 0 undef) (mY Vx hk default)
  simp only [List.getD_eq_getElem?_getD, List.getElem?_take, List.getElem?_drop] at h ⊢
  exact h
theorem aiB {l : List (Int × ByteArray)} {k : Nat} (hk : k < l.length) : (l.flatMap pF).getD (k * 2 + 1) undef = .string (l.getD k default).2 := by
  have h := congrArg (fun x => x.getD 1 undef) (mY Vx hk default)
  simp only [List.getD_eq_getElem?_getD, List.getElem?_take, List.getElem?_drop] at h ⊢
  exact h
section
variable {w0 w : World} {F : HP} {p q y h pb pk : Nat} {x place base most pnt mk : Int} {E : List (List Int)} {at_ : Nat} {L : List Int} {wv nv : Value} {hl : List rM} {tx : Int → Option ByteArray} {m : Nat} {xs ys : List Value} {l : List ByteArray}
theorem Xx {x0 x2 x3 x4 x5 x6 x7 x8 x9 x10 x11 x12 yJ x14 x15 x16 x17 x18 x19 x20 x21 yO x23 x24 x25 yS x27 x28 x29 x30 x31 x32 yZ x34 Gn Gp Gq x38 x39 x40 x41 : Value} (H : V w0 w (gU y (.cells (x0 :: .pointer (some ⟨pb, 0, none⟩) :: x2 :: x3 :: x4 :: x5 :: x6 :: x7 :: x8 :: x9 :: x10 :: x11 :: x12 :: yJ :: x14 :: x15 :: x16 :: x17 :: x18 :: x19 :: x20 :: x21 :: yO :: x23 :: x24 :: x25 :: yS :: x27 :: x28 :: x29 :: x30 :: x31 :: x32 :: yZ :: x34 :: Gn :: Gp :: Gq :: x38 :: x39 :: x40 :: x41 :: []).toArray 58 (0, 0)) • kC pb L pnt mk • F)) : iK prog 55 #[.pointer (some ⟨y, 0, none⟩)] w fun v w' => ∃ u, v = .agg (oU u pnt mk) ∧ V w0 w' (kF 21 .i32 u L • gU y (.cells (x0 :: .pointer (some ⟨pb, 0, none⟩) :: x2 :: x3 :: x4 :: x5 :: x6 :: x7 :: x8 :: x9 :: x10 :: x11 :: x12 :: yJ :: x14 :: x15 :: x16 :: x17 :: x18 :: x19 :: x20 :: x21 :: yO :: x23 :: x24 :: x25 :: yS :: x27 :: x28 :: x29 :: x30 :: x31 :: x32 :: yZ :: x34 :: Gn :: Gp :: Gq :: x38 :: x39 :: x40 :: x41 :: []).toArray 58 (0, 0)) • kC pb L pnt mk • F) := by
 refine jl func55 ntmps55 ?_
 refine kQ (jT (iI (l := [_, _, _]) H vZ O) ?_)
 rintro _ w1 ⟨b1, rfl, H1⟩
 refine qG O (dM O (bg 1 aA O bZ O (bg 0 bf O kD O (dQ jf O (H1.f2).get.2 O (fH O func124 (PD H1.f3) ?_)))))
 rintro _ w2 ⟨u2, rfl, H2⟩
 refine aH (dR 0 (l' := [_, _, _]) (us := [_, _, _]) H2.f3 oV O O O (bD (by first | rfl | exact Rd.one ((H2).aJ)) (aP (aP bW))) O O) ?_
 rintro _ w3 H3
 refine zkc ?_
 refine wW (.inl O) (Oj results55 O iM O (by rw [U7]; rfl) (H3).get.2) ?_
 exact ⟨_, O, H3.right.f2.f3.f3⟩
theorem Ls {x0 x1 x3 x4 x5 x6 x7 x8 x9 x10 x11 x12 yJ x14 x15 x16 x17 x18 x19 x20 x21 yO x23 x24 x25 yS x27 x28 x29 x30 x31 x32 yZ x34 Gn Gp Gq x38 x39 x40 x41 : Value} (H : V w0 w (gU y (.cells (x0 :: x1 :: .pointer (some ⟨pk, 0, none⟩) :: x3 :: x4 :: x5 :: x6 :: x7 :: x8 :: x9 :: x10 :: x11 :: x12 :: yJ :: x14 :: x15 :: x16 :: x17 :: x18 :: x19 :: x20 :: x21 :: yO :: x23 :: x24 :: x25 :: yS :: x27 :: x28 :: x29 :: x30 :: x31 :: x32 :: yZ :: x34 :: Gn :: Gp :: Gq :: x38 :: x39 :: x40 :: x41 :: []).toArray 58 (0, 0)) • lI pk E at_ • F)) (hE : E.length ≤ 60 ∧ (at_ < E.length ∨ at_ = 0) ∧ ∀ e ∈ E, e.length ≤ 1024) : iK prog 60 #[.pointer (some ⟨y, 0, none⟩)] w fun v w' => ∃ us,
    V w0 w' (Row 24 1 v E.length us • vH .i32 us (kR E at_) • gU y (.cells (x0 :: x1 :: .pointer (some ⟨pk, 0, none⟩) :: x3 :: x4 :: x5 :: x6 :: x7 :: x8 :: x9 :: x10 :: x11 :: x12 :: yJ :: x14 :: x15 :: x16 :: x17 :: x18 :: x19 :: x20 :: x21 :: yO :: x23 :: x24 :: x25 :: yS :: x27 :: x28 :: x29 :: x30 :: x31 :: x32 :: yZ :: x34 :: Gn :: Gp :: Gq :: x38 :: x39 :: x40 :: x41 :: []).toArray 58 (0, 0)) • lI pk E at_ • F) := by
  refine jl func60 ntmps60 ?_
  refine kG O (bT O (dM O (bg 1 aA O bZ O (bg 1 bf O vP O (dQ tZ O (H).get.2 O (fH O func82 (JM H.f2 (by assumption)) ?_))))))
  rintro _ w1 ⟨q1, rfl, H1⟩
  refine fH O func127 (TK H1 (by assumption)) ?_
  rintro u2 w2 ⟨us2, H2⟩
  refine iJ O (dO results60 O ?_)
  exact ⟨_, H2.f3.f4.f4.f4⟩
theorem UD {x0 x1 x2 x6 x7 x8 x9 x10 x11 x12 yJ x14 x15 x16 x17 x18 x19 x20 x21 yO x23 x24 x25 yS x27 x28 x29 x30 x31 x32 yZ x34 Gn Gp Gq x38 x39 x40 x41 : Value} (H : V w0 w (gU y (.cells (x0 :: x1 :: x2 :: wv :: nv :: .int .i64 x :: x6 :: x7 :: x8 :: x9 :: x10 :: x11 :: x12 :: yJ :: x14 :: x15 :: x16 :: x17 :: x18 :: x19 :: x20 :: x21 :: yO :: x23 :: x24 :: x25 :: yS :: x27 :: x28 :: x29 :: x30 :: x31 :: x32 :: yZ :: x34 :: Gn :: Gp :: Gq :: x38 :: x39 :: x40 :: x41 :: []).toArray 58 (0, 0)) • Row 9 1 nv m ys • yK 1 wv m xs • F)) (hy : ∀ u ∈ ys, u.oneCell' = true) (hm : m ≤ 4097) : iK prog 83 #[.pointer (some ⟨y, 3, none⟩)] w fun v w' => ∃ q nv', v = .pointer (some ⟨q, 0, none⟩) ∧
  V w0 w' (gU q (.cells #[wv, nv', .int .i64 x] 49 (0, 0)) • Row 9 1 nv' m ys • gU y (.cells (x0 :: x1 :: x2 :: wv :: nv :: .int .i64 x :: x6 :: x7 :: x8 :: x9 :: x10 :: x11 :: x12 :: yJ :: x14 :: x15 :: x16 :: x17 :: x18 :: x19 :: x20 :: x21 :: yO :: x23 :: x24 :: x25 :: yS :: x27 :: x28 :: x29 :: x30 :: x31 :: x32 :: yZ :: x34 :: Gn :: Gp :: Gq :: x38 :: x39 :: x40 :: x41 :: []).toArray 58 (0, 0)) • Row 9 1 nv m ys • yK 1 wv m xs • F) := by
 refine jl func83 ntmps83 ?_
 refine kG O (aI ?_)
 have SS := H.drew
 have oD := V.kp (SS.f3.f3.f3)
 refine tH [3, 7, 12] oD O (fM 0 O oD O (jF 1 O oD O (eP 2 O oD 0 dL O lu O (iD 3 O oD (fun W hW => jk dW O ((Kp.h hW)).get.2 O) (fM 4 O oD O (jF 5 O oD O (eP 6 O oD 1 dL O lu O (iD 7 O oD (fun W hW => jk dW O ((Kp.h hW)).get.2 O) (fM 9 O oD O (jF 10 O oD O (eP 11 O oD 2 dL O ah O (iD 12 O oD (fun W hW => jk ay O ((Kp.h hW)).get.2 O) (lC 8 O (gK (SS.iV none) dW adU O O O ((SS.f2).aJ) (by assumption) (by omega) (by omega)) ?_)))))))))))))
 rintro l1 w1 H1
 have WJ := V.kp (H1.f4.f4.f4.f4)
 refine dZ WJ (fun W hW => (Kp.h hW).right.f3.f3.f3) ?_
 refine iE 13 O WJ (fun _ => iT (zl := [.slice none 0 0, .slice none 0 0, .int .i64 0]) (pl := [(0, 1), (1, 1), (2, 1)]) [_, _, _] dL zeroValue49 O (fun w => by kernel_rfl) O (.one (Rd.one ((H1.f4).oC)) (.one (Rd.one ((H1).aJ)) (.on .nil))) O) ?_
 refine lC 14 O (kZ (l := [_, _, _]) H1 O O) ?_
 rintro _ w2 ⟨b2, rfl, H2⟩
 have Bq := V.kp (H2.f5.f5.f5.f5.f5)
 refine dX Bq (by kernel_rfl) ?_
 refine iE 15 O Bq (fun _ => eH O) (oH (aZ (kN (dO results83 O ?_))))
 have HQ := H2.f5.f5.f5.f5.f5
 rw [Nat.zero_add, List.nil_append] at HQ
 exact ⟨_, _, O, HQ⟩
theorem TL {k : Int} {n : Nat} (H : V w0 w (gU q (.cells #[wv, nv, .int .i64 x] 49 (0, 0)) • Row 9 1 nv n (strs l) • F)) (hk : 0 ≤ k ∧ k < n ∧ l.length = n) : iK prog 164 #[.pointer (some ⟨q, 0, none⟩), .int .i64 k] w fun v w' => v = .tuple #[.string (l.getD k.toNat .empty), .bool true] ∧
    V w0 w' (gU q (.cells #[wv, nv, .int .i64 x] 49 (0, 0)) • Row 9 1 nv n (strs l) • F) := by
  obtain ⟨hk1, hk2, hk3⟩ := hk
  refine nO func164 ntmps164 ?_
  refine kQ (lg O (vI O (bT O (aT (fJ O O) (nS O (fun h => by exfalso; (try simp only [aG] at h); omega) (fun h1 => ?_))))))
  (try simp only [aG] at h1)
  refine bJ (cO O (bJ (cO O (bJ (dM O (bJ (bg 1 dL O lu O (bJ (dQ dW O (H).get.2 O (bJ (aT (fV ((H.f2).aJ) dW O) (bJ (aT (vT O O) (kP O O (jo O (fun h => by exfalso; (try simp only [aG] at h); omega) (fun h2 => ?_))))))))))))))))
  (try simp only [aG] at h2)
  refine gX (bT O (dM O (bg 1 dL O lu O (dQ dW O (H).get.2 O (cO O ?_)))))
  obtain ⟨bnv, onv, cnv, env⟩ := Rd.qX ((H.f2).aJ) (by omega)
  cases env
  refine aT (dP dW oM O O (by omega)) ?_
  refine aT (FW (fB (dG iW O) O (by first | exact Rd.yc ((H.f2).aJ) (by omega) | exact Rd.I8 ((H.f2).aJ) (by omega) | exact Rd.Ib ((H.f2).aJ) (by omega))) (NU (l := l) (by omega))) ?_
  refine lg O (iJ O (Fp results164 O O ?_))
  exact ⟨O, H.f2.f2⟩
theorem NV (H : V w0 w (gU q (.cells #[wv, nv, .int .i64 x] 49 (0, 0)) • Row 9 1 nv (hl.length + 1) (strs (oO hl tx)) • yK 1 wv (hl.length + 1) (strs (pz hl)) • F)) (hb : hl.length ≤ 4096) : iK prog 173 #[.pointer (some ⟨q, 0, none⟩)] w fun v w' =>
  V w0 w' (Row 203 2 v (Fh hl tx hl.length).length ((Fh hl tx hl.length).flatMap pF) • gU q (.cells #[wv, nv, .int .i64 x] 49 (0, 0)) • Row 9 1 nv (hl.length + 1) (strs (oO hl tx)) • yK 1 wv (hl.length + 1) (strs (pz hl)) • F) := by
 have hnl := rC hl tx
 have hol := G6 hl
 refine jl func173 ntmps173 ?_
 refine kG O (kG O (aI (kG O (bK ?_))))
 refine jh [(0, _)] (fun (⟨i, u⟩ : Nat × Value) => [(3, u), (4, .int .i64 (i : Int))]) (fun (⟨i, u⟩ : Nat × Value) W => i ≤ hl.length ∧ V w0 W (Row 203 2 u (Fh hl tx i).length ((Fh hl tx i).flatMap pF) • gU q (.cells #[wv, nv, .int .i64 x] 49 (0, 0)) • Row 9 1 nv (hl.length + 1) (strs (oO hl tx)) • yK 1 wv (hl.length + 1) (strs (pz hl)) • F)) (fun (⟨i, u⟩ : Nat × Value) => hl.length - i) ((0, .slice none 0 0)) rJ vV ⟨by omega, (H.f3.f3.f3).iV none⟩ ?_
 rintro ⟨i, u⟩ w1 ⟨hi, HL⟩
 dsimp only [List.cons_append, List.nil_append]
 refine aI (bT O (aT (gY O O (by omega)) (kY O O (bg 1 dL O lu O (dQ dW O (HL.f2).get.2 O (aT (fV ((HL.f3).aJ) dW O) (aT (fJ O O) (jo O (fun h1 => ?_) (fun h1 => ?_)))))))))
 ·(try simp only [aG] at h1)
  refine gX (aI (bK (aI ?_)))
  have hil : i < hl.length := by omega
  have hLen := VB hl tx i
  have e1 : (strs (oO hl tx)).getD i undef = .string (fP hl tx i) := by rw [NU (by omega), EZ (by omega)]
  have e2 : (strs (pz hl)).getD i undef = .string (BA hl i) := by rw [NU (by omega), YN (by omega)]
  have IB := HL.drew
  have nG := V.kp (IB.f4.f4.f4.f4)
  refine tH [3, 6, 10, 13] nG O (fM 0 O nG O (jF 1 O nG O (eP 2 O nG 1 dL O lu O (iD 3 O nG (fun W hW => jk dW O ((Kp.h hW).f2).get.2 O) (fM 4 O nG O ?_)))))
  obtain ⟨bnv, onv, cnv, env⟩ := Rd.qX ((IB.f3).aJ) (by omega)
  cases env
  refine iE 5 O nG (fun _ => dP dW oM O O (by omega)) ?_
  refine iD 6 O nG (fun W hW => FW (fB (dG iW O) O (by first | exact Rd.yc (((Kp.h hW).f3).aJ) (by omega) | exact Rd.I8 (((Kp.h hW).f3).aJ) (by omega) | exact Rd.Ib (((Kp.h hW).f3).aJ) (by omega))) (e1)) ?_
  refine fM 7 O nG O (jF 8 O nG O (eP 9 O nG 0 dL O lu O (iD 10 O nG (fun W hW => jk dW O ((Kp.h hW).f2).get.2 O) (fM 11 O nG O ?_))))
  obtain ⟨bwv, owv, cwv, ewv⟩ := Rd.qX ((IB.f4).oC) (by omega)
  cases ewv
  refine iE 12 O nG (fun _ => dP dW oM O O (by omega)) ?_
  refine iD 13 O nG (fun W hW => FW (fB (dG iW O) O (by first | exact Rd.yc (((Kp.h hW).f4).oC) (by omega) | exact Rd.I8 (((Kp.h hW).f4).oC) (by omega) | exact Rd.Ib (((Kp.h hW).f4).oC) (by omega))) (e2)) ?_
  refine iE 14 O nG (fun _ => UO O O) (oH (aZ (dw O (fun h2 => ?_) (fun h2 => ?_))))
  ·(try simp only [aG] at h2)
   have hsv := ac2 (hl := hl) (tx := tx) (i := i) (by unfold Zr; simpa using h2)
   refine aF (ku O O (kY O O (bg 1 dL O lu O (dQ dW O (IB.f2).get.2 O (cO O (aT (dP dW oM O O (by omega)) ?_))))))
   refine aT (FW (fB (dG iW O) O (by first | exact Rd.yc ((IB.f3).aJ) (by omega) | exact Rd.I8 ((IB.f3).aJ) (by omega) | exact Rd.Ib ((IB.f3).aJ) (by omega))) (e1)) ?_
   refine aT (iT (zl := [.int .i64 0, .string .empty]) (pl := [(0, 1), (1, 1)]) [_, _] underlying203 zeroValue203 O (fun w => by kernel_rfl) O (.on (.on .nil)) O) ?_
   refine jT (qL IB underlying200 sizeOf203 zeroValue203 O O O (by decide) (by decide)) ?_
   rintro l2 w2 H2
   refine jT (gK H2.f2 underlying200 aiC O O O ((H2).aJ) (aP (aP bW)) (by omega) (by omega)) ?_
   rintro l3 w3 H3
   have Hd4 := H3.f2.right
   refine lg O (dJ (aS (aZ (aF (cO O (aT (gY O O (by omega)) (lg O (dJ ?_))))))))
   refine fG ((i + 1, l3)) ?_ ?_ ?_ ?_
   ·exact vV
   ·exact rJ
   ·(try dsimp only)
    first | done | exact ⟨by omega, by first | (rw [hsv, List.length_append, List.flatMap_append]; exact Hd4.f4.f4.f4.f4) | (rw [hsv]; exact Hd4.f4.f4.f4.f4)⟩
   ·(try dsimp only); omega
  ·(try simp only [aG] at h2)
   have hsv := aff (hl := hl) (tx := tx) (i := i) (by unfold Zr; simpa using h2)
   refine eG (aS (aZ (aF (cO O (aT (gY O O (by omega)) (lg O (dJ ?_)))))))
   refine fG ((i + 1, u)) ?_ ?_ ?_ ?_
   ·exact vV
   ·exact rJ
   ·(try dsimp only)
    first | done | exact ⟨by omega, by first | (rw [hsv, List.length_append, List.flatMap_append]; exact IB.f4.f4.f4.f4) | (rw [hsv]; exact IB.f4.f4.f4.f4)⟩
   ·(try dsimp only); omega
 ·(try simp only [aG] at h1)
  refine iZ (bC (bC (dK (aZ (bT O (iJ O (dO results173 O ?_)))))))
  obtain rfl : i = hl.length := by omega
  exact HL.f4.f4.f4.f4
end
theorem PN {α : Type} [Inhabited α] {l : List α} {p : α → Bool} {i : Nat} (h : i < l.length) : (l.take (i + 1)).filter p = (l.take i).filter p ++ (if p (l.getD i default) then [l.getD i default] else []) := by
  rw [List.take_succ_eq_append_getElem h, List.filter_append, List.getD_eq_getElem?_getD, List.getElem?_eq_getElem h]
  simp only [Option.getD_some, List.filter_cons, List.filter_nil]
section
variable {w0 w : World} {F : HP} {y h : Nat} {place base most : Int} {wv nv : Value} {hl : List rM} {tx : Int → Option ByteArray} {s : aX}
theorem UE {x1 x2 x6 x7 x8 x9 x10 x11 x12 yJ x14 x15 x16 x17 x18 x19 x20 x21 yO x23 x24 x25 yS x27 x28 x29 x30 x31 x32 yZ x34 Gn Gp Gq x38 x39 x40 x41 : Value} (H : V w0 w (gU y (.cells (.pointer (some ⟨h, 0, none⟩) :: x1 :: x2 :: wv :: nv :: .int .i64 place :: x6 :: x7 :: x8 :: x9 :: x10 :: x11 :: x12 :: yJ :: x14 :: x15 :: x16 :: x17 :: x18 :: x19 :: x20 :: x21 :: yO :: x23 :: x24 :: x25 :: yS :: x27 :: x28 :: x29 :: x30 :: x31 :: x32 :: yZ :: x34 :: Gn :: Gp :: Gq :: x38 :: x39 :: x40 :: x41 :: []).toArray 58 (0, 0)) • yK 1 wv (hl.length + 1) (strs (pz hl)) • Row 9 1 nv (hl.length + 1) (strs (oO hl tx)) • jS h hl base most • F)) :
    iK prog 122 #[.pointer (some ⟨y, 0, none⟩)] w fun v w' => V w0 w' (Row 152 2 v (zD hl tx place).length ((zD hl tx place).flatMap pF) •
      gU y (.cells (.pointer (some ⟨h, 0, none⟩) :: x1 :: x2 :: wv :: nv :: .int .i64 place :: x6 :: x7 :: x8 :: x9 :: x10 :: x11 :: x12 :: yJ :: x14 :: x15 :: x16 :: x17 :: x18 :: x19 :: x20 :: x21 :: yO :: x23 :: x24 :: x25 :: yS :: x27 :: x28 :: x29 :: x30 :: x31 :: x32 :: yZ :: x34 :: Gn :: Gp :: Gq :: x38 :: x39 :: x40 :: x41 :: []).toArray 58 (0, 0)) • yK 1 wv (hl.length + 1) (strs (pz hl)) • Row 9 1 nv (hl.length + 1) (strs (oO hl tx)) • jS h hl base most • F) := by
  have hb : hl.length ≤ 4096 := by obtain ⟨v, h, _⟩ := (H.f4).FH; exact h.1
  have hon := @Ou (oO hl tx)
  have hnl := rC hl tx
  have hcl := VB hl tx hl.length
  obtain ⟨ch, hch⟩ : ∃ ch, ch = Fh hl tx hl.length := ⟨_, rfl⟩
  rw [← hch] at hcl
  have hfl : ∀ i, ((ch.take i).filter fun x => decide (x.1 ≠ place)).length ≤ 4096 := fun i => Nat.le_trans (List.length_filter_le _ _) (by rw [List.length_take]; omega)
  have aj0 := Zt hl tx place hl.length
  rw [← hch] at aj0
  refine jl func122 ntmps122 ?_
  refine kG O (kG O (bT O (dM O (bg 1 aA O bZ O (bg 2 bf O mJ O (fH O func83 (UD H.f2.f3.f3 (by assumption) (by omega)) ?_))))))
  rintro _ w1 ⟨q1, nv1, rfl, H1⟩
  refine iU O (bT O (fH O func173 (NV H1.f5.f3.f3 (by omega)) ?_))
  rintro u2 w2 H2
  have HC3 := H2
  rw [← hch] at HC3
  refine vI O (kG O (bK ?_))
  refine jh [(0, _), (4, _), (5, _)] (fun (⟨i, u⟩ : Nat × Value) => [(3, u), (6, .int .i64 (i : Int))]) (fun (⟨i, u⟩ : Nat × Value) W => i ≤ ch.length ∧ V w0 W (Row 152 2 u ((ch.take i).filter fun x => decide (x.1 ≠ place)).length (((ch.take i).filter fun x => decide (x.1 ≠ place)).flatMap pF) • Row 203 2 u2 ch.length (ch.flatMap pF) • gU q1 (.cells #[wv, nv1, .int .i64 place] 49 (0, 0)) • Row 9 1 nv1 (hl.length + 1) (strs (oO hl tx)) • gU y (.cells (.pointer (some ⟨h, 0, none⟩) :: x1 :: x2 :: wv :: nv :: .int .i64 place :: x6 :: x7 :: x8 :: x9 :: x10 :: x11 :: x12 :: yJ :: x14 :: x15 :: x16 :: x17 :: x18 :: x19 :: x20 :: x21 :: yO :: x23 :: x24 :: x25 :: yS :: x27 :: x28 :: x29 :: x30 :: x31 :: x32 :: yZ :: x34 :: Gn :: Gp :: Gq :: x38 :: x39 :: x40 :: x41 :: []).toArray 58 (0, 0)) • yK 1 wv (hl.length + 1) (strs (pz hl)) • Row 9 1 nv (hl.length + 1) (strs (oO hl tx)) • jS h hl base most • F)) (fun (⟨i, u⟩ : Nat × Value) => ch.length - i) ((0, .slice none 0 0)) DK vV ⟨by omega, (HC3.f7.f7.f6.f7.f7.f7.f7).iV none⟩ ?_
  rintro ⟨i, u⟩ w3 ⟨hi, HL⟩
  dsimp only [List.cons_append, List.nil_append]
  refine aI (bT O (cO O (aT (fV ((HL.f2).aJ) underlying200 O) (aT (fJ O O) (jo O (fun h1 => ?_) (fun h1 => ?_))))))
  · (try simp only [aG] at h1)
    refine gX (aI (bK (aI ?_)))
    have hil : i < ch.length := by omega
    have hfi := hfl i
    have afh := HL.drew
    have JY := V.kp (afh.f8.f8.f8.f8.f8.f8.f8.f8)
    refine tH [4, 8] JY O (fM 0 O JY O (fM 1 O JY O ?_))
    obtain ⟨bu2, ou2, cu2, eu2⟩ := Rd.qX ((afh.f2).aJ) (by omega)
    cases eu2
    refine iE 2 O JY (fun _ => dP underlying200 sizeOf203 O O (by omega)) (eP 3 O JY 0 underlying203 O ah O (iD 4 O JY (fun W hW => FW (fB (dG ay O) O (Rd.atS (((Kp.h hW).f2).aJ) (by omega) (by decide))) (afg hil)) (fM 5 O JY O (jF 6 O JY O (eP 7 O JY 2 dL O ah O (iD 8 O JY (fun W hW => jk ay O ((Kp.h hW).f3).get.2 O) (iE 9 O JY (fun _ => fF O O) (oH (aZ (dw O (fun h2 => ?_) (fun h2 => ?_)))))))))))
    · (try simp only [aG] at h2)
      have hpl : (ch.getD i default).1 ≠ place := h2
      have aj1 := afh.drew
      have Hr := V.kp (aj1.f8.f8.f8.f8.f8.f8.f8.f8)
      refine tH [5, 10] Hr O (fM 0 O Hr O (fM 1 O Hr O (fM 2 O Hr O (iE 3 O Hr (fun _ => dP underlying200 sizeOf203 O O (by omega)) (eP 4 O Hr 0 underlying203 O ah O (iD 5 O Hr (fun W hW => FW (fB (dG ay O) O (Rd.atS (((Kp.h hW).f2).aJ) (by omega) (by decide))) (afg hil)) (fM 6 O Hr O (fM 7 O Hr O (iE 8 O Hr (fun _ => dP underlying200 sizeOf203 O O (by omega)) (eP 9 O Hr 1 underlying203 O oM O (iD 10 O Hr (fun W hW => FW (fB (dG iW O) O (Rd.atS (((Kp.h hW).f2).aJ) (by omega) (by decide))) (aiB hil)) ?_)))))))))))
      refine iE 11 O Hr (fun _ => iT (zl := [.int .i64 0, .string .empty]) (pl := [(0, 1), (1, 1)]) [_, _] qV uf O (fun w => by kernel_rfl) O (.on (.on .nil)) O) ?_
      refine lC 12 O (qL aj1 iy rH uf O O O (by decide) (by decide)) ?_
      rintro l4 w4 H4
      have ng := V.kp (H4.f9.f9.f9.f9.f9.f9.f9.f9.f9)
      refine dX ng (by kernel_rfl) ?_
      refine lC 13 O (gK H4.f2 iy Xq O O O ((H4).aJ) (aP (aP bW)) (by omega) (by omega)) ?_
      rintro l5 w5 H5
      have Hd6 := H5.f2.right
      have Am := V.kp (Hd6.f8.f8.f8.f8.f8.f8.f8.f8)
      refine dX Am (by kernel_rfl) ?_
      refine iE 14 O Am (fun _ => eH O) (oH (aS (aZ (aF (cO O (aT (gY O O (by omega)) (lg O (dJ ?_))))))))
      refine fG ((i + 1, l5)) ?_ ?_ ?_ ?_
      · exact vV
      · exact DK
      · (try dsimp only)
        first | done | exact ⟨by omega, by rw [PN hil]; first | (rw [if_pos (by simpa using hpl), List.length_append, List.flatMap_append]; exact Hd6.f8.f8.f8.f8.f8.f8.f8.f8) | (rw [if_neg (by simpa using hpl), List.append_nil]; exact Hd6.f8.f8.f8.f8.f8.f8.f8.f8)⟩
      · (try dsimp only); omega
    · (try simp only [aG] at h2)
      have hpl : ¬ (ch.getD i default).1 ≠ place := by simpa using h2
      refine eG (aS (aZ (aF (cO O (aT (gY O O (by omega)) (lg O (dJ ?_)))))))
      refine fG ((i + 1, u)) ?_ ?_ ?_ ?_
      · exact vV
      · exact DK
      · (try dsimp only)
        first | done | exact ⟨by omega, by rw [PN hil]; first | (rw [if_pos (by simpa using hpl), List.length_append, List.flatMap_append]; exact afh.f8.f8.f8.f8.f8.f8.f8.f8) | (rw [if_neg (by simpa using hpl), List.append_nil]; exact afh.f8.f8.f8.f8.f8.f8.f8.f8)⟩
      · (try dsimp only); omega
  · (try simp only [aG] at h1)
    refine iZ (bC ?_)
    obtain rfl : i = ch.length := by omega
    have HQ := HL
    rw [List.take_length, ← aj0] at HQ
    have hsl := AX hl tx place hl.length
    have hkk : 0 ≤ (hl.length : Int) ∧ (hl.length : Int) < ((hl.length + 1 : Nat) : Int) ∧ (oO hl tx).length = hl.length + 1 := ⟨by omega, by omega, hnl⟩
    have hno : (oO hl tx).getD (hl.length : Int).toNat .empty = fP hl tx hl.length := by rw [Int.toNat_natCast, EZ (by omega)]
    refine bC (dK (aZ (aI (aI ?_))))
    obtain ⟨am5, alL, agA⟩ := (HQ.f8).FH
    refine aF (kY O O (bg 0 aA O sizeOf44 O (dQ xu O (agA.f7).get.2 O (dM O (bg 0 jm O lN O (dQ dN O (agA).get.2 O (aT (fV ((agA.f2).EO) dN O) (lg O ?_))))))))
    have Ho9 := agA.f2.f2
    have KL := V.Bo alL Ho9
    refine qG O (dM O (bg 2 dL O ah O (dQ ay O (KL.f4).get.2 O (cO O (aT (fF O O) (jo O (fun h3 => ?_) (fun h3 => ?_)))))))
    · (try simp only [aG] at h3)
      have hsv : zD hl tx place = wz hl tx place hl.length ++ [((hl.length : Int), fP hl tx hl.length)] := by unfold zD; rw [if_pos h3]
      refine bT O (cO O (fH O func164 (TL KL.f5.f5 (by assumption)) ?_))
      rintro _ Ii ⟨rfl, rE⟩
      rw [hno]
      refine cO O (xY O O (xY O O (lg O (iU O (aF (ku O O (cO O ?_)))))))
      refine aT (iT (zl := [.int .i64 0, .string .empty]) (pl := [(0, 1), (1, 1)]) [_, _] qV uf O (fun w => by kernel_rfl) O (.on (.on .nil)) O) ?_
      refine jT (qL rE iy rH uf O O O (by decide) (by decide)) ?_
      rintro l12 w12 uP
      refine jT (gK uP.f5 iy Xq O O O ((uP).aJ) (aP (aP bW)) (by omega) (by omega)) ?_
      rintro l13 P7 AZ
      have Y4 := AZ.f2.right
      refine iU O (bT O (iJ O (dO results122 O ?_)))
      first
        | (rw [hsv, List.length_append, List.flatMap_append]; exact Y4.f2.right.f2.right.f3.right.f2.f5.f5.f5.f5)
        | (rw [hsv]; exact Y4.f2.right.f2.right.f3.right.f2.f5.f5.f5.f5)
    · (try simp only [aG] at h3)
      have hsv : zD hl tx place = wz hl tx place hl.length := by unfold zD; rw [if_neg (by simpa using h3), List.append_nil]
      refine gX (bT O (iJ O (dO results122 O ?_)))
      first
        | (rw [hsv, List.length_append, List.flatMap_append]; exact KL.f3.right.f3.right.f3.right.f5.f5.f5.f5)
        | (rw [hsv]; exact KL.f3.right.f3.right.f3.right.f5.f5.f5.f5)
theorem Fj (hpi : s.inn = false → s.put = []) : s.JG = (s.here.length : Int) + if s.put.length = 0 then 0 else if (decide (s.cls = 3) && s.whole && s.c.run) = true then 0 else 1 := by
  unfold aX.JG zk
  rw [Zf]
  congr 1
  by_cases hp : s.put = []
  · simp [hp]
  · have hin : s.inn = true := by
      by_cases h : s.inn = true
      · exact h
      · exact absurd (hpi (by simpa using h)) hp
    have hl : ¬ s.put.length = 0 := fun h => hp (List.eq_nil_of_length_eq_zero h)
    rw [if_neg hl]
    have he : s.put.isEmpty = false := by cases h : s.put <;> simp_all
    rw [hin, he]
    by_cases hc : (decide (s.cls = 3) && s.whole && s.c.run) = true
    · simp [hc]
    · simp [hc]
set_option maxHeartbeats 1000000 in
theorem UF (H : V w0 w (dY y s • F)) (hpi : s.inn = false → s.put = []) : iK prog 52 #[.pointer (some ⟨y, 0, none⟩)] w fun v w' => ∃ u ks us sv, v = .agg (IL s u ks sv).toArray ∧
  V w0 w' (kF 21 .i32 u s.c.L • Row 24 1 ks s.c.E.length us • vH .i32 us (kR s.c.E s.c.at_) • Row 152 2 sv s.saved.length (s.saved.flatMap pF) • dY y s • F) := by
 refine jl func52 ntmps52 ?_
 obtain ⟨ED, tu, uo, uq, uw, wL, wM, EF, wO, wP, vJ, vK, wQ, uy, uz, uD, uF, uG, uH, uI, uJ, uK, uM, uN, uO, dS, lF, fU⟩ := (H).xq
 have hE9 := dS.rx.1.2
 have aic := Tq dS
 refine kQ (jT (iI (l := [_, _, _, _, _, _, _, _, _, _, _, _, _, _, _, _, _]) fU kL O) ?_)
 rintro _ w2 ⟨b2, rfl, H2⟩
 refine uV ?_
 have Jz := H2.drew
 have jL := V.kp (Jz.f13.f13.f13.f13.f13.f13.f13.f13.f13.f13.f13.f13.f13)
 refine tH [9] jL O (fM 0 O jL O (jF 1 O jL O (eP 2 O jL 1 aA O bZ O (eP 3 O jL 6 bf O xX O (fM 4 O jL O (jF 5 O jL O (eP 6 O jL 1 aA O bZ O (eP 7 O jL 2 bf O mJ O (eP 8 O jL 2 dL O ah O (iD 9 O jL (fun W hW => jk ay O ((Kp.h hW).f2).get.2 O) (lC 10 O (qW O func118 (Fa Jz.f9.f9.f9.f5)) ?_)))))))))))
 rintro u3 w3 ⟨gs3, alM, H3⟩
 obtain ⟨gu, rfl⟩ : ∃ q, q = u3 := ⟨_, rfl⟩
 obtain ⟨gs, rfl⟩ : ∃ q, q = gs3 := ⟨_, rfl⟩
 have hG : BG gs = s.here := by rw [alM, dS.Fv]; rfl
 have hgl : gs.length = s.here.length := by rw [← hG]; exact (List.length_map _).symm
 have Rn := H3.f2.f2
 have O6 := Rn
 have zQ := V.kp (O6.f15.f15.f15.f15.f15.f15.f15.f15.f15.f15.f15.f15.f15.f15.f15)
 refine dX zQ (by kernel_rfl) ?_
 refine iE 11 O zQ (fun _ => fV ((O6).oC) bP O) ?_
 have Hd6 := O6.right
 have Wx := Hd6.right
 refine iE 12 O zQ (fun _ => eH O) (oH (aZ ?_))
 refine yV [(0, _), (2, _)] (fun (_ : Unit) => [(3, .int .i64 s.JG)]) (fun (_ : Unit) W => V w0 W (gU b2 (.cells (.slice none 0 0 :: .int .i64 0 :: .int .i64 0 :: .int .i64 0 :: .bool false :: .bool false :: .bool false :: .int .i64 0 :: .int .i64 0 :: .int .i64 0 :: .int .i64 0 :: .slice none 0 0 :: .int .i64 0 :: .slice none 0 0 :: .int .i64 0 :: .int .i64 0 :: .int .i64 0 :: []).toArray 75 (0, 0)) • gU y (.cells (.pointer (some ⟨ED, 0, none⟩) :: .pointer (some ⟨tu, 0, none⟩) :: .pointer (some ⟨uo, 0, none⟩) :: uq :: uw :: .int .i64 s.c.place :: .string (fP s.hl s.c.tx s.c.place) :: wL :: wM :: .int .i64 s.c.mode :: .bool s.c.over :: .int .i64 s.c.res :: .bool s.c.run :: uy :: uz :: uD :: uF :: uG :: uH :: uI :: uJ :: uK :: uM :: uN :: uO :: .bool s.given :: .bool s.minus :: .int .i64 s.arg :: .int .i64 s.yx :: .int .i64 s.Ox :: .int .i64 s.Qi :: .int .i64 s.nR :: .bool s.inn :: .int .i64 s.cls :: .int .i64 vJ :: .int .i64 vK :: .bool s.argues :: .bool s.lS :: .bool s.jc :: wO :: .bool s.whole :: .bool wQ :: []).toArray 58 (0, 0)) • kC tu s.c.L s.c.pt s.c.mark • lI uo s.c.E s.c.at_ • yK 1 uq (s.hl.length + 1) (strs (pz s.hl)) • Row 9 1 uw (s.hl.length + 1) (strs (oO s.hl s.c.tx)) • uQ .i64 wL (EF.map (·.1)) • yK 1 wM EF.length (EF.map (·.2.1)) • xU EF • jS ED s.hl s.base s.most • Row 143 3 wO s.put.length (wP.flatMap gJ.enc) • oK wP • FB s.inn s.hl s.was [uy, uz, uD, uF, uG, uH, uI, uJ, uK, uM, uN, uO] • F)) vV ?_ ?_
 ·rintro _ w8 HJ
  dsimp only [List.cons_append, List.nil_append]
  refine aI ?_
  have aj2 := HJ.drew
  have mD := V.kp (aj2.f13.f13.f13.f13.f13.f13.f13.f13.f13.f13.f13.f13.f13)
  refine tH [6, 11, 15, 19, 23, 27, 31, 35, 43, 51, 55] mD O (fM 0 O mD O (fM 2 O mD O (jF 3 O mD O (eP 4 O mD 1 aA O bZ O (eP 5 O mD 8 bf O ah O (iD 6 O mD (fun W hW => jk ay O ((Kp.h hW).f2).get.2 O) (fM 7 O mD O (jF 8 O mD O (eP 9 O mD 1 aA O bZ O (eP 10 O mD 9 bf O aN O (iD 11 O mD (fun W hW => jk bn O ((Kp.h hW).f2).get.2 O) (fM 12 O mD O (jF 13 O mD O (eP 14 O mD 25 aA O aN O (iD 15 O mD (fun W hW => jk bn O ((Kp.h hW).f2).get.2 O) (fM 16 O mD O (jF 17 O mD O (eP 18 O mD 26 aA O aN O (iD 19 O mD (fun W hW => jk bn O ((Kp.h hW).f2).get.2 O) (fM 20 O mD O (jF 21 O mD O (eP 22 O mD 27 aA O ah O (iD 23 O mD (fun W hW => jk ay O ((Kp.h hW).f2).get.2 O) (fM 24 O mD O (jF 25 O mD O (eP 26 O mD 28 aA O ah O (iD 27 O mD (fun W hW => jk ay O ((Kp.h hW).f2).get.2 O) (fM 28 O mD O (jF 29 O mD O (eP 30 O mD 29 aA O ah O (iD 31 O mD (fun W hW => jk ay O ((Kp.h hW).f2).get.2 O) (fM 32 O mD O (jF 33 O mD O (eP 34 O mD 30 aA O ah O (iD 35 O mD (fun W hW => jk ay O ((Kp.h hW).f2).get.2 O) (fM 36 O mD O (fM 38 O mD O (jF 39 O mD O (eP 40 O mD 1 aA O bZ O ?_)))))))))))))))))))))))))))))))))))))))
  refine eP 41 O mD 2 bf O mJ O (eP 42 O mD 2 dL O ah O (iD 43 O mD (fun W hW => jk ay O ((Kp.h hW).f2).get.2 O) (fM 44 O mD O (fM 46 O mD O (fM 47 O mD O (jF 48 O mD O (eP 49 O mD 1 aA O bZ O (eP 50 O mD 10 bf O ah O (iD 51 O mD (fun W hW => jk ay O ((Kp.h hW).f2).get.2 O) (fM 52 O mD O (jF 53 O mD O (eP 54 O mD 31 aA O nC O (iD 55 O mD (fun W hW => jk nD O ((Kp.h hW).f2).get.2 O) (lC 1 O (qW O func55 (Xx aj2.f3.f3)) ?_))))))))))))))
  rintro _ w9 ⟨u9, rfl, H9⟩
  have Dw := V.kp (H9.f14.f14.f14.f14.f14.f14.f14.f14.f14.f14.f14.f14.f14.f14)
  refine dZ Dw (fun W hW => (Kp.h hW).right.f13.f13.f13.f13.f13.f13.f13.f13.f13.f13.f12.f12.f13) ?_
  refine lC 37 O (qW O func60 (Ls H9.f5.f3 (by assumption))) ?_
  rintro u10 w10 ⟨am6, rU⟩
  have D7 := V.kp (rU.f16.f16.f16.f16.f16.f16.f16.f16.f16.f16.f16.f16.f16.f16.f16.f16)
  refine dZ D7 (fun W hW => (Kp.h hW).right.right.f14.f14.f14.f14.f14.f14.f14.f14.f14.f11.f14.f14.f13.f14) ?_
  refine lC 45 O (qW O func122 (UE rU.f13.f10.f10.f6)) ?_
  rintro u11 Ii rE
  have D5 := V.kp (rE.f17.f17.f17.f17.f17.f17.f17.f17.f17.f17.f17.f17.f17.f17.f17.f17.f17)
  refine dZ D5 (fun W hW => (Kp.h hW).right.f16.f16.f16.f7.f16.f16.f16.f10.f10.f16.f16.f16.f16.f14.f16.f16) ?_
  refine iE 56 O D5 (fun _ => iT (zl := [.slice none 0 0, .int .i64 0, .int .i64 0, .int .i64 0, .bool false, .bool false, .bool false, .int .i64 0, .int .i64 0, .int .i64 0, .int .i64 0, .slice none 0 0, .int .i64 0, .slice none 0 0, .int .i64 0, .int .i64 0, .int .i64 0]) (pl := [(0, 3), (3, 1), (4, 1), (5, 1), (6, 1), (7, 1), (8, 1), (9, 1), (10, 1), (11, 1), (12, 1), (13, 1), (14, 1), (15, 1), (16, 1)]) [_, _, _, _, _, _, _, _, _, _, _, _, _, _, _, _, _] aW kL O (fun w => by kernel_rfl) O (.agg (us := [_, _, _]) (zs := [.slice none 0 0, .int .i64 0, .int .i64 0]) O O (.on (.on (.on (.on (.on (.on (.on (.on (.one (Rd.one ((rE.f6).aJ)) (.on (.one (Rd.one ((rE).aJ)) (.on (.on (.on .nil))))))))))))))) O) ?_
  refine gW 57 O (by kernel_rfl) (dR 0 (l' := [_, _, _, _, _, _, _, _, _, _, _, _, _, _, _, _, _]) (us := [_, _, _, _, _, _, _, _, _, _, _, _, _, _, _, _, _]) rE.f11 oI O O O (bD (by first | rfl | exact Rd.one ((rE.f9).aJ)) (aP (aP (aP (aP (aP (aP (aP (aP (aP (aP (bD (by first | rfl | exact Rd.one ((rE.f6).aJ)) (aP (bD (by first | rfl | exact Rd.one ((rE).aJ)) (aP (aP (aP bW))))))))))))))))) O O) ?_
  rintro _ w12 uP
  have D6 := V.kp (uP.f17.f17.f17.f17.f17.f17.f17.f17.f17.f17.f17.f17.f17.f17.f17.f17.f17)
  refine dX D6 (by kernel_rfl) ?_
  refine oH (aZ (kN ?_))
  refine wW (.inl O) (Oj results52 O aW O (by rw [ae3]; rfl) (uP).get.2) ?_
  have LX := uP.f17.f17.f17.f9.f17.f17.f17.f12.f12.f15.f17.f14
  have Fz := V.fE (s := s) dS LX
  exact ⟨_, _, _, _, O, Fz.f2.right.f2.f4.f4.f5⟩
 ·skip
  refine bT O (dM O (bg 39 aA O bU O (dQ aV O (Wx).get.2 O (aT (fV ((Wx.f11).aJ) aV O) (aT (fZ O O) (jo O (fun h1 => ?_) (fun h1 => ?_)))))))
  ·(try simp only [aG] at h1)
   refine bT O (aT (gY O O (by omega)) (iU O (bT O (dM O (bg 33 aA O ah O (dQ ay O (Wx).get.2 O (aT (fA O O) (nS O (fun h2 => ?_) (fun h2 => ?_)))))))))
   ·(try simp only [aG] at h2)
    refine bJ (cO O (bJ (dM O (bJ (bg 40 aA O aN O (bJ (dQ bn O (Wx).get.2 O (mQ O O (nS O (fun h3 => ?_) (fun h3 => ?_))))))))))
    ·(try simp only [aG] at h3)
     refine bJ (cO O (bJ (dM O (bJ (bg 1 aA O bZ O (bJ (bg 11 bf O aN O (bJ (dQ bn O (Wx).get.2 O (mQ O O (jo O (fun h4 => ?_) (fun h4 => ?_))))))))))))
     ·(try simp only [aG] at h4)
      refine aF (cO O (aT (nN O O (by omega)) (lg O (dJ ?_))))
      refine ji (()) ?_ ?_ ?_
      ·exact (Sub.vG O (by rw [Fj hpi, ← hgl]; congr 1; split <;> (try split) <;> (first | omega | (exfalso; simp_all; done) | (exfalso; simp_all; omega))) (Sub.nil _))
      ·exact vV
      ·(try dsimp only)
       first | done | exact Wx.f13.f13.f13.f13.f8.f8.f8.f13.f13.f13.f13.f12.f13
     ·(try simp only [aG] at h4)
      refine eG ?_
      refine ji (()) ?_ ?_ ?_
      ·exact (Sub.vG O (by rw [Fj hpi, ← hgl]; congr 1; split <;> (try split) <;> (first | omega | (exfalso; simp_all; done) | (exfalso; simp_all; omega))) (Sub.nil _))
      ·exact vV
      ·(try dsimp only)
       first | done | exact Wx.f13.f13.f13.f13.f8.f8.f8.f13.f13.f13.f13.f12.f13
    ·(try simp only [aG] at h3)
     refine dB (dB (dB (dB (dB (kP O O (iR (yh (eG ?_))))))))
     refine ji (()) ?_ ?_ ?_
     ·exact (Sub.vG O (by rw [Fj hpi, ← hgl]; congr 1; split <;> (try split) <;> (first | omega | (exfalso; simp_all; done) | (exfalso; simp_all; omega))) (Sub.nil _))
     ·exact vV
     ·(try dsimp only)
      first | done | exact Wx.f13.f13.f13.f13.f8.f8.f8.f13.f13.f13.f13.f12.f13
   ·(try simp only [aG] at h2)
    refine dB (dB (dB (dB (kP O O (cO O (dB (dB (dB (dB (dB (kP O O (iR (yh (eG ?_))))))))))))))
    refine ji (()) ?_ ?_ ?_
    ·exact (Sub.vG O (by rw [Fj hpi, ← hgl]; congr 1; split <;> (try split) <;> (first | omega | (exfalso; simp_all; done) | (exfalso; simp_all; omega))) (Sub.nil _))
    ·exact vV
    ·(try dsimp only)
     first | done | exact Wx.f13.f13.f13.f13.f8.f8.f8.f13.f13.f13.f13.f12.f13
  ·(try simp only [aG] at h1)
   refine eG ?_
   refine ji (()) ?_ ?_ ?_
   ·exact (Sub.vG O (by rw [Fj hpi, ← hgl]; congr 1; split <;> (try split) <;> (first | omega | (exfalso; simp_all; done) | (exfalso; simp_all; omega))) (Sub.nil _))
   ·exact vV
   ·(try dsimp only)
    first | done | exact Wx.f13.f13.f13.f13.f8.f8.f8.f13.f13.f13.f13.f12.f13
end
end Go.Proofs.YtnhhmieghbfalaaGreatDoor
end
section
namespace Go.Proofs.YtnhhmieghbfalaaGreatDoor
open Go.RowKit
structure D8 where
  kd : Int
  a : Int
  b : Int
  back : Bool
  text : List Int
structure yB where
  kd : Int
  a : Int
  b : Int
  back : Bool
  v : Value
  text : List Int
instance : Inhabited yB := ⟨⟨0, 0, 0, false, .slice none 0 0, []⟩⟩
def yB.enc (p : yB) : List Value := [.int .i64 p.kd, .int .i64 p.a, .int .i64 p.b, .bool p.back, p.v]
theorem yB.Ah (p : yB) : p.enc.length = 5 := rfl
def yB.m (p : yB) : D8 := ⟨p.kd, p.a, p.b, p.back, p.text⟩
def yB.Reads (W : World) (p : yB) : Prop := mP W .i32 p.v p.text ∧ p.text.length ≤ 35184372087808
def aX.edit (s : aX) (p : D8) : aX :=
  if p.kd = 0 then s.qM p.text else
  if p.kd = 1 then s.BD p.text else
  if p.kd = 2 then s.gy p.a p.b [] else
  if p.kd = 3 then s.gy p.a p.b p.text else
  if p.kd = 4 then s.zZ p.a p.b p.back else
  if p.kd = 5 then s.uS p.a p.b p.back else
  if p.kd = 6 then s.ql else
  if p.kd = 7 then s.zF p.a else
  if p.kd = 8 then s.Aa p.a else
  if p.kd = 9 then s.BU p.a else
  if p.kd = 10 then s.BX else
  if p.kd = 11 then s.o7 else
  if p.kd = 17 then s.BZ p.a else s
section
variable {w0 w : World} {F : HP} {e : Nat} {s : aX} {v : Value} {p : D8}
end
def aX.ahh (s : aX) (p : D8) : aX := if p.kd = 13 then s.zN p.a else s.edit p
section
variable {w0 w : World} {F : HP} {e : Nat} {s : aX} {v : Value} {p : D8}
end
structure Out (s : aX) (L : List Int) (pt : Int) (G : List (List jH)) (run : Bool) : Prop where
  inn : s.inn = false
  L : s.c.L = L
  pt : s.c.pt = pt
  G : s.c.un s.c.place = G
  run : s.c.run = run
  over : s.c.over = false
structure Inn (s : aX) (L : List Int) (pt : Int) (G : List (List jH)) (run : Bool) : Prop where
  inn : s.inn = true
  L : s.c.L = L
  pt : s.c.pt = pt
  G : s.c.un s.c.place = G
  run : s.c.run = run
  over : s.c.over = false
  put : s.put = []
  cls : s.cls = 0
  whole : s.whole = true
section
variable {s : aX} {L : List Int} {pt : Int} {G : List (List jH)} {run : Bool} {r : Int}
theorem Out.begin (h : Out s L pt G run) : Inn s.dA L pt G run ∧ s.DU = 0 := by
  unfold aX.dA aX.DU
  rw [if_neg (by rw [h.inn]; decide), if_neg (by rw [h.inn]; decide)]
  exact ⟨⟨rfl, h.L, h.pt, h.G, h.run, h.over, rfl, rfl, rfl⟩, rfl⟩
def Zu (G : List (List jH)) (run : Bool) (x : jH) : List (List jH) := if run then (match G.getLast? with | some g => G.dropLast ++ [g ++ [x]] | none => [[x]]) else G ++ [[x]]
theorem Inn.ahi (h : Inn s L pt G run) (h1 : 0 ≤ pt ∧ pt ≤ L.length) (h2 : L.length < 1024) (h3 : iH G [] < 16384) :
    s.ET [r] = 0 ∧ s.qM [r] = { (s.jw (L.take pt.toNat ++ [r] ++ L.drop pt.toNat) (pt + 1) (wu L s.c.mark pt pt [r])) with put := [(pt, [], [r])], cls := 3 } := by
  have hto : s.nH [r] = pt := by unfold aX.nH; rw [h.over]; exact h.pt
  have hE : lG L pt pt [r] = 0 := by unfold lG; rw [if_neg (by omega), if_neg (by simp; omega)]
  have hE' : s.lU s.c.pt (s.nH [r]) [r] = 0 := by unfold aX.lU; rw [if_pos h.inn, hto, h.pt, h.L]; exact hE
  have hP : wo L pt pt pt [r] = pt + 1 := by unfold wo fK; rw [if_pos hE, if_neg (by omega), if_pos (by omega)]; rfl
  have hD : nU L pt pt [r] = [] := by unfold nU; rw [if_pos hE]; simp
  have hI : nV L pt pt [r] = [r] := by unfold nV; rw [if_pos hE]
  have hA : yw L pt pt [r] = pt := by unfold yw; rw [if_pos hE]
  have hL : nP L pt pt [r] = L.take pt.toNat ++ [r] ++ L.drop pt.toNat := by unfold nP; rw [if_pos hE]
  have hS : s.gy s.c.pt (s.nH [r]) [r] = { (s.jw (L.take pt.toNat ++ [r] ++ L.drop pt.toNat) (pt + 1) (wu L s.c.mark pt pt [r])) with put := [(pt, [], [r])] } := by
    unfold aX.gy
    rw [if_pos h.inn, hto, h.pt, h.L, hP, hD, hI, hA, hL]
    unfold aX.nI
    rw [if_neg (by simp), if_neg (by
      show ¬ 16384 ≤ iH (s.c.un s.c.place) s.put
      rw [h.G, h.put]; omega)]
    show _ = _
    unfold aX.jw
    simp only [h.put, List.nil_append]
  refine ⟨hE', ?_⟩
  unfold aX.qM
  rw [if_pos h.inn]
  dsimp only
  rw [if_pos ⟨hE', h.cls⟩, hS]
theorem MB (u : aX) (h : u.inn = true) : (u.nZ 0).c.L = u.c.L := by by_cases ha : u.argues = true <;> by_cases hp : u.put = [] <;> by_cases hc : u.cls = 2 <;> simp [aX.nZ, aX.nY, aX.lT, aX.dH, aX.zM, aX.lY, aX.jJ, aX.here, jv, ha, hp, hc, h]
theorem QG (u : aX) (h : u.inn = true) : (u.nZ 0).c.pt = u.c.pt := by by_cases ha : u.argues = true <;> by_cases hp : u.put = [] <;> by_cases hc : u.cls = 2 <;> simp [aX.nZ, aX.nY, aX.lT, aX.dH, aX.zM, aX.lY, aX.jJ, aX.here, jv, ha, hp, hc, h]
theorem ac3 (u : aX) (h : u.inn = true) : (u.nZ 0).c.mark = u.c.mark := by by_cases ha : u.argues = true <;> by_cases hp : u.put = [] <;> by_cases hc : u.cls = 2 <;> simp [aX.nZ, aX.nY, aX.lT, aX.dH, aX.zM, aX.lY, aX.jJ, aX.here, jv, ha, hp, hc, h]
theorem aiD (u : aX) (h : u.inn = true) : (u.nZ 0).c.E = u.c.E := by by_cases ha : u.argues = true <;> by_cases hp : u.put = [] <;> by_cases hc : u.cls = 2 <;> simp [aX.nZ, aX.nY, aX.lT, aX.dH, aX.zM, aX.lY, aX.jJ, aX.here, jv, ha, hp, hc, h]
theorem agB (u : aX) (h : u.inn = true) : (u.nZ 0).c.at_ = u.c.at_ := by by_cases ha : u.argues = true <;> by_cases hp : u.put = [] <;> by_cases hc : u.cls = 2 <;> simp [aX.nZ, aX.nY, aX.lT, aX.dH, aX.zM, aX.lY, aX.jJ, aX.here, jv, ha, hp, hc, h]
theorem VD (u : aX) (h : u.inn = true) : (u.nZ 0).c.over = u.c.over := by by_cases ha : u.argues = true <;> by_cases hp : u.put = [] <;> by_cases hc : u.cls = 2 <;> simp [aX.nZ, aX.nY, aX.lT, aX.dH, aX.zM, aX.lY, aX.jJ, aX.here, jv, ha, hp, hc, h]
theorem JZ (u : aX) (h : u.inn = true) : (u.nZ 0).inn = false := by by_cases ha : u.argues = true <;> by_cases hp : u.put = [] <;> by_cases hc : u.cls = 2 <;> simp [aX.nZ, aX.nY, aX.lT, aX.dH, aX.zM, aX.lY, aX.jJ, aX.here, jv, ha, hp, hc, h]
theorem ac4 (u : aX) (h : u.inn = true) : (u.nZ 0).c.last = u.cls := by by_cases ha : u.argues = true <;> by_cases hp : u.put = [] <;> by_cases hc : u.cls = 2 <;> simp [aX.nZ, aX.nY, aX.lT, aX.dH, aX.zM, aX.lY, aX.jJ, aX.here, jv, ha, hp, hc, h]
theorem Zv (u : aX) (h : u.inn = true) : (u.nZ 0).c.run = (u.typed && (!u.put.isEmpty || u.c.run)) := by by_cases ha : u.argues = true <;> by_cases hp : u.put = [] <;> by_cases hc : u.cls = 2 <;> simp [aX.nZ, aX.nY, aX.lT, aX.dH, aX.zM, aX.lY, aX.jJ, aX.here, jv, ha, hp, hc, h]
theorem QH (u : aX) (h : u.inn = true) : (u.nZ 0).c.un (u.nZ 0).c.place = u.jJ (u.typed && u.c.run) := by by_cases ha : u.argues = true <;> by_cases hp : u.put = [] <;> by_cases hc : u.cls = 2 <;> simp [aX.nZ, aX.nY, aX.lT, aX.dH, aX.zM, aX.lY, aX.jJ, aX.here, jv, ha, hp, hc, h]
theorem Inn.typed (h : Inn s L pt G run) (h1 : 0 ≤ pt ∧ pt ≤ L.length) (h2 : L.length < 1024) (h3 : iH G [] < 16384) :
    Out ((s.qM [r]).nZ 0) (L.take pt.toNat ++ [r] ++ L.drop pt.toNat) (pt + 1) (Zu G run (pt, [], [r])) true ∧ (s.qM [r]).Gg 0 = 0 := by
  obtain ⟨_, e⟩ := h.ahi (r := r) h1 h2 h3
  have hu : (s.qM [r]).inn = true := by rw [e]; exact h.inn
  have hT : (s.qM [r]).typed = true := by rw [e]; show (((3 : Int) == 3) && s.whole) = true; rw [h.whole]; rfl
  have hp : (s.qM [r]).put = [(pt, [], [r])] := by rw [e]
  have hr : (s.qM [r]).c.run = run := by rw [e]; exact h.run
  have hh : (s.qM [r]).here = G := by rw [e]; exact h.G
  refine ⟨⟨JZ _ hu, (MB _ hu).trans (by rw [e]; rfl), (QG _ hu).trans (by rw [e]; rfl), ?_, ?_, (VD _ hu).trans (by rw [e]; exact h.over)⟩, by unfold aX.Gg; rw [if_pos hu]⟩
  · rw [QH _ hu, hT, hr, Bool.true_and]
    unfold aX.jJ Zu
    rw [if_neg (by rw [hp]; simp), hp, hh] <;> rfl
  · rw [Zv _ hu, hT, hp]; rfl
def VE (s : aX) (r : Int) : aX := (s.dA.qM [r]).nZ (s.dA.ET [r])
theorem Out.VE (h : Out s L pt G run) (h1 : 0 ≤ pt ∧ pt ≤ L.length) (h2 : L.length < 1024) (h3 : iH G [] < 16384) :
    Out (VE s r) (L.take pt.toNat ++ [r] ++ L.drop pt.toNat) (pt + 1) (Zu G run (pt, [], [r])) true := by
  unfold Go.Proofs.YtnhhmieghbfalaaGreatDoor.VE
  rw [(h.begin.1.ahi (r := r) h1 h2 h3).1]
  exact (h.begin.1.typed h1 h2 h3).1
theorem VF (hi : s.inn = true) (hL : s.c.L = L) (hpt : s.c.pt = pt) (hG : s.here = G) (ho : s.c.over = false) (hp : s.put = []) (hc : s.cls = 0) : Out (s.nZ 0) L pt G false := by
  have hT : s.typed = false := by unfold aX.typed; rw [hc]; rfl
  refine ⟨JZ _ hi, (MB _ hi).trans hL, (QG _ hi).trans hpt, ?_, ?_, (VD _ hi).trans ho⟩
  · rw [QH _ hi]; unfold aX.jJ; rw [if_pos hp]; exact hG
  · rw [Zv _ hi, hT]; rfl
theorem Inn.end_ (h : Inn s L pt G run) : Out (s.nZ 0) L pt G false := VF h.inn h.L h.pt h.G h.over h.put h.cls
theorem Out.move (h : Out s L pt G run) (x : Int) (hx : 0 ≤ x ∧ x ≤ L.length) : Out ((s.dA.Aa x).nZ 0) L x G false := by
  have hb := h.begin.1
  refine Inn.end_ (s := s.dA.Aa x) (run := run) ?_
  unfold aX.Aa
  rw [if_pos hb.inn]
  refine ⟨hb.inn, hb.L, ?_, hb.G, hb.run, hb.over, hb.put, hb.cls, hb.whole⟩
  show mvP s.dA.c.L.length s.dA.c.pt x = x
  unfold mvP
  rw [if_pos (by rw [hb.L]; omega)]
end
def ZP (p : Int) : List Int → List jH
  | [] => []
  | r :: l => (p, [], [r]) :: ZP (p + 1) l
theorem afi (p : Int) (l : List Int) (r : Int) : ZP p (l ++ [r]) = ZP p l ++ [(p + l.length, [], [r])] := by
  induction l generalizing p with
  | nil => simp [ZP]
  | cons x l ih => simp only [List.cons_append, ZP, ih, List.length_cons]; rw [show p + 1 + (l.length : Int) = p + ((l.length + 1 : Nat) : Int) from by omega]
theorem agC (p : Int) (l : List Int) : (ZP p l).length = l.length := by induction l generalizing p with
  | nil => rfl
  | cons x l ih => simp [ZP, ih]
def J3 (G : List (List jH)) (p : Int) (l : List Int) : List (List jH) := if l = [] then G else G ++ [ZP p l]
theorem ac5 (G : List (List jH)) (p : Int) (l : List Int) : iH (J3 G p l) [] = iH G [] + l.length := by
  unfold J3 iH; split
  · rename_i h; subst h; simp
  · simp [agC]
theorem aa9 (G : List (List jH)) (p : Int) (l : List Int) (r : Int) : Zu (J3 G p l) (!l.isEmpty) (p + l.length, [], [r]) = J3 G p (l ++ [r]) := by
  unfold Zu J3
  rw [if_neg (show l ++ [r] ≠ [] by simp)]
  cases l with
  | nil => simp [ZP]
  | cons x l => rw [if_neg (show ¬ x :: l = [] by simp)]; simp only [List.isEmpty_cons, Bool.not_false, if_true, List.getLast?_append, List.getLast?_singleton, Option.some_or, List.dropLast_concat, afi]
theorem IU (s : aX) : s.dA.inn = true := by unfold aX.dA; split; assumption; rfl
theorem TM (s : aX) (b : Bool) : (s.dH b).inn = s.inn := by unfold aX.dH; split <;> rfl
section
variable {s : aX} {L : List Int} {pt : Int} {G : List (List jH)} {run : Bool} {r : Int}
def TN (s : aX) (l : List Int) : aX := l.foldl VE s
theorem Out.TN (h : Out s L pt G false) (h1 : 0 ≤ pt ∧ pt ≤ L.length) (l : List Int) (h2 : L.length + l.length ≤ 1024) (h3 : iH G [] + l.length ≤ 16384) :
    Out (TN s l) (L.take pt.toNat ++ l ++ L.drop pt.toNat) (pt + l.length) (J3 G pt l) (!l.isEmpty) := by
  suffices hh : ∀ n (l : List Int), l.length = n → L.length + n ≤ 1024 → iH G [] + n ≤ 16384 → Out (Go.Proofs.YtnhhmieghbfalaaGreatDoor.TN s l) (L.take pt.toNat ++ l ++ L.drop pt.toNat) (pt + l.length) (J3 G pt l) (!l.isEmpty) from hh _ l rfl h2 h3
  intro n
  induction n with
  | zero =>
    intro l hn _ _
    obtain rfl := List.length_eq_zero_iff.1 hn
    simpa [J3, Go.Proofs.YtnhhmieghbfalaaGreatDoor.TN] using h
  | succ n ih =>
    intro l hn h2 h3
    rcases List.eq_nil_or_concat l with rfl | ⟨l, r, rfl⟩
    · cases hn
    rw [List.concat_eq_append] at hn ⊢
    have hn2 : l.length = n := by simpa using hn
    have h4 := ih l hn2 (by omega) (by omega)
    have hl : (L.take pt.toNat ++ l ++ L.drop pt.toNat).length = L.length + l.length := by simp; omega
    have h5 := h4.VE (r := r) (by rw [hl]; omega) (by rw [hl]; omega) (by rw [ac5]; omega)
    have e1 : (L.take pt.toNat ++ l ++ L.drop pt.toNat).take (pt + l.length).toNat = L.take pt.toNat ++ l := by
      rw [List.take_append_of_le_length (by simp; omega), List.take_of_length_le (by simp; omega)]
    have e2 : (L.take pt.toNat ++ l ++ L.drop pt.toNat).drop (pt + l.length).toNat = L.drop pt.toNat := by
      rw [List.drop_append_of_le_length (by simp; omega), List.drop_of_length_le (by simp; omega), List.nil_append]
    rw [e1, e2, aa9] at h5
    have e3 : Go.Proofs.YtnhhmieghbfalaaGreatDoor.TN s (l ++ [r]) = Go.Proofs.YtnhhmieghbfalaaGreatDoor.VE (Go.Proofs.YtnhhmieghbfalaaGreatDoor.TN s l) r := by unfold Go.Proofs.YtnhhmieghbfalaaGreatDoor.TN; rw [List.foldl_append]; rfl
    rw [e3]
    rw [show pt + ((l ++ [r]).length : Int) = pt + l.length + 1 from by simp; omega, show (!(l ++ [r]).isEmpty) = true from by simp, ← List.append_assoc]
    exact h5
theorem afj (A B : List Int) (p m : Int) (r : Int) (h : A.length + B.length ≤ 1024) : ∃ p' m', aX.ahK (A ++ r :: B, p, m) ((A.length : Int), [r], []) = (A ++ B, p', m') := by
  refine ⟨_, _, Prod.ext ?_ rfl⟩
  show Ed (A ++ r :: B) (A.length : Int) [r] [] = A ++ B
  have hr : lG (A ++ r :: B) (A.length : Int) (A.length + ([r].length : Int)) [] = 0 := by
    unfold lG; rw [if_neg (by simp; omega), if_neg (by simp; omega)]
  have hf : Dq (A ++ r :: B) (A.length : Int) [r] = true := by
    unfold Dq; simp; omega
  have he : CO (A ++ r :: B) (A.length : Int) [r] [] = 0 := by unfold CO; rw [if_neg (by simp; omega), hf]; exact hr
  unfold Ed nP
  rw [if_pos he, if_pos hr]
  rw [show (A.length + ([r].length : Int)).toNat = A.length + 1 from by simp, show (A.length : Int).toNat = A.length from by omega]
  rw [List.take_left, show A.length + 1 = (A ++ [r]).length from by simp, show A ++ r :: B = (A ++ [r]) ++ B from by simp, List.drop_left]
  simp
theorem afk (l : List Int) (A B : List Int) (p m : Int) (h : A.length + l.length + B.length ≤ 1024) : ∃ p' m', aX.apps (A ++ l ++ B, p, m) ((ZP (A.length : Int) l).reverse.map xP) = (A ++ B, p', m') := by
  induction l generalizing A p m with
  | nil => exact ⟨p, m, by simp [ZP, aX.apps]⟩
  | cons r l ih =>
    rw [List.length_cons] at h
    obtain ⟨p1, m1, e1⟩ := ih (A ++ [r]) p m (by simp; omega)
    rw [List.length_append, List.length_singleton] at e1
    have e2 : A ++ r :: l ++ B = A ++ [r] ++ l ++ B := by simp
    show ∃ p' m', aX.apps (A ++ r :: l ++ B, p, m) (((((A.length : Int), [], [r]) :: ZP ((A.length : Int) + 1) l).reverse).map xP) = _
    rw [List.reverse_cons, List.map_append, e2]
    unfold aX.apps at e1 ⊢
    rw [List.foldl_append]
    rw [show ((A.length + 1 : Nat) : Int) = (A.length : Int) + 1 from by omega] at e1
    rw [e1, List.append_assoc, List.singleton_append]
    exact afj A B p1 m1 r (by omega)
theorem Out.agD {A B l : List Int} (h : Out s (A ++ l ++ B) pt (J3 G A.length l) run) (hl : l ≠ []) (hn : A.length + l.length + B.length ≤ 1024) :
    s.dA.oW = 0 ∧ ∃ pt', Out (s.dA.o7.nZ 0) (A ++ B) pt' G false := by
  have hb := h.begin.1
  have hw : J3 G A.length l = G ++ [ZP A.length l] := by unfold J3; rw [if_neg hl]
  have hf : s.dA.dH false = s.dA := by unfold aX.dH; rw [if_pos hb.put]
  have hh : s.dA.here = G ++ [ZP A.length l] := hb.G.trans hw
  obtain ⟨p', m', e⟩ := afk l A B pt s.dA.c.mark hn
  refine ⟨by unfold aX.oW; rw [if_pos hb.inn, hf, hh, if_neg (by simp)], p', ?_⟩
  have eU : s.dA.o7 = ((s.dA.lY G).jw (A ++ B) p' m').wC := by
    unfold aX.o7
    rw [if_pos hb.inn]
    dsimp only
    rw [hf, if_neg (by rw [hh]; simp), hh, List.dropLast_concat]
    rw [show (G ++ [ZP (A.length : Int) l]).getLastD [] = ZP A.length l from by simp]
    unfold aX.Dx
    rw [show ((s.dA.lY G).c.L, (s.dA.lY G).c.pt, (s.dA.lY G).c.mark) = (A ++ l ++ B, pt, s.dA.c.mark) from by rw [← hb.L, ← hb.pt]; rfl, e]
  rw [eU]
  exact VF hb.inn rfl rfl (jv _ _ _) hb.over hb.put hb.cls
end
end Go.Proofs.YtnhhmieghbfalaaGreatDoor
end
