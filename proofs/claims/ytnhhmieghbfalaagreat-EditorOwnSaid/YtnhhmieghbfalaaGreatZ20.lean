import Derived.Test.YtnhhmieghbfalaaGreatZ4
import Derived.Test.YtnhhmieghbfalaaGreatZ19
import Derived.Test.YtnhhmieghbfalaaGreatZ13
import Derived.Laws.StructEq
import Derived.Test.YtnhhmieghbfalaaGreatZ15
import Derived.Test.YtnhhmieghbfalaaGreatZ8
set_option linter.unusedSimpArgs false
set_option linter.unusedVariables false
/- Texts of mine, joined, their names in short: REdS2 REdS3 ESame ESame2 EStM EIs. -/
section
namespace Go.Proofs.YtnhhmieghbfalaaGreat
open Go.RowKit
open _root_.Go.Proofs.Tryz
def Tt (hl : List o7) (tx : Int → Option ByteArray) (k : Nat) : Bool := !((iK hl tx k).toList == (yB hl k).toList)
def zL (hl : List o7) (tx : Int → Option ByteArray) (n : Nat) : List (Int × ByteArray) := ((List.range n).filter (Tt hl tx)).map fun (k : Nat) => ((k : Int), iK hl tx k)
theorem Xm {hl : List o7} {tx : Int → Option ByteArray} {i : Nat} (h : Tt hl tx i = true) : zL hl tx (i + 1) = zL hl tx i ++ [((i : Int), iK hl tx i)] := by
  unfold zL
  rw [List.range_succ, List.filter_append, List.map_append]
  simp [h]
theorem ZI {hl : List o7} {tx : Int → Option ByteArray} {i : Nat} (h : Tt hl tx i = false) : zL hl tx (i + 1) = zL hl tx i := by
  unfold zL
  rw [List.range_succ, List.filter_append, List.map_append]
  simp [h]
theorem OW (hl : List o7) (tx : Int → Option ByteArray) (i : Nat) : (zL hl tx i).length ≤ i := by
  unfold zL
  rw [List.length_map]
  exact Nat.le_trans (List.length_filter_le _ _) (by simp)
theorem Tv (hl : List o7) (tx : Int → Option ByteArray) (place : Int) (n : Nat) : qy hl tx place n = (zL hl tx n).filter fun x => decide (x.1 ≠ place) := by
  unfold qy zL
  rw [List.filter_map, List.filter_filter]
  congr 2
theorem ZJ {l : List (Int × ByteArray)} {k : Nat} (hk : k < l.length) : (l.flatMap lT).getD (k * 2 + 0) undef = .int .i64 (l.getD k default).1 := by
  have h := congrArg (fun x => x.getD 0 undef) (mM OD hk default)
  simp only [List.getD_eq_getElem?_getD, List.getElem?_take, List.getElem?_drop] at h ⊢
  exact h
theorem acL {l : List (Int × ByteArray)} {k : Nat} (hk : k < l.length) : (l.flatMap lT).getD (k * 2 + 1) undef = .string (l.getD k default).2 := by
  have h := congrArg (fun x => x.getD 1 undef) (mM OD hk default)
  simp only [List.getD_eq_getElem?_getD, List.getElem?_take, List.getElem?_drop] at h ⊢
  exact h
section
variable {w0 w : World} {F : HP} {p q y h pb pk : Nat} {x place base most pnt mk : Int} {E : List (List Int)} {at_ : Nat} {L : List Int} {wv nv : Value} {hl : List o7} {tx : Int → Option ByteArray} {m : Nat} {xs ys : List Value} {l : List ByteArray}
theorem Qp {x0 x2 x3 x4 x5 x6 x7 x8 x9 x10 x11 x12 tZ x14 x15 x16 x17 x18 x19 x20 x21 uD x23 x24 x25 uI x27 x28 x29 x30 x31 x32 vM x34 Ec Ed Ee x38 x39 x40 x41 : Value} (H : V w0 w (eF y (.cells (x0 :: .pointer (some ⟨pb, 0, none⟩) :: x2 :: x3 :: x4 :: x5 :: x6 :: x7 :: x8 :: x9 :: x10 :: x11 :: x12 :: tZ :: x14 :: x15 :: x16 :: x17 :: x18 :: x19 :: x20 :: x21 :: uD :: x23 :: x24 :: x25 :: uI :: x27 :: x28 :: x29 :: x30 :: x31 :: x32 :: vM :: x34 :: Ec :: Ed :: Ee :: x38 :: x39 :: x40 :: x41 :: []).toArray 85 (0, 0)) • kN pb L pnt mk • F)) : iQ prog 14 #[.pointer (some ⟨y, 0, none⟩)] w fun v w' => ∃ u, v = .agg (lN u pnt mk) ∧ V w0 w' (jg 21 .i32 u L • eF y (.cells (x0 :: .pointer (some ⟨pb, 0, none⟩) :: x2 :: x3 :: x4 :: x5 :: x6 :: x7 :: x8 :: x9 :: x10 :: x11 :: x12 :: tZ :: x14 :: x15 :: x16 :: x17 :: x18 :: x19 :: x20 :: x21 :: uD :: x23 :: x24 :: x25 :: uI :: x27 :: x28 :: x29 :: x30 :: x31 :: x32 :: vM :: x34 :: Ec :: Ed :: Ee :: x38 :: x39 :: x40 :: x41 :: []).toArray 85 (0, 0)) • kN pb L pnt mk • F) := by
 refine jH func14 ntmps14 ?_
 refine lQ (jW (gq (l := [_, _, _]) H oU O) ?_)
 rintro _ w1 ⟨b1, rfl, H1⟩
 refine pG O (dA O (Z 1 aI O dB O (Z 0 bH O mO O (dL kF O (H1.f2).get.2 O (fO O func40 (I9 H1.f3) ?_)))))
 rintro _ w2 ⟨u2, rfl, H2⟩
 refine aC (dD 0 (l' := [_, _, _]) (us := [_, _, _]) H2.f3 kH O O O (aW (by first | rfl | exact Rd.one ((H2).aG)) (aH (aH bG))) O O) ?_
 rintro _ w3 H3
 refine XJ ?_
 refine qO (.inl O) (Jg results14 O dU O (by rw [N9]; rfl) (H3).get.2) ?_
 exact ⟨_, O, H3.right.f2.f3.f3⟩
theorem EL {x0 x1 x3 x4 x5 x6 x7 x8 x9 x10 x11 x12 tZ x14 x15 x16 x17 x18 x19 x20 x21 uD x23 x24 x25 uI x27 x28 x29 x30 x31 x32 vM x34 Ec Ed Ee x38 x39 x40 x41 : Value} (H : V w0 w (eF y (.cells (x0 :: x1 :: .pointer (some ⟨pk, 0, none⟩) :: x3 :: x4 :: x5 :: x6 :: x7 :: x8 :: x9 :: x10 :: x11 :: x12 :: tZ :: x14 :: x15 :: x16 :: x17 :: x18 :: x19 :: x20 :: x21 :: uD :: x23 :: x24 :: x25 :: uI :: x27 :: x28 :: x29 :: x30 :: x31 :: x32 :: vM :: x34 :: Ec :: Ed :: Ee :: x38 :: x39 :: x40 :: x41 :: []).toArray 85 (0, 0)) • lF pk E at_ • F)) (hE : E.length ≤ 60 ∧ (at_ < E.length ∨ at_ = 0) ∧ ∀ e ∈ E, e.length ≤ 1024) : iQ prog 64 #[.pointer (some ⟨y, 0, none⟩)] w fun v w' => ∃ us,
    V w0 w' (Row 23 1 v E.length us • pR .i32 us (fK E at_) • eF y (.cells (x0 :: x1 :: .pointer (some ⟨pk, 0, none⟩) :: x3 :: x4 :: x5 :: x6 :: x7 :: x8 :: x9 :: x10 :: x11 :: x12 :: tZ :: x14 :: x15 :: x16 :: x17 :: x18 :: x19 :: x20 :: x21 :: uD :: x23 :: x24 :: x25 :: uI :: x27 :: x28 :: x29 :: x30 :: x31 :: x32 :: vM :: x34 :: Ec :: Ed :: Ee :: x38 :: x39 :: x40 :: x41 :: []).toArray 85 (0, 0)) • lF pk E at_ • F) := by
  refine jH func64 ntmps64 ?_
  refine kW O (bY O (dA O (Z 1 aI O dB O (Z 1 bH O sizeOf74 O (dL underlying74 O (H).get.2 O (fO O func75 (DN H.f2 (by assumption)) ?_))))))
  rintro _ w1 ⟨q1, rfl, H1⟩
  refine fO O func108 (MJ H1 (by assumption)) ?_
  rintro u2 w2 ⟨us2, H2⟩
  refine jP O (gy results64 O ?_)
  exact ⟨_, H2.f3.f4.f4.f4⟩
theorem ND {x0 x1 x2 x6 x7 x8 x9 x10 x11 x12 tZ x14 x15 x16 x17 x18 x19 x20 x21 uD x23 x24 x25 uI x27 x28 x29 x30 x31 x32 vM x34 Ec Ed Ee x38 x39 x40 x41 : Value} (H : V w0 w (eF y (.cells (x0 :: x1 :: x2 :: wv :: nv :: .int .i64 x :: x6 :: x7 :: x8 :: x9 :: x10 :: x11 :: x12 :: tZ :: x14 :: x15 :: x16 :: x17 :: x18 :: x19 :: x20 :: x21 :: uD :: x23 :: x24 :: x25 :: uI :: x27 :: x28 :: x29 :: x30 :: x31 :: x32 :: vM :: x34 :: Ec :: Ed :: Ee :: x38 :: x39 :: x40 :: x41 :: []).toArray 85 (0, 0)) • Row 9 1 nv m ys • tY 1 wv m xs • F)) (hy : ∀ u ∈ ys, u.oneCell' = true) (hm : m ≤ 4097) : iQ prog 76 #[.pointer (some ⟨y, 3, none⟩)] w fun v w' => ∃ q nv', v = .pointer (some ⟨q, 0, none⟩) ∧
  V w0 w' (eF q (.cells #[wv, nv', .int .i64 x] 77 (0, 0)) • Row 9 1 nv' m ys • eF y (.cells (x0 :: x1 :: x2 :: wv :: nv :: .int .i64 x :: x6 :: x7 :: x8 :: x9 :: x10 :: x11 :: x12 :: tZ :: x14 :: x15 :: x16 :: x17 :: x18 :: x19 :: x20 :: x21 :: uD :: x23 :: x24 :: x25 :: uI :: x27 :: x28 :: x29 :: x30 :: x31 :: x32 :: vM :: x34 :: Ec :: Ed :: Ee :: x38 :: x39 :: x40 :: x41 :: []).toArray 85 (0, 0)) • Row 9 1 nv m ys • tY 1 wv m xs • F) := by
 refine jH func76 ntmps76 ?_
 refine kW O (aO ?_)
 have Ll := H.drew
 have kU := V.kp (Ll.f3.f3.f3)
 refine wL [3, 7, 12] kU O (gK 0 O kU O (jL 1 O kU O (fH 2 O kU 0 dH O kM O (iY 3 O kU (fun W hW => jQ dW O ((Kp.h hW)).get.2 O) (gK 4 O kU O (jL 5 O kU O (fH 6 O kU 1 dH O kM O (iY 7 O kU (fun W hW => jQ dW O ((Kp.h hW)).get.2 O) (gK 9 O kU O (jL 10 O kU O (fH 11 O kU 2 dH O ah O (iY 12 O kU (fun W hW => jQ ay O ((Kp.h hW)).get.2 O) (lU 8 O (dQ (Ll.gV none) dW Zj O O O ((Ll.f2).aG) (by assumption) (by omega) (by omega)) ?_)))))))))))))
 rintro l1 w1 H1
 have Zx := V.kp (H1.f4.f4.f4.f4)
 refine dV Zx (fun W hW => (Kp.h hW).right.f3.f3.f3) ?_
 refine jR 13 O Zx (fun _ => fC (zl := [.slice none 0 0, .slice none 0 0, .int .i64 0]) (pl := [(0, 1), (1, 1), (2, 1)]) [_, _, _] dH zeroValue77 O (fun w => by kernel_rfl) O (.one (Rd.one ((H1.f4).nO)) (.one (Rd.one ((H1).aG)) (.on .nil))) O) ?_
 refine lU 14 O (kC (l := [_, _, _]) H1 O O) ?_
 rintro _ w2 ⟨b2, rfl, H2⟩
 have EZ := V.kp (H2.f5.f5.f5.f5.f5)
 refine fG EZ (by kernel_rfl) ?_
 refine jR 15 O EZ (fun _ => iV O) (qN (bC (oP (gy results76 O ?_))))
 have HQ := H2.f5.f5.f5.f5.f5
 rw [Nat.zero_add, List.nil_append] at HQ
 exact ⟨_, _, O, HQ⟩
theorem MK {k : Int} {n : Nat} (H : V w0 w (eF q (.cells #[wv, nv, .int .i64 x] 77 (0, 0)) • Row 9 1 nv n (strs l) • F)) (hk : 0 ≤ k ∧ k < n ∧ l.length = n) : iQ prog 132 #[.pointer (some ⟨q, 0, none⟩), .int .i64 k] w fun v w' => v = .tuple #[.string (l.getD k.toNat .empty), .bool true] ∧
    V w0 w' (eF q (.cells #[wv, nv, .int .i64 x] 77 (0, 0)) • Row 9 1 nv n (strs l) • F) := by
  obtain ⟨hk1, hk2, hk3⟩ := hk
  refine qQ func132 ntmps132 ?_
  refine lQ (oD O (uK O (bY O (aZ (iE O O) (qG O (fun h => by exfalso; (try simp only [aK] at h); omega) (fun h1 => ?_))))))
  (try simp only [aK] at h1)
  refine bK (dn O (bK (dn O (bK (dA O (bK (Z 1 dH O kM O (bK (dL dW O (H).get.2 O (bK (aZ (fA ((H.f2).aG) dW O) (bK (aZ (Cc O O) (lH O O (kE O (fun h => by exfalso; (try simp only [aK] at h); omega) (fun h2 => ?_))))))))))))))))
  (try simp only [aK] at h2)
  refine gX (bY O (dA O (Z 1 dH O kM O (dL dW O (H).get.2 O (dn O ?_)))))
  obtain ⟨bnv, onv, cnv, env⟩ := Rd.qP ((H.f2).aG) (by omega)
  cases env
  refine aZ (eG dW qV O O (by omega)) ?_
  refine aZ (Jf (jk (eH lD O) O (by first | exact Rd.wG ((H.f2).aG) (by omega) | exact Rd.Hf ((H.f2).aG) (by omega) | exact Rd.GX ((H.f2).aG) (by omega))) (Qo (l := l) (by omega))) ?_
  refine oD O (jP O (TV results132 O O ?_))
  exact ⟨O, H.f2.f2⟩
theorem GL (H : V w0 w (eF q (.cells #[wv, nv, .int .i64 x] 77 (0, 0)) • Row 9 1 nv (hl.length + 1) (strs (pV hl tx)) • tY 1 wv (hl.length + 1) (strs (nN hl)) • F)) (hb : hl.length ≤ 4096) : iQ prog 131 #[.pointer (some ⟨q, 0, none⟩)] w fun v w' =>
  V w0 w' (Row 192 2 v (zL hl tx hl.length).length ((zL hl tx hl.length).flatMap lT) • eF q (.cells #[wv, nv, .int .i64 x] 77 (0, 0)) • Row 9 1 nv (hl.length + 1) (strs (pV hl tx)) • tY 1 wv (hl.length + 1) (strs (nN hl)) • F) := by
 have hnl := Bg hl tx
 have hol := Bh hl
 refine jH func131 ntmps131 ?_
 refine kW O (kW O (aO (kW O (bI ?_))))
 refine iC [(0, _)] (fun (⟨i, u⟩ : Nat × Value) => [(3, u), (4, .int .i64 (i : Int))]) (fun (⟨i, u⟩ : Nat × Value) W => i ≤ hl.length ∧ V w0 W (Row 192 2 u (zL hl tx i).length ((zL hl tx i).flatMap lT) • eF q (.cells #[wv, nv, .int .i64 x] 77 (0, 0)) • Row 9 1 nv (hl.length + 1) (strs (pV hl tx)) • tY 1 wv (hl.length + 1) (strs (nN hl)) • F)) (fun (⟨i, u⟩ : Nat × Value) => hl.length - i) ((0, .slice none 0 0)) pY uj ⟨by omega, (H.f3.f3.f3).gV none⟩ ?_
 rintro ⟨i, u⟩ w1 ⟨hi, HL⟩
 dsimp only [List.cons_append, List.nil_append]
 refine aO (bY O (aZ (fZ O O (by omega)) (lM O O (Z 1 dH O kM O (dL dW O (HL.f2).get.2 O (aZ (fA ((HL.f3).aG) dW O) (aZ (iE O O) (kE O (fun h1 => ?_) (fun h1 => ?_)))))))))
 ·(try simp only [aK] at h1)
  refine gX (aO (bI (aO ?_)))
  have hil : i < hl.length := by omega
  have hLen := OW hl tx i
  have e1 : (strs (pV hl tx)).getD i undef = .string (iK hl tx i) := by rw [Qo (by omega), Md (by omega)]
  have e2 : (strs (nN hl)).getD i undef = .string (yB hl i) := by rw [Qo (by omega), SY (by omega)]
  have FD := HL.drew
  have nC := V.kp (FD.f4.f4.f4.f4)
  refine wL [3, 6, 10, 13] nC O (gK 0 O nC O (jL 1 O nC O (fH 2 O nC 1 dH O kM O (iY 3 O nC (fun W hW => jQ dW O ((Kp.h hW).f2).get.2 O) (gK 4 O nC O ?_)))))
  obtain ⟨bnv, onv, cnv, env⟩ := Rd.qP ((FD.f3).aG) (by omega)
  cases env
  refine jR 5 O nC (fun _ => eG dW qV O O (by omega)) ?_
  refine iY 6 O nC (fun W hW => Jf (jk (eH lD O) O (by first | exact Rd.wG (((Kp.h hW).f3).aG) (by omega) | exact Rd.Hf (((Kp.h hW).f3).aG) (by omega) | exact Rd.GX (((Kp.h hW).f3).aG) (by omega))) (e1)) ?_
  refine gK 7 O nC O (jL 8 O nC O (fH 9 O nC 0 dH O kM O (iY 10 O nC (fun W hW => jQ dW O ((Kp.h hW).f2).get.2 O) (gK 11 O nC O ?_))))
  obtain ⟨bwv, owv, cwv, ewv⟩ := Rd.qP ((FD.f4).nO) (by omega)
  cases ewv
  refine jR 12 O nC (fun _ => eG dW qV O O (by omega)) ?_
  refine iY 13 O nC (fun W hW => Jf (jk (eH lD O) O (by first | exact Rd.wG (((Kp.h hW).f4).nO) (by omega) | exact Rd.Hf (((Kp.h hW).f4).nO) (by omega) | exact Rd.GX (((Kp.h hW).f4).nO) (by omega))) (e2)) ?_
  refine jR 14 O nC (fun _ => NT O O) (qN (bC (eP O (fun h2 => ?_) (fun h2 => ?_))))
  ·(try simp only [aK] at h2)
   have hsv := Xm (hl := hl) (tx := tx) (i := i) (by unfold Tt; simpa using h2)
   refine aB (jw O O (lM O O (Z 1 dH O kM O (dL dW O (FD.f2).get.2 O (dn O (aZ (eG dW qV O O (by omega)) ?_))))))
   refine aZ (Jf (jk (eH lD O) O (by first | exact Rd.wG ((FD.f3).aG) (by omega) | exact Rd.Hf ((FD.f3).aG) (by omega) | exact Rd.GX ((FD.f3).aG) (by omega))) (e1)) ?_
   refine aZ (fC (zl := [.int .i64 0, .string .empty]) (pl := [(0, 1), (1, 1)]) [_, _] underlying192 zeroValue192 O (fun w => by kernel_rfl) O (.on (.on .nil)) O) ?_
   refine jW (lK FD underlying189 sizeOf192 zeroValue192 O O O (by decide) (by decide)) ?_
   rintro l2 w2 H2
   refine jW (dQ H2.f2 underlying189 acM O O O ((H2).aG) (aH (aH bG)) (by omega) (by omega)) ?_
   rintro l3 w3 H3
   have Hd4 := H3.f2.right
   refine oD O (cO (aX (bC (aB (dn O (aZ (fZ O O (by omega)) (oD O (cO ?_))))))))
   refine eX ((i + 1, l3)) ?_ ?_ ?_ ?_
   ·exact uj
   ·exact pY
   ·(try dsimp only)
    first | done | exact ⟨by omega, by first | (rw [hsv, List.length_append, List.flatMap_append]; exact Hd4.f4.f4.f4.f4) | (rw [hsv]; exact Hd4.f4.f4.f4.f4)⟩
   ·(try dsimp only); omega
  ·(try simp only [aK] at h2)
   have hsv := ZI (hl := hl) (tx := tx) (i := i) (by unfold Tt; simpa using h2)
   refine fV (aX (bC (aB (dn O (aZ (fZ O O (by omega)) (oD O (cO ?_)))))))
   refine eX ((i + 1, u)) ?_ ?_ ?_ ?_
   ·exact uj
   ·exact pY
   ·(try dsimp only)
    first | done | exact ⟨by omega, by first | (rw [hsv, List.length_append, List.flatMap_append]; exact FD.f4.f4.f4.f4) | (rw [hsv]; exact FD.f4.f4.f4.f4)⟩
   ·(try dsimp only); omega
 ·(try simp only [aK] at h1)
  refine gY (aY (aY (dw (bC (bY O (jP O (gy results131 O ?_)))))))
  obtain rfl : i = hl.length := by omega
  exact HL.f4.f4.f4.f4
end
theorem Ja {α : Type} [Inhabited α] {l : List α} {p : α → Bool} {i : Nat} (h : i < l.length) : (l.take (i + 1)).filter p = (l.take i).filter p ++ (if p (l.getD i default) then [l.getD i default] else []) := by
  rw [List.take_succ_eq_append_getElem h, List.filter_append, List.getD_eq_getElem?_getD, List.getElem?_eq_getElem h]
  simp only [Option.getD_some, List.filter_cons, List.filter_nil]
section
variable {w0 w : World} {F : HP} {y h : Nat} {place base most : Int} {wv nv : Value} {hl : List o7} {tx : Int → Option ByteArray} {s : bP}
theorem NG {x1 x2 x6 x7 x8 x9 x10 x11 x12 tZ x14 x15 x16 x17 x18 x19 x20 x21 uD x23 x24 x25 uI x27 x28 x29 x30 x31 x32 vM x34 Ec Ed Ee x38 x39 x40 x41 : Value} (H : V w0 w (eF y (.cells (.pointer (some ⟨h, 0, none⟩) :: x1 :: x2 :: wv :: nv :: .int .i64 place :: x6 :: x7 :: x8 :: x9 :: x10 :: x11 :: x12 :: tZ :: x14 :: x15 :: x16 :: x17 :: x18 :: x19 :: x20 :: x21 :: uD :: x23 :: x24 :: x25 :: uI :: x27 :: x28 :: x29 :: x30 :: x31 :: x32 :: vM :: x34 :: Ec :: Ed :: Ee :: x38 :: x39 :: x40 :: x41 :: []).toArray 85 (0, 0)) • tY 1 wv (hl.length + 1) (strs (nN hl)) • Row 9 1 nv (hl.length + 1) (strs (pV hl tx)) • jf h hl base most • F)) :
    iQ prog 107 #[.pointer (some ⟨y, 0, none⟩)] w fun v w' => V w0 w' (Row 154 2 v (tq hl tx place).length ((tq hl tx place).flatMap lT) •
      eF y (.cells (.pointer (some ⟨h, 0, none⟩) :: x1 :: x2 :: wv :: nv :: .int .i64 place :: x6 :: x7 :: x8 :: x9 :: x10 :: x11 :: x12 :: tZ :: x14 :: x15 :: x16 :: x17 :: x18 :: x19 :: x20 :: x21 :: uD :: x23 :: x24 :: x25 :: uI :: x27 :: x28 :: x29 :: x30 :: x31 :: x32 :: vM :: x34 :: Ec :: Ed :: Ee :: x38 :: x39 :: x40 :: x41 :: []).toArray 85 (0, 0)) • tY 1 wv (hl.length + 1) (strs (nN hl)) • Row 9 1 nv (hl.length + 1) (strs (pV hl tx)) • jf h hl base most • F) := by
  have hb : hl.length ≤ 4096 := by obtain ⟨v, h, _⟩ := (H.f4).Gw; exact h.1
  have hon := @Ii (pV hl tx)
  have hnl := Bg hl tx
  have hcl := OW hl tx hl.length
  obtain ⟨ch, hch⟩ : ∃ ch, ch = zL hl tx hl.length := ⟨_, rfl⟩
  rw [← hch] at hcl
  have hfl : ∀ i, ((ch.take i).filter fun x => decide (x.1 ≠ place)).length ≤ 4096 := fun i => Nat.le_trans (List.length_filter_le _ _) (by rw [List.length_take]; omega)
  have aec := Tv hl tx place hl.length
  rw [← hch] at aec
  refine jH func107 ntmps107 ?_
  refine kW O (kW O (bY O (dA O (Z 1 aI O dB O (Z 2 bH O mP O (fO O func76 (ND H.f2.f3.f3 (by assumption) (by omega)) ?_))))))
  rintro _ w1 ⟨q1, nv1, rfl, H1⟩
  refine jZ O (bY O (fO O func131 (GL H1.f5.f3.f3 (by omega)) ?_))
  rintro u2 w2 H2
  have HC3 := H2
  rw [← hch] at HC3
  refine uK O (kW O (bI ?_))
  refine iC [(0, _), (4, _), (5, _)] (fun (⟨i, u⟩ : Nat × Value) => [(3, u), (6, .int .i64 (i : Int))]) (fun (⟨i, u⟩ : Nat × Value) W => i ≤ ch.length ∧ V w0 W (Row 154 2 u ((ch.take i).filter fun x => decide (x.1 ≠ place)).length (((ch.take i).filter fun x => decide (x.1 ≠ place)).flatMap lT) • Row 192 2 u2 ch.length (ch.flatMap lT) • eF q1 (.cells #[wv, nv1, .int .i64 place] 77 (0, 0)) • Row 9 1 nv1 (hl.length + 1) (strs (pV hl tx)) • eF y (.cells (.pointer (some ⟨h, 0, none⟩) :: x1 :: x2 :: wv :: nv :: .int .i64 place :: x6 :: x7 :: x8 :: x9 :: x10 :: x11 :: x12 :: tZ :: x14 :: x15 :: x16 :: x17 :: x18 :: x19 :: x20 :: x21 :: uD :: x23 :: x24 :: x25 :: uI :: x27 :: x28 :: x29 :: x30 :: x31 :: x32 :: vM :: x34 :: Ec :: Ed :: Ee :: x38 :: x39 :: x40 :: x41 :: []).toArray 85 (0, 0)) • tY 1 wv (hl.length + 1) (strs (nN hl)) • Row 9 1 nv (hl.length + 1) (strs (pV hl tx)) • jf h hl base most • F)) (fun (⟨i, u⟩ : Nat × Value) => ch.length - i) ((0, .slice none 0 0)) AA uj ⟨by omega, (HC3.f7.f7.f6.f7.f7.f7.f7).gV none⟩ ?_
  rintro ⟨i, u⟩ w3 ⟨hi, HL⟩
  dsimp only [List.cons_append, List.nil_append]
  refine aO (bY O (dn O (aZ (fA ((HL.f2).aG) underlying189 O) (aZ (iE O O) (kE O (fun h1 => ?_) (fun h1 => ?_))))))
  · (try simp only [aK] at h1)
    refine gX (aO (bI (aO ?_)))
    have hil : i < ch.length := by omega
    have hfi := hfl i
    have ZK := HL.drew
    have DU := V.kp (ZK.f8.f8.f8.f8.f8.f8.f8.f8)
    refine wL [4, 8] DU O (gK 0 O DU O (gK 1 O DU O ?_))
    obtain ⟨bu2, ou2, cu2, eu2⟩ := Rd.qP ((ZK.f2).aG) (by omega)
    cases eu2
    refine jR 2 O DU (fun _ => eG underlying189 sizeOf192 O O (by omega)) (fH 3 O DU 0 underlying192 O ah O (iY 4 O DU (fun W hW => Jf (jk (eH ay O) O (Rd.atS (((Kp.h hW).f2).aG) (by omega) (by decide))) (ZJ hil)) (gK 5 O DU O (jL 6 O DU O (fH 7 O DU 2 dH O ah O (iY 8 O DU (fun W hW => jQ ay O ((Kp.h hW).f3).get.2 O) (jR 9 O DU (fun _ => fF O O) (qN (bC (eP O (fun h2 => ?_) (fun h2 => ?_)))))))))))
    · (try simp only [aK] at h2)
      have hpl : (ch.getD i default).1 ≠ place := h2
      have aed := ZK.drew
      have Bv := V.kp (aed.f8.f8.f8.f8.f8.f8.f8.f8)
      refine wL [5, 10] Bv O (gK 0 O Bv O (gK 1 O Bv O (gK 2 O Bv O (jR 3 O Bv (fun _ => eG underlying189 sizeOf192 O O (by omega)) (fH 4 O Bv 0 underlying192 O ah O (iY 5 O Bv (fun W hW => Jf (jk (eH ay O) O (Rd.atS (((Kp.h hW).f2).aG) (by omega) (by decide))) (ZJ hil)) (gK 6 O Bv O (gK 7 O Bv O (jR 8 O Bv (fun _ => eG underlying189 sizeOf192 O O (by omega)) (fH 9 O Bv 1 underlying192 O qV O (iY 10 O Bv (fun W hW => Jf (jk (eH lD O) O (Rd.atS (((Kp.h hW).f2).aG) (by omega) (by decide))) (acL hil)) ?_)))))))))))
      refine jR 11 O Bv (fun _ => fC (zl := [.int .i64 0, .string .empty]) (pl := [(0, 1), (1, 1)]) [_, _] oq o9 O (fun w => by kernel_rfl) O (.on (.on .nil)) O) ?_
      refine lU 12 O (lK aed dZ oK o9 O O O (by decide) (by decide)) ?_
      rintro l4 w4 H4
      have xR := V.kp (H4.f9.f9.f9.f9.f9.f9.f9.f9.f9)
      refine fG xR (by kernel_rfl) ?_
      refine lU 13 O (dQ H4.f2 dZ P7 O O O ((H4).aG) (aH (aH bG)) (by omega) (by omega)) ?_
      rintro l5 w5 H5
      have Hd6 := H5.f2.right
      have CQ := V.kp (Hd6.f8.f8.f8.f8.f8.f8.f8.f8)
      refine fG CQ (by kernel_rfl) ?_
      refine jR 14 O CQ (fun _ => iV O) (qN (aX (bC (aB (dn O (aZ (fZ O O (by omega)) (oD O (cO ?_))))))))
      refine eX ((i + 1, l5)) ?_ ?_ ?_ ?_
      · exact uj
      · exact AA
      · (try dsimp only)
        first | done | exact ⟨by omega, by rw [Ja hil]; first | (rw [if_pos (by simpa using hpl), List.length_append, List.flatMap_append]; exact Hd6.f8.f8.f8.f8.f8.f8.f8.f8) | (rw [if_neg (by simpa using hpl), List.append_nil]; exact Hd6.f8.f8.f8.f8.f8.f8.f8.f8)⟩
      · (try dsimp only); omega
    · (try simp only [aK] at h2)
      have hpl : ¬ (ch.getD i default).1 ≠ place := by simpa using h2
      refine fV (aX (bC (aB (dn O (aZ (fZ O O (by omega)) (oD O (cO ?_)))))))
      refine eX ((i + 1, u)) ?_ ?_ ?_ ?_
      · exact uj
      · exact AA
      · (try dsimp only)
        first | done | exact ⟨by omega, by rw [Ja hil]; first | (rw [if_pos (by simpa using hpl), List.length_append, List.flatMap_append]; exact ZK.f8.f8.f8.f8.f8.f8.f8.f8) | (rw [if_neg (by simpa using hpl), List.append_nil]; exact ZK.f8.f8.f8.f8.f8.f8.f8.f8)⟩
      · (try dsimp only); omega
  · (try simp only [aK] at h1)
    refine gY (aY ?_)
    obtain rfl : i = ch.length := by omega
    have HQ := HL
    rw [List.take_length, ← aec] at HQ
    have hsl := uU hl tx place hl.length
    have hkk : 0 ≤ (hl.length : Int) ∧ (hl.length : Int) < ((hl.length + 1 : Nat) : Int) ∧ (pV hl tx).length = hl.length + 1 := ⟨by omega, by omega, hnl⟩
    have hno : (pV hl tx).getD (hl.length : Int).toNat .empty = iK hl tx hl.length := by rw [Int.toNat_natCast, Md (by omega)]
    refine aY (dw (bC (aO (aO ?_))))
    obtain ⟨ahQ, afV, aaP⟩ := (HQ.f8).Gw
    refine aB (lM O O (Z 0 aI O sizeOf54 O (dL xk O (aaP.f7).get.2 O (dA O (Z 0 gU O jJ O (dL bZ O (aaP).get.2 O (aZ (fA ((aaP.f2).Au) bZ O) (oD O ?_))))))))
    have Ho9 := aaP.f2.f2
    have aaQ := V.Bd afV Ho9
    refine pG O (dA O (Z 2 dH O ah O (dL ay O (aaQ.f4).get.2 O (dn O (aZ (fF O O) (kE O (fun h3 => ?_) (fun h3 => ?_)))))))
    · (try simp only [aK] at h3)
      have hsv : tq hl tx place = qy hl tx place hl.length ++ [((hl.length : Int), iK hl tx hl.length)] := by unfold tq; rw [if_pos h3]
      refine bY O (dn O (fO O func132 (MK aaQ.f5.f5 (by assumption)) ?_))
      rintro _ Hr ⟨rfl, rX⟩
      rw [hno]
      refine dn O (xZ O O (xZ O O (oD O (jZ O (aB (jw O O (dn O ?_)))))))
      refine aZ (fC (zl := [.int .i64 0, .string .empty]) (pl := [(0, 1), (1, 1)]) [_, _] oq o9 O (fun w => by kernel_rfl) O (.on (.on .nil)) O) ?_
      refine jW (lK rX dZ oK o9 O O O (by decide) (by decide)) ?_
      rintro l12 w12 vN
      refine jW (dQ vN.f5 dZ P7 O O O ((vN).aG) (aH (aH bG)) (by omega) (by omega)) ?_
      rintro l13 TB AB
      have RQ := AB.f2.right
      refine jZ O (bY O (jP O (gy results107 O ?_)))
      first
        | (rw [hsv, List.length_append, List.flatMap_append]; exact RQ.f2.right.f2.right.f3.right.f2.f5.f5.f5.f5)
        | (rw [hsv]; exact RQ.f2.right.f2.right.f3.right.f2.f5.f5.f5.f5)
    · (try simp only [aK] at h3)
      have hsv : tq hl tx place = qy hl tx place hl.length := by unfold tq; rw [if_neg (by simpa using h3), List.append_nil]
      refine gX (bY O (jP O (gy results107 O ?_)))
      first
        | (rw [hsv, List.length_append, List.flatMap_append]; exact aaQ.f3.right.f3.right.f3.right.f5.f5.f5.f5)
        | (rw [hsv]; exact aaQ.f3.right.f3.right.f3.right.f5.f5.f5.f5)
theorem zM (hpi : s.inn = false → s.put = []) : s.Dv = (s.here.length : Int) + if s.put.length = 0 then 0 else if (decide (s.cls = 3) && s.whole && s.c.run) = true then 0 else 1 := by
  unfold bP.Dv sN
  rw [Ti]
  congr 1
  by_cases hp : s.put = []
  · simp [hp]
  · have hin : s.inn = true := by
      by_cases h : s.inn = true
      · exact h
      · exact absurd (hpi (by simpa using h)) hp
    have hl : ¬ s.put.length = 0 := fun h => hp (List.eq_nil_of_length_eq_zero h)
    rw [if_neg hl]
    have he : s.put.isEmpty = false := by cases h : s.put <;> simp_all
    rw [hin, he]
    by_cases hc : (decide (s.cls = 3) && s.whole && s.c.run) = true
    · simp [hc]
    · simp [hc]
set_option maxHeartbeats 1000000 in
theorem NH (H : V w0 w (iT y s • F)) (hpi : s.inn = false → s.put = []) : iQ prog 57 #[.pointer (some ⟨y, 0, none⟩)] w fun v w' => ∃ u ks us sv, v = .agg (BP s u ks sv).toArray ∧
  V w0 w' (jg 21 .i32 u s.c.L • Row 23 1 ks s.c.E.length us • pR .i32 us (fK s.c.E s.c.at_) • Row 154 2 sv s.saved.length (s.saved.flatMap lT) • iT y s • F) := by
 refine jH func57 ntmps57 ?_
 obtain ⟨MB, zk, zn, zo, zq, BR, BU, Ny, BX, BZ, Bl, Bo, Bq, zu, zx, zy, zA, zB, zC, zD, zF, zG, zH, zI, zJ, jG, qW, lI⟩ := (H).Bj
 have hE9 := jG.rx.1.2
 have ad5 := S9 jG
 refine lQ (jW (gq (l := [_, _, _, _, _, _, _, _, _, _, _, _, _, _, _, _, _]) lI iD O) ?_)
 rintro _ w2 ⟨b2, rfl, H2⟩
 refine qJ ?_
 have KE := H2.drew
 have kR := V.kp (KE.f13.f13.f13.f13.f13.f13.f13.f13.f13.f13.f13.f13.f13)
 refine wL [9] kR O (gK 0 O kR O (jL 1 O kR O (fH 2 O kR 1 aI O dB O (fH 3 O kR 6 bH O sizeOf81 O (gK 4 O kR O (jL 5 O kR O (fH 6 O kR 1 aI O dB O (fH 7 O kR 2 bH O mP O (fH 8 O kR 2 dH O ah O (iY 9 O kR (fun W hW => jQ ay O ((Kp.h hW).f2).get.2 O) (lU 10 O (xB O func95 (Fv KE.f9.f9.f9.f5)) ?_)))))))))))
 rintro u3 w3 ⟨gs3, afW, H3⟩
 obtain ⟨gu, rfl⟩ : ∃ q, q = u3 := ⟨_, rfl⟩
 obtain ⟨gs, rfl⟩ : ∃ q, q = gs3 := ⟨_, rfl⟩
 have hG : Aw gs = s.here := by rw [afW, jG.CS]; rfl
 have hgl : gs.length = s.here.length := by rw [← hG]; exact (List.length_map _).symm
 have Nj := H3.f2.f2
 have JJ := Nj
 have En := V.kp (JJ.f15.f15.f15.f15.f15.f15.f15.f15.f15.f15.f15.f15.f15.f15.f15)
 refine fG En (by kernel_rfl) ?_
 refine jR 11 O En (fun _ => fA ((JJ).nO) bJ O) ?_
 have Hd6 := JJ.right
 have PK := Hd6.right
 refine jR 12 O En (fun _ => iV O) (qN (bC ?_))
 refine vP [(0, _), (2, _)] (fun (_ : Unit) => [(3, .int .i64 s.Dv)]) (fun (_ : Unit) W => V w0 W (eF b2 (.cells (.slice none 0 0 :: .int .i64 0 :: .int .i64 0 :: .int .i64 0 :: .bool false :: .bool false :: .bool false :: .int .i64 0 :: .int .i64 0 :: .int .i64 0 :: .int .i64 0 :: .slice none 0 0 :: .int .i64 0 :: .slice none 0 0 :: .int .i64 0 :: .int .i64 0 :: .int .i64 0 :: []).toArray 42 (0, 0)) • eF y (.cells (.pointer (some ⟨MB, 0, none⟩) :: .pointer (some ⟨zk, 0, none⟩) :: .pointer (some ⟨zn, 0, none⟩) :: zo :: zq :: .int .i64 s.c.place :: .string (iK s.hl s.c.tx s.c.place) :: BR :: BU :: .int .i64 s.c.mode :: .bool s.c.over :: .int .i64 s.c.res :: .bool s.c.run :: zu :: zx :: zy :: zA :: zB :: zC :: zD :: zF :: zG :: zH :: zI :: zJ :: .bool s.given :: .bool s.minus :: .int .i64 s.arg :: .int .i64 s.xI :: .int .i64 s.Uo :: .int .i64 s.Ur :: .int .i64 s.nZ :: .bool s.inn :: .int .i64 s.cls :: .int .i64 Bl :: .int .i64 Bo :: .bool s.argues :: .bool s.kJ :: .bool s.kZ :: BX :: .bool s.whole :: .bool Bq :: []).toArray 85 (0, 0)) • kN zk s.c.L s.c.pt s.c.mark • lF zn s.c.E s.c.at_ • tY 1 zo (s.hl.length + 1) (strs (nN s.hl)) • Row 9 1 zq (s.hl.length + 1) (strs (pV s.hl s.c.tx)) • qK .i64 BR (Ny.map (·.1)) • tY 1 BU Ny.length (Ny.map (·.2.1)) • rW Ny • jf MB s.hl s.base s.most • Row 130 3 BX s.put.length (BZ.flatMap fB.enc) • nP BZ • Ep s.inn s.hl s.was [zu, zx, zy, zA, zB, zC, zD, zF, zG, zH, zI, zJ] • F)) uj ?_ ?_
 ·rintro _ w8 HJ
  dsimp only [List.cons_append, List.nil_append]
  refine aO ?_
  have aee := HJ.drew
  have jE := V.kp (aee.f13.f13.f13.f13.f13.f13.f13.f13.f13.f13.f13.f13.f13)
  refine wL [6, 11, 15, 19, 23, 27, 31, 35, 43, 51, 55] jE O (gK 0 O jE O (gK 2 O jE O (jL 3 O jE O (fH 4 O jE 1 aI O dB O (fH 5 O jE 8 bH O ah O (iY 6 O jE (fun W hW => jQ ay O ((Kp.h hW).f2).get.2 O) (gK 7 O jE O (jL 8 O jE O (fH 9 O jE 1 aI O dB O (fH 10 O jE 9 bH O aN O (iY 11 O jE (fun W hW => jQ bf O ((Kp.h hW).f2).get.2 O) (gK 12 O jE O (jL 13 O jE O (fH 14 O jE 25 aI O aN O (iY 15 O jE (fun W hW => jQ bf O ((Kp.h hW).f2).get.2 O) (gK 16 O jE O (jL 17 O jE O (fH 18 O jE 26 aI O aN O (iY 19 O jE (fun W hW => jQ bf O ((Kp.h hW).f2).get.2 O) (gK 20 O jE O (jL 21 O jE O (fH 22 O jE 27 aI O ah O (iY 23 O jE (fun W hW => jQ ay O ((Kp.h hW).f2).get.2 O) (gK 24 O jE O (jL 25 O jE O (fH 26 O jE 28 aI O ah O (iY 27 O jE (fun W hW => jQ ay O ((Kp.h hW).f2).get.2 O) (gK 28 O jE O (jL 29 O jE O (fH 30 O jE 29 aI O ah O (iY 31 O jE (fun W hW => jQ ay O ((Kp.h hW).f2).get.2 O) (gK 32 O jE O (jL 33 O jE O (fH 34 O jE 30 aI O ah O (iY 35 O jE (fun W hW => jQ ay O ((Kp.h hW).f2).get.2 O) (gK 36 O jE O (gK 38 O jE O (jL 39 O jE O (fH 40 O jE 1 aI O dB O ?_)))))))))))))))))))))))))))))))))))))))
  refine fH 41 O jE 2 bH O mP O (fH 42 O jE 2 dH O ah O (iY 43 O jE (fun W hW => jQ ay O ((Kp.h hW).f2).get.2 O) (gK 44 O jE O (gK 46 O jE O (gK 47 O jE O (jL 48 O jE O (fH 49 O jE 1 aI O dB O (fH 50 O jE 10 bH O ah O (iY 51 O jE (fun W hW => jQ ay O ((Kp.h hW).f2).get.2 O) (gK 52 O jE O (jL 53 O jE O (fH 54 O jE 31 aI O jU O (iY 55 O jE (fun W hW => jQ jV O ((Kp.h hW).f2).get.2 O) (lU 1 O (xB O func14 (Qp aee.f3.f3)) ?_))))))))))))))
  rintro _ w9 ⟨u9, rfl, H9⟩
  have Em := V.kp (H9.f14.f14.f14.f14.f14.f14.f14.f14.f14.f14.f14.f14.f14.f14)
  refine dV Em (fun W hW => (Kp.h hW).right.f13.f13.f13.f13.f13.f13.f13.f13.f13.f13.f12.f12.f13) ?_
  refine lU 37 O (xB O func64 (EL H9.f5.f3 (by assumption))) ?_
  rintro u10 w10 ⟨ahR, rD⟩
  have CB := V.kp (rD.f16.f16.f16.f16.f16.f16.f16.f16.f16.f16.f16.f16.f16.f16.f16.f16)
  refine dV CB (fun W hW => (Kp.h hW).right.right.f14.f14.f14.f14.f14.f14.f14.f14.f14.f11.f14.f14.f13.f14) ?_
  refine lU 45 O (xB O func107 (NG rD.f13.f10.f10.f6)) ?_
  rintro u11 Hr rX
  have KJ := V.kp (rX.f17.f17.f17.f17.f17.f17.f17.f17.f17.f17.f17.f17.f17.f17.f17.f17.f17)
  refine dV KJ (fun W hW => (Kp.h hW).right.f16.f16.f16.f7.f16.f16.f16.f10.f10.f16.f16.f16.f16.f14.f16.f16) ?_
  refine jR 56 O KJ (fun _ => fC (zl := [.slice none 0 0, .int .i64 0, .int .i64 0, .int .i64 0, .bool false, .bool false, .bool false, .int .i64 0, .int .i64 0, .int .i64 0, .int .i64 0, .slice none 0 0, .int .i64 0, .slice none 0 0, .int .i64 0, .int .i64 0, .int .i64 0]) (pl := [(0, 3), (3, 1), (4, 1), (5, 1), (6, 1), (7, 1), (8, 1), (9, 1), (10, 1), (11, 1), (12, 1), (13, 1), (14, 1), (15, 1), (16, 1)]) [_, _, _, _, _, _, _, _, _, _, _, _, _, _, _, _, _] aS iD O (fun w => by kernel_rfl) O (.agg (us := [_, _, _]) (zs := [.slice none 0 0, .int .i64 0, .int .i64 0]) O O (.on (.on (.on (.on (.on (.on (.on (.on (.one (Rd.one ((rX.f6).aG)) (.on (.one (Rd.one ((rX).aG)) (.on (.on (.on .nil))))))))))))))) O) ?_
  refine gJ 57 O (by kernel_rfl) (dD 0 (l' := [_, _, _, _, _, _, _, _, _, _, _, _, _, _, _, _, _]) (us := [_, _, _, _, _, _, _, _, _, _, _, _, _, _, _, _, _]) rX.f11 kL O O O (aW (by first | rfl | exact Rd.one ((rX.f9).aG)) (aH (aH (aH (aH (aH (aH (aH (aH (aH (aH (aW (by first | rfl | exact Rd.one ((rX.f6).aG)) (aH (aW (by first | rfl | exact Rd.one ((rX).aG)) (aH (aH (aH bG))))))))))))))))) O O) ?_
  rintro _ w12 vN
  have Dl := V.kp (vN.f17.f17.f17.f17.f17.f17.f17.f17.f17.f17.f17.f17.f17.f17.f17.f17.f17)
  refine fG Dl (by kernel_rfl) ?_
  refine qN (bC (oP ?_))
  refine qO (.inl O) (Jg results57 O aS O (by rw [YP]; rfl) (vN).get.2) ?_
  have PU := vN.f17.f17.f17.f9.f17.f17.f17.f12.f12.f15.f17.f14
  have PV := V.lu (s := s) jG PU
  exact ⟨_, _, _, _, O, PV.f2.right.f2.f4.f4.f5⟩
 ·skip
  refine bY O (dA O (Z 39 aI O bn O (dL aQ O (PK).get.2 O (aZ (fA ((PK.f11).aG) aQ O) (aZ (gG O O) (kE O (fun h1 => ?_) (fun h1 => ?_)))))))
  ·(try simp only [aK] at h1)
   refine bY O (aZ (fZ O O (by omega)) (jZ O (bY O (dA O (Z 33 aI O ah O (dL ay O (PK).get.2 O (aZ (je O O) (qG O (fun h2 => ?_) (fun h2 => ?_)))))))))
   ·(try simp only [aK] at h2)
    refine bK (dn O (bK (dA O (bK (Z 40 aI O aN O (bK (dL bf O (PK).get.2 O (nX O O (qG O (fun h3 => ?_) (fun h3 => ?_))))))))))
    ·(try simp only [aK] at h3)
     refine bK (dn O (bK (dA O (bK (Z 1 aI O dB O (bK (Z 11 bH O aN O (bK (dL bf O (PK).get.2 O (nX O O (kE O (fun h4 => ?_) (fun h4 => ?_))))))))))))
     ·(try simp only [aK] at h4)
      refine aB (dn O (aZ (lJ O O (by omega)) (oD O (cO ?_))))
      refine gZ (()) ?_ ?_ ?_
      ·exact (Sub.qF O (by rw [zM hpi, ← hgl]; congr 1; split <;> (try split) <;> (first | omega | (exfalso; simp_all; done) | (exfalso; simp_all; omega))) (Sub.nil _))
      ·exact uj
      ·(try dsimp only)
       first | done | exact PK.f13.f13.f13.f13.f8.f8.f8.f13.f13.f13.f13.f12.f13
     ·(try simp only [aK] at h4)
      refine fV ?_
      refine gZ (()) ?_ ?_ ?_
      ·exact (Sub.qF O (by rw [zM hpi, ← hgl]; congr 1; split <;> (try split) <;> (first | omega | (exfalso; simp_all; done) | (exfalso; simp_all; omega))) (Sub.nil _))
      ·exact uj
      ·(try dsimp only)
       first | done | exact PK.f13.f13.f13.f13.f8.f8.f8.f13.f13.f13.f13.f12.f13
    ·(try simp only [aK] at h3)
     refine cZ (cZ (cZ (cZ (cZ (lH O O (iF (vX (fV ?_))))))))
     refine gZ (()) ?_ ?_ ?_
     ·exact (Sub.qF O (by rw [zM hpi, ← hgl]; congr 1; split <;> (try split) <;> (first | omega | (exfalso; simp_all; done) | (exfalso; simp_all; omega))) (Sub.nil _))
     ·exact uj
     ·(try dsimp only)
      first | done | exact PK.f13.f13.f13.f13.f8.f8.f8.f13.f13.f13.f13.f12.f13
   ·(try simp only [aK] at h2)
    refine cZ (cZ (cZ (cZ (lH O O (dn O (cZ (cZ (cZ (cZ (cZ (lH O O (iF (vX (fV ?_))))))))))))))
    refine gZ (()) ?_ ?_ ?_
    ·exact (Sub.qF O (by rw [zM hpi, ← hgl]; congr 1; split <;> (try split) <;> (first | omega | (exfalso; simp_all; done) | (exfalso; simp_all; omega))) (Sub.nil _))
    ·exact uj
    ·(try dsimp only)
     first | done | exact PK.f13.f13.f13.f13.f8.f8.f8.f13.f13.f13.f13.f12.f13
  ·(try simp only [aK] at h1)
   refine fV ?_
   refine gZ (()) ?_ ?_ ?_
   ·exact (Sub.qF O (by rw [zM hpi, ← hgl]; congr 1; split <;> (try split) <;> (first | omega | (exfalso; simp_all; done) | (exfalso; simp_all; omega))) (Sub.nil _))
   ·exact uj
   ·(try dsimp only)
    first | done | exact PK.f13.f13.f13.f13.f8.f8.f8.f13.f13.f13.f13.f12.f13
end
section
variable {L : List (Nat × Value)} {w : World} {x y : Operand} {ty : TypeId}
theorem GN {c : Int × ByteArray} (hx : ev L x = some (.agg (lT c).toArray)) (hy : ev L y = some (.agg (lT c).toArray)) : Val prog L (.binOp .neq 154 x y 154) ty w (.bool false) w := fun ρ hρ _ _ _ _ => by
  simp only [execOp, hρ _ _ hx, hρ _ _ hy]
  have h0 : (eqGuard .neq 154 x y (.agg (lT c).toArray) (.agg (lT c).toArray)).run prog w = .ok () w := run_eqGuard_agg w .neq _ x y _ _ (by kernel_rfl)
  have hf : prog.underlying 154 = some (.struct (prog.fieldsOf 154)) := by kernel_rfl
  have hp : prog.stoodInHeld 154 = false := by kernel_rfl
  have hfs : ((prog.fieldsOf 154).toList.map fun f => (f.name, f.type, f.offset)) = [("At", 3, 0), ("Text", 9, 1)] := by kernel_rfl
  have h1 : (Op.eqFields 9999 (lT c).toArray (lT c).toArray (prog.fieldsOf 154).toList).run prog w = .ok true w := by
    generalize (prog.fieldsOf 154).toList = fs at hfs
    match fs, hfs with
    | [], hfs | [_], hfs | _ :: _ :: _ :: _, hfs => simp at hfs
    | [f1, f2], hfs =>
      simp only [List.map_cons, List.map_nil, List.cons.injEq, Prod.mk.injEq, and_true] at hfs
      obtain ⟨⟨n1, t1, o1⟩, n2, t2, o2⟩ := hfs
      have p1 : qo prog 9 = true := eH underlying9 rfl
      have p2 : qo prog 3 = true := eH underlying3 rfl
      have VU : ∀ (e : TypeId) (xs : Array Value) (off : Nat) (v : Value), qo prog e = true → xs[off]? = some v → (part e xs off).run prog w = .ok v w := fun e xs off v h1 h2 => by simp [part, BF h1, h2]
      have st : ∀ (f : Field) (e : TypeId) (off : Nat) (u v : Value) (r : Bool) (rest : List Field), f.name ≠ "_" → f.type = e → f.offset = off → qo prog e = true → (lT c).toArray[off]? = some u → (lT c).toArray[off]? = some v → (Op.equalIn 9999 e u v).run prog w = .ok r w →
          (Op.eqFields 9999 (lT c).toArray (lT c).toArray (f :: rest)).run prog w = if r then (Op.eqFields 9999 (lT c).toArray (lT c).toArray rest).run prog w else .ok false w := fun f e off u v r rest hn ht ho hp h1 h2 h3 => by
        subst ht ho
        rw [Op.eqFields, if_pos hn, Sem.run_bind, VU _ _ _ _ hp h1, Result.andThen_ok, Sem.run_bind, VU _ _ _ _ hp h2, Result.andThen_ok, Sem.run_bind, h3, Result.andThen_ok]
        cases r
        · simp
        · simp
      rw [st f1 _ _ _ _ _ _ (by rw [n1]; decide) t1 o1 p2 rfl rfl (run_equalIn_int w 9998 3 .i64 .i64 c.1 c.1 underlying3),
        st f2 _ _ _ _ _ _ (by rw [n2]; decide) t2 o2 p1 rfl rfl (run_equalIn_string w 9998 9 c.2 c.2 underlying9)]
      simp [Op.eqFields]
  have h2 := run_neq_struct (P := prog) w 154 (lT c).toArray (lT c).toArray
  rw [run_equalIn_agg w 9999 _ _ _ hf hp, h1] at h2
  simp [h0, h2]
end
structure StM where
  pt : Int
  mrk : Int
  mode : Int
  over : Bool
  given : Bool
  minus : Bool
  arg : Int
  last : Int
  fr : Int
  to : Int
  place : Int
  aef : Int
  res : Int
  nZ : Int
def ZW (x : StM) (u ks sv : Value) : List Value := [u, .int .i64 x.pt, .int .i64 x.mrk, .int .i64 x.mode, .bool x.over, .bool x.given, .bool x.minus, .int .i64 x.arg, .int .i64 x.last, .int .i64 x.fr, .int .i64 x.to, ks, .int .i64 x.place, sv, .int .i64 x.aef, .int .i64 x.res, .int .i64 x.nZ]
theorem J3 (x : Int × ByteArray) : (lT x).length = 2 := rfl
section
variable {w0 w : World} {F : HP} {x : StM} {u z ks qs sv tv : Value} {l : List Int} {ls : List (List Int)} {us vs : List Value} {S : List (Int × ByteArray)}
theorem ML (H : V w0 w F) (g1 : jY w0 F .i32 u l) (g2 : jY w0 F .i32 z l) (k1 : CJ w0 F 1 ks ls.length us) (k2 : CJ w0 F 1 qs ls.length vs)
  (e1 : ∀ k, k < ls.length → jY w0 F .i32 (us.getD k undef) (ls.getD k [])) (e2 : ∀ k, k < ls.length → jY w0 F .i32 (vs.getD k undef) (ls.getD k []))
  (s1 : CJ w0 F 2 sv S.length (S.flatMap lT)) (s2 : CJ w0 F 2 tv S.length (S.flatMap lT)) :
  iQ prog 56 #[.agg (ZW x u ks sv).toArray, .agg (ZW x z qs tv).toArray] w fun v' w' => v' = .bool true ∧ V w0 w' F := by
 have hb1 : (ls.length : Int) ≤ 9223372036854775807 := by obtain ⟨_, a, c, _, h1, h2, _⟩ := k1 w H; omega
 have hb2 : (S.length : Int) ≤ 9223372036854775807 := by obtain ⟨_, a, c, _, h1, h2, _⟩ := s1 w H; omega
 unfold ZW
 refine qQ func56 ntmps56 ?_
 refine lQ (jW (kC (l := [_, _, _, _, _, _, _, _, _, _, _, _, _, _, _, _, _]) H O O) ?_)
 rintro _ w1 ⟨b1, rfl, H1⟩
 refine jW (kC (l := [_, _, _, _, _, _, _, _, _, _, _, _, _, _, _, _, _]) H1 O O) ?_
 rintro _ w2 ⟨b2, rfl, H2⟩
 refine uK O (lQ (Z 0 aS O kH O (aZ (qX 0 (xs := [_, _, _]) dU O kH O O (H2.f2).get.2 O) (Z 0 aS O kH O (aZ (qX 0 (xs := [_, _, _]) dU O kH O O (H2).get.2 O) (fO O func58 (EK (l := l) (pt := x.pt) (mk := x.mrk) H2 (fun W HW => g1 _ (HW.right.right)) (fun W HW => g2 _ (HW.right.right))) ?_))))))
 rintro _ w3 ⟨rfl, H3⟩
 refine aZ (kY O) (JC O (fun h1 => ?_))
 (try simp only [aK] at h1)
 refine bK (Z 3 aS O ah O (bK (dL ay O (H3.f2).get.2 O (bK (Z 3 aS O ah O (bK (dL ay O (H3).get.2 O (bK (aZ (fF O O) (lH O O (JC O (fun h2 => ?_))))))))))))
 (try simp only [aK] at h2)
 refine bK (Z 4 aS O aN O (bK (dL bf O (H3.f2).get.2 O (bK (Z 4 aS O aN O (bK (dL bf O (H3).get.2 O (bK (aZ (EO bf O O) (lH O O (JC O (fun h3 => ?_))))))))))))
 (try simp only [aK] at h3)
 refine bK (Z 5 aS O aN O (bK (dL bf O (H3.f2).get.2 O (bK (Z 5 aS O aN O (bK (dL bf O (H3).get.2 O (bK (aZ (EO bf O O) (lH O O (JC O (fun h4 => ?_))))))))))))
 (try simp only [aK] at h4)
 refine bK (Z 6 aS O aN O (bK (dL bf O (H3.f2).get.2 O (bK (Z 6 aS O aN O (bK (dL bf O (H3).get.2 O (bK (aZ (EO bf O O) (lH O O (JC O (fun h5 => ?_))))))))))))
 (try simp only [aK] at h5)
 refine bK (Z 7 aS O ah O (bK (dL ay O (H3.f2).get.2 O (bK (Z 7 aS O ah O (bK (dL ay O (H3).get.2 O (bK (aZ (fF O O) (lH O O (JC O (fun h6 => ?_))))))))))))
 (try simp only [aK] at h6)
 refine bK (Z 8 aS O ah O (bK (dL ay O (H3.f2).get.2 O (bK (Z 8 aS O ah O (bK (dL ay O (H3).get.2 O (bK (aZ (fF O O) (lH O O (JC O (fun h7 => ?_))))))))))))
 (try simp only [aK] at h7)
 refine bK (Z 9 aS O ah O (bK (dL ay O (H3.f2).get.2 O (bK (Z 9 aS O ah O (bK (dL ay O (H3).get.2 O (bK (aZ (fF O O) (lH O O (JC O (fun h8 => ?_))))))))))))
 (try simp only [aK] at h8)
 refine bK (Z 10 aS O ah O (bK (dL ay O (H3.f2).get.2 O (bK (Z 10 aS O ah O (bK (dL ay O (H3).get.2 O (bK (aZ (fF O O) (lH O O (JC O (fun h9 => ?_))))))))))))
 (try simp only [aK] at h9)
 refine bK (Z 11 aS O dG O (bK (dL aT O (H3.f2).get.2 O (bK (aZ (fA (k1 _ (H3.right.right)) aT O) (bK (Z 11 aS O dG O (bK (dL aT O (H3).get.2 O (bK (aZ (fA (k2 _ (H3.right.right)) aT O) (bK (aZ (fF O O) (lH O O (iF (FH O (fun h10 => ?_)))))))))))))))))
 (try simp only [aK] at h10)
 refine gX (aO (kW O (bI ?_)))
 refine iC [(2, _), (3, _)] (fun (k : Nat) => [(5, .int .i64 (k : Int))]) (fun (k : Nat) W => k ≤ ls.length ∧ V w0 W (eF b1 (.cells (ZW x u ks sv).toArray 42 (0, 0)) • eF b2 (.cells (ZW x z qs tv).toArray 42 (0, 0)) • F)) (fun (k : Nat) => ls.length - k) (0) uj pY ⟨by omega, H3.f2⟩ ?_
 rintro k w4 ⟨hk, HL⟩
 dsimp only [List.cons_append, List.nil_append]
 refine aO (bY O (Z 11 aS O dG O (dL aT O (HL).get.2 O (aZ (fA (k1 _ (HL.right.right)) aT O) (aZ (iE O O) (kE O (fun h11 => ?_) (fun h11 => ?_)))))))
 ·(try simp only [aK] at h11)
  have hkl : k < ls.length := by have h9 := h11; omega
  refine gX (aO (bI (aO ?_)))
  have Xn := HL.drew
  have DV := V.kp (Xn.f2.f2)
  refine wL [1, 4, 6, 9] DV O (fH 0 O DV 11 aS O dG O (iY 1 O DV (fun W hW => jQ aT O ((Kp.h hW)).get.2 O) (gK 2 O DV O ?_)))
  obtain ⟨bks, oks, cks, eks⟩ := Rd.qP (k1 _ (Xn.right.right)) (by omega)
  cases eks
  refine jR 3 O DV (fun _ => eG aT bg O O (by omega)) ?_
  refine iY 4 O DV (fun W hW => jk (eH aA O) O (by first | exact Rd.wG (k1 _ ((Kp.h hW).right.right)) (by omega) | exact Rd.Hf (k1 _ ((Kp.h hW).right.right)) (by omega) | exact Rd.GX (k1 _ ((Kp.h hW).right.right)) (by omega))) ?_
  refine TN (fun agz acN => ?_)
  refine fH 5 O DV 11 aS O dG O (iY 6 O DV (fun W hW => jQ aT O ((Kp.h hW).f2).get.2 O) (gK 7 O DV O ?_))
  obtain ⟨bqs, oqs, cqs, eqs⟩ := Rd.qP (k2 _ (Xn.right.right)) (by omega)
  cases eqs
  refine jR 8 O DV (fun _ => eG aT bg O O (by omega)) ?_
  refine iY 9 O DV (fun W hW => jk (eH aA O) O (by first | exact Rd.wG (k2 _ ((Kp.h hW).right.right)) (by omega) | exact Rd.Hf (k2 _ ((Kp.h hW).right.right)) (by omega) | exact Rd.GX (k2 _ ((Kp.h hW).right.right)) (by omega))) ?_
  refine TN (fun agA acO => ?_)
  refine lU 10 O (xB O func106 (QM _ _ _ _ _ ((by rw [acN]; exact e1 _ (by omega) _ (Xn.right.right))) ((by rw [acO]; exact e2 _ (by omega) _ (Xn.right.right))))) ?_
  rintro _ w7 ⟨rfl, hD7⟩
  have HD7 := Xn.wK hD7
  have xU := V.kp (HD7.f2.f2)
  refine fG xU (by kernel_rfl) ?_
  refine jR 11 O xU (fun _ => kY O) (qN (bC (FH O (fun h12 => ?_))))
  (try simp only [aK] at h12)
  refine fV (aX (bC (aB (dn O (aZ (fZ O O (by omega)) (oD O (cO ?_)))))))
  refine eX (k + 1) ?_ ?_ ?_ ?_
  ·exact pY
  ·exact uj
  ·(try dsimp only)
   first | done | exact ⟨by omega, HD7.f2.f2⟩
  ·(try dsimp only); omega
 ·(try simp only [aK] at h11)
  refine gY (aY (aY (dw (bC (aO (lQ (Z 12 aS O ah O (dL ay O (HL).get.2 O (Z 12 aS O ah O (dL ay O (HL.f2).get.2 O (aZ (fF O O) (JC O (fun h13 => ?_)))))))))))))
  (try simp only [aK] at h13)
  refine bK (Z 13 aS O sizeOf40 O (bK (dL dZ O (HL).get.2 O (bK (aZ (fA (s1 _ (HL.right.right)) dZ O) (bK (Z 13 aS O sizeOf40 O (bK (dL dZ O (HL.f2).get.2 O (bK (aZ (fA (s2 _ (HL.right.right)) dZ O) (bK (aZ (fF O O) (lH O O (JC O (fun h14 => ?_))))))))))))))))
  (try simp only [aK] at h14)
  refine bK (Z 14 aS O ah O (bK (dL ay O (HL).get.2 O (bK (Z 14 aS O ah O (bK (dL ay O (HL.f2).get.2 O (bK (aZ (fF O O) (lH O O (JC O (fun h15 => ?_))))))))))))
  (try simp only [aK] at h15)
  refine bK (Z 15 aS O ah O (bK (dL ay O (HL).get.2 O (bK (Z 15 aS O ah O (bK (dL ay O (HL.f2).get.2 O (bK (aZ (fF O O) (lH O O (JC O (fun h16 => ?_))))))))))))
  (try simp only [aK] at h16)
  refine bK (Z 16 aS O jU O (bK (dL jV O (HL).get.2 O (bK (Z 16 aS O jU O (bK (dL jV O (HL.f2).get.2 O (bK (aZ (fF O O) (lH O O (iF (FH O (fun h17 => ?_)))))))))))))
  (try simp only [aK] at h17)
  refine gX (aO (kW O (bI ?_)))
  refine iC [(2, _), (3, _)] (fun (k2 : Nat) => [(6, .int .i64 (k2 : Int))]) (fun (k2 : Nat) W => k2 ≤ S.length ∧ V w0 W (eF b1 (.cells (ZW x u ks sv).toArray 42 (0, 0)) • eF b2 (.cells (ZW x z qs tv).toArray 42 (0, 0)) • F)) (fun (k2 : Nat) => S.length - k2) (0) uj pY ⟨by omega, HL.f2.f2⟩ ?_
  rintro k2 w8 ⟨hk2, HL2⟩
  dsimp only [List.cons_append, List.nil_append]
  refine aO (bY O (Z 13 aS O sizeOf40 O (dL dZ O (HL2).get.2 O (aZ (fA (s1 _ (HL2.right.right)) dZ O) (aZ (iE O O) (kE O (fun h18 => ?_) (fun h18 => ?_)))))))
  ·(try simp only [aK] at h18)
   have hkl2 : k2 < S.length := by have h9 := h18; omega
   refine gX (aO (bI (aO ?_)))
   have VW := HL2.drew
   have xY := V.kp (VW.f2.f2)
   refine wL [1, 4, 6, 9] xY O (fH 0 O xY 13 aS O sizeOf40 O (iY 1 O xY (fun W hW => jQ dZ O ((Kp.h hW)).get.2 O) (gK 2 O xY O ?_)))
   obtain ⟨bsv, osv, csv, esv⟩ := Rd.qP (s1 _ (VW.right.right)) (by omega)
   cases esv
   refine jR 3 O xY (fun _ => eG dZ oK O O (by omega)) (iY 4 O xY (fun W hW => mV (ys := [_, _]) (s1 _ ((Kp.h hW).right.right)) (by omega) oq O oK O (mM J3 (by omega) default) O) (fH 5 O xY 13 aS O sizeOf40 O (iY 6 O xY (fun W hW => jQ dZ O ((Kp.h hW).f2).get.2 O) (gK 7 O xY O ?_))))
   obtain ⟨btv, otv, ctv, etv⟩ := Rd.qP (s2 _ (VW.right.right)) (by omega)
   cases etv
   refine jR 8 O xY (fun _ => eG dZ oK O O (by omega)) (iY 9 O xY (fun W hW => mV (ys := [_, _]) (s2 _ ((Kp.h hW).right.right)) (by omega) oq O oK O (mM J3 (by omega) default) O) (jR 10 O xY (fun _ => GN O O) (qN (bC (FH O (fun h19 => ?_))))))
   (try simp only [aK] at h19)
   refine fV (aX (bC (aB (dn O (aZ (fZ O O (by omega)) (oD O (cO ?_)))))))
   refine eX (k2 + 1) ?_ ?_ ?_ ?_
   ·exact pY
   ·exact uj
   ·(try dsimp only)
    first | done | exact ⟨by omega, VW.f2.f2⟩
   ·(try dsimp only); omega
  ·(try simp only [aK] at h18)
   refine gY (aY (aY (dw (bC (nM O (gy results56 O ?_))))))
   exact ⟨O, HL2.right.right⟩
end
end Go.Proofs.YtnhhmieghbfalaaGreat
end
section
namespace Go.Proofs.YtnhhmieghbfalaaGreat
open Go.RowKit
def aeg (s : bP) : StM := ⟨s.c.pt, s.c.mark, s.c.mode, s.c.over, s.given, s.minus, s.arg, s.xI, s.Uo, s.Ur, s.c.place, s.Dv, s.c.res, s.nZ⟩
end Go.Proofs.YtnhhmieghbfalaaGreat
end
section
namespace Go.Proofs.YtnhhmieghbfalaaGreat
open Go.RowKit
open _root_.Go.Proofs.Tryz
def acP (w0 : World) (fv : Value) : Prop := ∀ (F : HP) (W : World) (v1 v2 : Value) (l : List Int), V w0 W F → jY w0 F .i32 v1 l → jY w0 F .i32 v2 l → Va prog fv [v1, v2] W fun u W' => u = .bool true ∧ V w0 W' F
theorem Xo (w0 : World) : acP w0 (.func (.func 66) #[] #[]) := fun F W v1 v2 l H h1 h2 =>
  ⟨66, [], [], _, _, rfl, func66, rfl, rfl, (Hl W v1 v2 l l (h1 W H) (h2 W H)).mono fun u W' h => ⟨by rw [h.1]; simp, H.wK h.2⟩⟩
section
variable {w0 w : World} {F : HP} {e y : Nat} {s : bP} {v1 v2 fv : Value} {l : List Int} {x : StM} {u z ks qs sv tv : Value} {ls : List (List Int)} {us vs : List Value} {S : List (Int × ByteArray)} {b : Int}
theorem aaR (H : V w0 w F) (h1 : jY w0 F .i32 v1 l) (h2 : jY w0 F .i32 v2 l) : iQ prog 65 #[v1, v2] w fun v w' => v = .bool true ∧ V w0 w' F := by
  refine qQ func65 ntmps65 ?_
  refine kW O (bY O (dn O (fO O func66 (Hl _ _ _ _ _ (h1 _ (H)) (h2 _ (H))) ?_)))
  rintro _ w1 ⟨rfl, hD1⟩
  have HD1 := H.wK hD1
  refine jP O (gy results65 O ?_)
  exact ⟨by simp, HD1⟩
theorem aeh (w0 : World) : acP w0 (.func (.func 65) #[] #[]) := fun F W v1 v2 l H h1 h2 =>
  ⟨65, [], [], _, _, rfl, func65, rfl, rfl, aaR H h1 h2⟩
theorem MN (H : V w0 w F) (hf : acP w0 fv) (k1 : CJ w0 F 1 ks ls.length us) (k2 : CJ w0 F 1 qs ls.length vs)
  (e1 : ∀ k, k < ls.length → jY w0 F .i32 (us.getD k undef) (ls.getD k [])) (e2 : ∀ k, k < ls.length → jY w0 F .i32 (vs.getD k undef) (ls.getD k [])) :
  iQ prog 63 #[ks, qs, fv] w fun v' w' => v' = .bool true ∧ V w0 w' F := by
 have hb1 : (ls.length : Int) ≤ 9223372036854775807 := by obtain ⟨_, a, c, _, h1, h2, _⟩ := k1 w H; omega
 refine ET func63 ntmps63 ?_
 refine kW O (aO (bY O (aZ (fA (k1 _ (H)) aT O) (dn O (aZ (fA (k2 _ (H)) aT O) (aZ (fF O O) (iF (FH O (fun h1 => ?_)))))))))
 (try simp only [aK] at h1)
 refine gX (aO (bY O (aZ (fA (k1 _ (H)) aT O) (dn O (iF (bI ?_))))))
 refine iC [(1, _), (2, _), (15, _), (16, _)] (fun (k : Nat) => [(17, .int .i64 (k : Int))]) (fun (k : Nat) W => k ≤ ls.length ∧ V w0 W F) (fun (k : Nat) => ls.length - k) (0) Pg pY ⟨by omega, H⟩ ?_
 rintro k w1 ⟨hk, HL⟩
 dsimp only [List.cons_append, List.nil_append]
 refine lQ (aZ (iE O O) (qJ (eP O (fun h2 => ?_) (fun h2 => ?_))))
 ·(try simp only [aK] at h2)
  refine gX (aO (bI (aO ?_)))
  have hkl : k < ls.length := by omega
  refine aB (dn O ?_)
  obtain ⟨bks, oks, cks, eks⟩ := Rd.qP (k1 _ (HL)) (by omega)
  cases eks
  refine aZ (eG aT bg O O (by omega)) ?_
  refine aZ (jk (eH aA O) O (by first | exact Rd.wG (k1 _ (HL)) (by omega) | exact Rd.Hf (k1 _ (HL)) (by omega) | exact Rd.GX (k1 _ (HL)) (by omega))) ?_
  refine Ad (fun ad3 UQ => ?_)
  refine oD O (jZ O (bY O (dn O ?_)))
  obtain ⟨bqs, oqs, cqs, eqs⟩ := Rd.qP (k2 _ (HL)) (by omega)
  cases eqs
  refine aZ (eG aT bg O O (by omega)) ?_
  refine aZ (jk (eH aA O) O (by first | exact Rd.wG (k2 _ (HL)) (by omega) | exact Rd.Hf (k2 _ (HL)) (by omega) | exact Rd.GX (k2 _ (HL)) (by omega))) ?_
  refine Ad (fun agB acQ => ?_)
  refine jZ O (bY O (jw O O (jW (V8 O O (hf _ _ _ _ (ls.getD k []) HL (fun W HW => by rw [UQ]; exact e1 k hkl W HW) (fun W HW => by rw [acQ]; exact e2 k hkl W HW))) ?_)))
  rintro _ w4 ⟨rfl, H4⟩
  refine aZ (kY O) (iF (FH O (fun h3 => ?_)))
  (try simp only [aK] at h3)
  refine fV (aX (bC (aB (aZ (fZ O O (by omega)) (dn O (cO ?_))))))
  refine eX (k + 1) ?_ ?_ ?_ ?_
  ·exact pY
  ·exact Pg
  ·(try dsimp only)
   first | done | exact ⟨by omega, H4⟩
  ·(try dsimp only); omega
 ·(try simp only [aK] at h2)
  refine gY (aY (aY (dw (bC (nM O (gy results63 O ?_))))))
  exact ⟨O, HL⟩
theorem Tz (H : V w0 w F) (s1 : CJ w0 F 2 sv S.length (S.flatMap lT)) (s2 : CJ w0 F 2 tv S.length (S.flatMap lT)) : iQ prog 105 #[sv, tv] w fun v' w' => v' = .bool true ∧ V w0 w' F := by
 have hb2 : (S.length : Int) ≤ 9223372036854775807 := by obtain ⟨_, a, c, _, h1, h2, _⟩ := s1 w H; omega
 refine qQ func105 ntmps105 ?_
 refine kW O (aO (bY O (aZ (fA (s1 _ (H)) dZ O) (dn O (aZ (fA (s2 _ (H)) dZ O) (aZ (fF O O) (iF (FH O (fun h1 => ?_)))))))))
 (try simp only [aK] at h1)
 refine gX (aO (bY O (aZ (fA (s1 _ (H)) dZ O) (dn O (iF (bI ?_))))))
 refine iC [(0, _), (1, _), (12, _)] (fun (k : Nat) => [(13, .int .i64 (k : Int))]) (fun (k : Nat) W => k ≤ S.length ∧ V w0 W F) (fun (k : Nat) => S.length - k) (0) AA pY ⟨by omega, H⟩ ?_
 rintro k w1 ⟨hk, HL⟩
 dsimp only [List.cons_append, List.nil_append]
 refine lQ (aZ (iE O O) (qJ (eP O (fun h2 => ?_) (fun h2 => ?_))))
 ·(try simp only [aK] at h2)
  refine gX (aO (bI (aO ?_)))
  have hkl : k < S.length := by omega
  refine aB (dn O (uK O ?_))
  have aaS := HL.drew
  have EM := V.kp (aaS)
  refine wL [3, 7] EM O (gK 0 O EM O (gK 1 O EM O ?_))
  obtain ⟨bsv, osv, csv, esv⟩ := Rd.qP (s1 _ (aaS)) (by omega)
  cases esv
  refine jR 2 O EM (fun _ => eG dZ oK O O (by omega)) (iY 3 O EM (fun W hW => mV (ys := [_, _]) (s1 _ ((Kp.h hW))) (by omega) oq O oK O (mM J3 (by omega) default) O) (gK 4 O EM O (gK 5 O EM O ?_)))
  obtain ⟨btv, otv, ctv, etv⟩ := Rd.qP (s2 _ (aaS)) (by omega)
  cases etv
  refine jR 6 O EM (fun _ => eG dZ oK O O (by omega)) (iY 7 O EM (fun W hW => mV (ys := [_, _]) (s2 _ ((Kp.h hW))) (by omega) oq O oK O (mM J3 (by omega) default) O) (jR 8 O EM (fun _ => GN O O) (qN (bC (FH O (fun h3 => ?_))))))
  (try simp only [aK] at h3)
  refine fV (aX (bC (aB (aZ (fZ O O (by omega)) (dn O (cO ?_))))))
  refine eX (k + 1) ?_ ?_ ?_ ?_
  ·exact pY
  ·exact AA
  ·(try dsimp only)
   first | done | exact ⟨by omega, aaS⟩
  ·(try dsimp only); omega
 ·(try simp only [aK] at h2)
  refine gY (aY (aY (dw (bC (nM O (gy results105 O ?_))))))
  exact ⟨O, HL⟩
theorem NI (H : V w0 w F) (g1 : jY w0 F .i32 u l) (g2 : jY w0 F .i32 z l) (k1 : CJ w0 F 1 ks ls.length us) (k2 : CJ w0 F 1 qs ls.length vs)
    (e1 : ∀ k, k < ls.length → jY w0 F .i32 (us.getD k undef) (ls.getD k [])) (e2 : ∀ k, k < ls.length → jY w0 F .i32 (vs.getD k undef) (ls.getD k []))
    (s1 : CJ w0 F 2 sv S.length (S.flatMap lT)) (s2 : CJ w0 F 2 tv S.length (S.flatMap lT)) :
    iQ prog 55 #[.agg (ZW x u ks sv).toArray, .agg (ZW { x with nZ := b } z qs tv).toArray] w fun v' w' => v' = .bool (decide (x.nZ = b)) ∧ V w0 w' F := by
  unfold ZW
  refine qQ func55 ntmps55 ?_
  refine lQ (jW (kC (l := [_, _, _, _, _, _, _, _, _, _, _, _, _, _, _, _, _]) H O O) ?_)
  rintro _ w1 ⟨b1, rfl, H1⟩
  refine jW (kC (l := [_, _, _, _, _, _, _, _, _, _, _, _, _, _, _, _, _]) H1 O O) ?_
  rintro _ w2 ⟨b2, rfl, H2⟩
  refine uK O (lQ (Z 0 aS O kH O (Z 0 dU O bg O (dL aA O (H2.f2).get.2 O (Z 0 aS O kH O (Z 0 dU O bg O (dL aA O (H2).get.2 O (fO O func66 (Hl _ _ _ _ _ (g1 _ (H2.right.right)) (g2 _ (H2.right.right))) ?_))))))))
  rintro _ w3 ⟨rfl, hD3⟩
  have HD3 := H2.wK hD3
  rw [show (l == l) = true from by simp]
  refine aZ (kY O) (dn O (bK (Z 0 aS O kH O (bK (Z 1 dU O ah O (bK (dL ay O (HD3.f2).get.2 O (bK (Z 0 aS O kH O (bK (Z 1 dU O ah O (bK (dL ay O (HD3).get.2 O (bK (aZ (fF O O) (lH O O (JC O (fun h1 => ?_))))))))))))))))))
  (try simp only [aK] at h1)
  refine bK (Z 0 aS O kH O (bK (Z 2 dU O ah O (bK (dL ay O (HD3.f2).get.2 O (bK (Z 0 aS O kH O (bK (Z 2 dU O ah O (bK (dL ay O (HD3).get.2 O (bK (aZ (fF O O) (lH O O (JC O (fun h2 => ?_))))))))))))))))
  (try simp only [aK] at h2)
  refine bK (Z 13 aS O sizeOf40 O (bK (dL dZ O (HD3.f2).get.2 O (bK (Z 13 aS O sizeOf40 O (bK (dL dZ O (HD3).get.2 O (bK (fO O func105 (Tz HD3 (fun W HW => s1 _ (HW.right.right)) (fun W HW => s2 _ (HW.right.right))) ?_)))))))))
  rintro _ w4 ⟨rfl, H4⟩
  refine bK (aZ (kY O) (lH O O (JC O (fun h3 => ?_))))
  (try simp only [aK] at h3)
  refine bK (Z 11 aS O dG O (bK (dL aT O (H4.f2).get.2 O (bK (Z 11 aS O dG O (bK (dL aT O (H4).get.2 O (bK (fO O func63 (MN (ls := ls) H4 (Xo _) (fun W HW => k1 _ (HW.right.right)) (fun W HW => k2 _ (HW.right.right)) (fun k hk W HW => e1 k hk _ (HW.right.right)) (fun k hk W HW => e2 k hk _ (HW.right.right))) ?_)))))))))
  rintro _ w5 ⟨rfl, H5⟩
  refine bK (aZ (kY O) (lH O O (iF (FH O (fun h4 => ?_)))))
  (try simp only [aK] at h4)
  refine gX (lQ (Z 3 aS O ah O (dL ay O (H5.f2).get.2 O (Z 3 aS O ah O (dL ay O (H5).get.2 O (aZ (je O O) (U9 O (fun h5 => ?_))))))))
  (try simp only [aK] at h5)
  refine bK (Z 4 aS O aN O (bK (dL bf O (H5.f2).get.2 O (bK (Z 4 aS O aN O (bK (dL bf O (H5).get.2 O (bK (aZ (BD bf O O) (nX O O (U9 O (fun h6 => ?_))))))))))))
  (try simp only [aK] at h6)
  refine bK (Z 5 aS O aN O (bK (dL bf O (H5.f2).get.2 O (bK (Z 5 aS O aN O (bK (dL bf O (H5).get.2 O (bK (aZ (BD bf O O) (nX O O (U9 O (fun h7 => ?_))))))))))))
  (try simp only [aK] at h7)
  refine bK (Z 6 aS O aN O (bK (dL bf O (H5.f2).get.2 O (bK (Z 6 aS O aN O (bK (dL bf O (H5).get.2 O (bK (aZ (BD bf O O) (nX O O (U9 O (fun h8 => ?_))))))))))))
  (try simp only [aK] at h8)
  refine bK (Z 7 aS O ah O (bK (dL ay O (H5.f2).get.2 O (bK (Z 7 aS O ah O (bK (dL ay O (H5).get.2 O (bK (aZ (je O O) (nX O O (U9 O (fun h9 => ?_))))))))))))
  (try simp only [aK] at h9)
  refine bK (Z 8 aS O ah O (bK (dL ay O (H5.f2).get.2 O (bK (Z 8 aS O ah O (bK (dL ay O (H5).get.2 O (bK (aZ (je O O) (nX O O (U9 O (fun h10 => ?_))))))))))))
  (try simp only [aK] at h10)
  refine bK (Z 9 aS O ah O (bK (dL ay O (H5.f2).get.2 O (bK (Z 9 aS O ah O (bK (dL ay O (H5).get.2 O (bK (aZ (je O O) (nX O O (U9 O (fun h11 => ?_))))))))))))
  (try simp only [aK] at h11)
  refine bK (Z 10 aS O ah O (bK (dL ay O (H5.f2).get.2 O (bK (Z 10 aS O ah O (bK (dL ay O (H5).get.2 O (bK (aZ (je O O) (nX O O (U9 O (fun h12 => ?_))))))))))))
  (try simp only [aK] at h12)
  refine bK (Z 12 aS O ah O (bK (dL ay O (H5.f2).get.2 O (bK (Z 12 aS O ah O (bK (dL ay O (H5).get.2 O (bK (aZ (je O O) (nX O O (U9 O (fun h13 => ?_))))))))))))
  (try simp only [aK] at h13)
  refine bK (Z 14 aS O ah O (bK (dL ay O (H5.f2).get.2 O (bK (Z 14 aS O ah O (bK (dL ay O (H5).get.2 O (bK (aZ (je O O) (nX O O (U9 O (fun h14 => ?_))))))))))))
  (try simp only [aK] at h14)
  refine bK (Z 15 aS O ah O (bK (dL ay O (H5.f2).get.2 O (bK (Z 15 aS O ah O (bK (dL ay O (H5).get.2 O (bK (aZ (je O O) (nX O O (U9 O (fun h15 => ?_))))))))))))
  (try simp only [aK] at h15)
  refine bK (Z 16 aS O jU O (bK (dL jV O (H5.f2).get.2 O (bK (Z 16 aS O jU O (bK (dL jV O (H5).get.2 O (bK (aZ (je O O) (nX O O (jP O (gy results55 O ?_))))))))))))
  exact ⟨O, H5.right.right⟩
end
end Go.Proofs.YtnhhmieghbfalaaGreat
end
