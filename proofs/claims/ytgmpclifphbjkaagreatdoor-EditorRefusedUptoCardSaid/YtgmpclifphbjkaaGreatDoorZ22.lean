import Derived.Test.YtgmpclifphbjkaaGreatDoorZ2
import Derived.Test.YtgmpclifphbjkaaGreatDoorZ21
import Derived.Test.YtgmpclifphbjkaaGreatDoorZ20
import Derived.Test.YtgmpclifphbjkaaGreatDoorZ13
import Derived.Test.YtgmpclifphbjkaaGreatDoorCards
import Derived.Test.YtgmpclifphbjkaaGreatDoorZ5
import Derived.SevenTiedAt
set_option linter.unusedSimpArgs false
set_option linter.unusedVariables false
/- A command that can't be done leaves the editor as it was, but the bells, the argument and what was done last: EditorRefused in its second form, as the card states it, for whatever the program's variables hold. Its only condition is the second form's own bound on the bytes of each slice handed in.
Texts of mine, joined, their names in short: RWalk REd0 EBoth0 LawERefused HasERefused. -/
section
namespace Go.Proofs.YtgmpclifphbjkaaGreatDoor
open Go.RowKit
open _root_.Go.Proofs.Tryz
def strs (l : List ByteArray) : List Value := l.map Value.string
theorem QO {l : List ByteArray} : ∀ x ∈ strs l, x.oneCell' = true := by
  intro x hx
  obtain ⟨e, _, rfl⟩ := List.mem_map.1 hx
  rfl
def yK (hl : List mM) : List ByteArray := hl.map (·.1) ++ [.empty]
section
variable {P : Program} {L : List (Nat × Value)} {w0 w : World} {F : HP} {p : Nat} {hl l : List mM} {base most : Int} {v : Value}
theorem QS {hl : List mM} {k : Nat} (hk : k < hl.length) : strs ((hl.take (k + 1)).map (·.1)) = strs ((hl.take k).map (·.1)) ++ [.string (hl.getD k default).1] := by
  unfold strs
  rw [List.take_succ_eq_append_getElem hk, List.map_append, List.map_append, List.getD_eq_getElem?_getD, List.getElem?_eq_getElem hk]; rfl
theorem Gv (H : aB w0 w (kC p hl base most • F)) : fQ prog 108 #[.pointer (some ⟨p, 0, none⟩)] w fun v w' => ∃ q ov nv, v = .pointer (some ⟨q, 0, none⟩) ∧
  aB w0 w' (dA q (.cells #[ov, nv, .int .i64 hl.length] 84 (0, 0)) • Row 9 1 ov (yK hl).length (strs (yK hl)) • Row 9 1 nv (yK hl).length (strs (yK hl)) • kC p hl base most • F) := by
 refine gX func108 ntmps108 ?_
 dsimp only [bg, Nat.reduceAdd]
 refine ay (ah (aV rfl (aA (aj (ay ?_)))))
 obtain ⟨Jh, oD, qX⟩ := (H).UD
 have hkl := oD.1
 refine ah (aO rfl (bH rfl (aZ 0 underlying197 rfl sizeOf51 rfl (cO underlying51 rfl (qX).get.2 rfl (aU (fB ((qX.f2).wY) underlying51 rfl) ?_)))))
 refine aU (dV (zl := [.slice none 0 0, .slice none 0 0, .int .i64 0]) (pl := [(0, 1), (1, 1), (2, 1)]) [_, _, _] underlying84 zeroValue84 rfl (fun w => by kernel_rfl) rfl (.zero (zs := [.slice none 0 0]) rfl (.zero (zs := [.slice none 0 0]) rfl (.one (by first | rfl | assumption) .nil))) rfl) ?_
 refine iy (iq (l := [_, _, _]) qX rfl rfl) ?_
 rintro _ w2 ⟨b2, rfl, H2⟩
 refine aV rfl (aA (aj (ay (ay (ah (aV rfl (aA (aj (bf ?_)))))))))
 refine fM [(0, _), (3, _)] (fun (⟨k, u⟩ : Nat × Value) => [(4, .int .i64 (k : Int))]) (fun (⟨k, u⟩ : Nat × Value) W => k ≤ hl.length ∧ aB w0 W (dA b2 (.cells #[u, .slice none 0 0, .int .i64 hl.length] 84 (0, 0)) • Row 9 1 u k (strs ((hl.take k).map (·.1))) • dA p (.cells #[Jh, .int .i64 base, .int .i64 most] 197 (0, 0)) • UC Jh hl • F)) (fun (⟨k, u⟩ : Nat × Value) => hl.length - k) ((0, .slice none 0 0)) (Sub.cons rfl (Sub.cons rfl (Sub.nil _))) (Sub.cons rfl (Sub.nil _)) ⟨by omega, (H2.f3.f3.f3).fZ none |>.swap⟩ ?_
 rintro ⟨k, u⟩ w3 ⟨hk, HL⟩
 dsimp only [List.cons_append, List.nil_append]
 refine ay (ay (ah (aO rfl (aO rfl (bH rfl (aZ 0 underlying197 rfl sizeOf51 rfl (cO underlying51 rfl (HL.f3).get.2 rfl (aU (fB ((HL.f4).wY) underlying51 rfl) (aU (dL rfl rfl) (aA (aj (aH rfl (fun h1 => ?_) (fun h1 => ?_)))))))))))))
 ·(try simp only [aG] at h1)
  have hkl2 : k < hl.length := by have h9 := h1; omega
  refine aS (aj (ay (bf ?_)))
  have J6 := HL.drew
  have mY := aB.kp (J6.f4.f4.f4.f4)
  refine uH [4, 8, 12] mY rfl (fU 0 rfl mY rfl (fU 1 rfl mY rfl (iT 2 rfl mY rfl (dP 3 rfl mY 0 underlying84 rfl sizeOf82 rfl (gQ 4 rfl mY (fun W hW => iI underlying82 rfl ((Kp.h hW)).get.2 rfl) (fU 5 rfl mY rfl (iT 6 rfl mY rfl (dP 7 rfl mY 0 underlying197 rfl sizeOf51 rfl (gQ 8 rfl mY (fun W hW => iI underlying51 rfl ((Kp.h hW).f3).get.2 rfl) (fU 9 rfl mY rfl ?_))))))))))
  obtain ⟨ZX, ZY, Z4, Ub⟩ := Rd.rG ((J6.f4).wY) (by omega)
  cases Ub
  refine iJ 10 rfl mY (fun _ => eF underlying51 sizeOf152 rfl rfl (by omega)) (dP 11 rfl mY 0 underlying152 rfl sizeOf9 rfl (gQ 12 rfl mY (fun W hW => QZ (iC (dM underlying9 rfl) rfl (Rd.atS (((Kp.h hW).f4).wY) (by omega) (by decide))) (UE hkl2)) (jH 13 rfl (lQ (vs := [_]) J6 underlying82 sizeOf9 zeroValue9 rfl rfl rfl (by decide) (aC (by first | rfl | assumption) bn)) ?_)))
  rintro l4 w4 H4
  have jd := aB.kp (H4.f5.f5.f5.f5.f5)
  refine bW jd (fun W hW => (Kp.h hW).right.f4.f4.f4.f4) ?_
  refine jH 14 rfl (fK H4.f3 underlying82 (show (prog.info? 9).map (fun i => (i.zero, i.size, i.bytes)) = some (some (.string .empty), 1, 16) by kernel_rfl) rfl rfl rfl ((H4).aT) (aC (by first | rfl | assumption) bn) (by omega) (by omega)) ?_
  rintro l5 w5 H5
  have Hd6 := H5.f2.right
  have vG := aB.kp (Hd6.f4.f4.f4.f4)
  refine fA vG (by kernel_rfl) ?_
  refine iT 15 rfl vG rfl (dP 16 rfl vG 0 underlying84 rfl sizeOf82 rfl ?_)
  refine dB 17 rfl (by kernel_rfl) (aN 0 (l' := [_, _, _]) Hd6.f2 sizeOf82 rfl rfl (by first | rfl | exact Rd.one ((Hd6).aT)) rfl rfl) ?_
  rintro _ w7 H7
  have vO := aB.kp (H7.f4.f4.f4.f4)
  refine fA vO (by kernel_rfl) ?_
  refine mg (aQ (aj (ah (aO rfl (aU (eP rfl rfl (by omega)) (aV rfl (aA ?_)))))))
  refine dK ((k + 1, l5)) ?_ ?_ ?_ ?_
  ·exact (Sub.cons rfl (Sub.nil _))
  ·exact (Sub.cons rfl (Sub.cons rfl (Sub.nil _)))
  ·(try dsimp only)
   first | done | exact ⟨by omega, by rw [QS hkl2]; exact H7⟩
  ·(try dsimp only); omega
 ·(try simp only [aG] at h1)
  refine fG (aX (aX (bM (aj (ay ?_)))))
  obtain rfl : k = hl.length := by omega
  refine ah (aO rfl (aO rfl (bH rfl (aZ 0 underlying84 rfl sizeOf82 rfl (cO underlying82 rfl (HL).get.2 rfl (iy (lQ (vs := [_]) HL underlying82 sizeOf9 zeroValue9 rfl rfl rfl (by decide) (aC (by first | rfl | assumption) bn)) ?_))))))
  rintro l8 w8 H8
  refine iy (fK H8.f3 underlying82 (show (prog.info? 9).map (fun i => (i.zero, i.size, i.bytes)) = some (some (.string .empty), 1, 16) by kernel_rfl) rfl rfl rfl ((H8).aT) (aC (by first | rfl | assumption) bn) (by omega) (by omega)) ?_
  rintro l9 w9 H9
  have aao := H9.f2.right
  refine bH rfl (aZ 0 underlying84 rfl sizeOf82 rfl (aI (aN 0 (l' := [_, _, _]) aao.f2 sizeOf82 rfl rfl (by first | rfl | exact Rd.one ((aao).aT)) rfl rfl) ?_))
  rintro _ FT uV
  have HX := uV
  rw [List.take_length, show strs (hl.map (·.1)) ++ [Value.string { data := #[] }] = strs (yK hl) from by unfold yK strs; rw [List.map_append]; rfl, show hl.length + 1 = (yK hl).length from by simp [yK]] at HX
  have hon := @QO (yK hl)
  have hol : (yK hl).length = hl.length + 1 := by simp [yK]
  refine aA (aj (ay (ah (aO rfl (aO rfl (bH rfl (aZ 0 underlying84 rfl sizeOf82 rfl (cO underlying82 rfl (HX).get.2 rfl (iy (fK (HX.fZ none) underlying82 (show (prog.info? 9).map (fun i => (i.zero, i.size, i.bytes)) = some (some (.string .empty), 1, 16) by kernel_rfl) rfl rfl rfl ((HX.f2).aT) (by assumption) (by omega) (by omega)) ?_)))))))))
  rintro l12 w12 rV
  refine bH rfl (aZ 1 underlying84 rfl sizeOf82 rfl (aI (aN 1 (l' := [_, _, _]) rV.f2 sizeOf82 rfl rfl (by first | rfl | exact Rd.one ((rV).aT)) rfl rfl) ?_))
  rintro _ MB vZ
  refine aA (aj (ay (ah (aO rfl (aV rfl (aA (aj (aJ (aP (.inl rfl) results108 rfl ?_)))))))))
  have abK := vZ.f5.f5
  have abL := aB.tX oD abK
  have HQ := abL.f3.f4.f4
  rw [List.nil_append, Nat.zero_add] at HQ
  exact ⟨_, _, _, rfl, HQ⟩
end
end Go.Proofs.YtgmpclifphbjkaaGreatDoor
end
section
namespace Go.Proofs.YtgmpclifphbjkaaGreatDoor
open Go.RowKit
open _root_.Go.Proofs.Tryz
section
variable {w0 w : World} {F : HP} {e h : Nat} {hl : List mM} {base most : Int}
set_option maxHeartbeats 1000000 in
theorem Md {x0 x1 x2 x3 x4 x5 x6 x7 x8 x9 x10 x11 x12 zX x14 x15 x16 x17 x18 x19 x20 x21 zy x23 x24 x25 zA x27 x28 x29 x30 x31 BH x34 x35 x36 x37 x38 x39 x40 x41 : Value} (H : aB w0 w (dA e (.cells (x0 :: x1 :: x2 :: x3 :: x4 :: x5 :: x6 :: x7 :: x8 :: x9 :: x10 :: x11 :: x12 :: zX :: x14 :: x15 :: x16 :: x17 :: x18 :: x19 :: x20 :: x21 :: zy :: x23 :: x24 :: x25 :: zA :: x27 :: x28 :: x29 :: x30 :: x31 :: .bool false :: BH :: x34 :: x35 :: x36 :: x37 :: x38 :: x39 :: x40 :: x41 :: []).toArray 92 (0, 0)) • kC h hl base most • F)) : fQ prog 39 #[.pointer (some ⟨e, 0, none⟩), .pointer (some ⟨h, 0, none⟩), .slice none 0 0] w fun v' w' => v' = .int .i64 0 ∧ aB w0 w' (kC h hl base most • F) := by
 refine gX func39 ntmps39 ?_
 dsimp only [bg, Nat.reduceAdd]
 refine ay (ah (aV rfl (aA (aj (ay (ay (ah (aO rfl (aU (jc underlying79 rfl rfl) (aA (aj (aH rfl (fun h => by exfalso; (try simp only [aG] at h); simp at h) (fun h1 => ?_)))))))))))))
 (try simp only [aG] at h1)
 refine aS (aj (ay (ay (ah (aO rfl (bH rfl (aZ 32 underlying92 rfl sizeOf4 rfl (cO underlying4 rfl (H).get.2 rfl (aA (aj (aH rfl (fun h => by exfalso; (try simp only [aG] at h); simp at h) (fun h2 => ?_))))))))))))
 (try simp only [aG] at h2)
 refine aS (aj (ay (ah (aO rfl (dw rfl func106 (LX (l := []) H (fun W _ => jG.nil W _ none 0 (by decide)) (by decide)) ?_)))))
 rintro _ w1 ⟨p1, rfl, H1⟩
 refine aO rfl (nX rfl rfl (nX rfl rfl (aV rfl (aV rfl (aA (aj (ay (ay (ah (aO rfl (aU (bZ rfl rfl) (aA (aj (aH rfl (fun h => by exfalso; (try simp only [aG] at h); simp at h) (fun h3 => ?_)))))))))))))))
 (try simp only [aG] at h3)
 refine aS (aj (ay (ah (aO rfl (aO rfl (dw rfl func107 (DC H1.f3) ?_))))))
 rintro _ w2 ⟨q2, rfl, H2⟩
 refine bH rfl (aZ 0 underlying92 rfl sizeOf79 rfl (aI (aN 0 (l' := [_, _, _, _, _, _, _, _, _, _, _, _, _, _, _, _, _, _, _, _, _, _, _, _, _, _, _, _, _, _, _, _, _, _, _, _, _, _, _, _, _, _]) H2.f4 sizeOf79 rfl rfl (by first | rfl | assumption) rfl rfl) ?_))
 rintro _ w3 H3
 refine aA (aj (ay (ah (aO rfl (aO rfl (bH rfl (aZ 1 underlying92 rfl sizeOf90 rfl (aZ 0 underlying90 rfl sizeOf80 rfl (aI (aN 1 (l' := [_, _, _, _, _, _, _, _, _, _, _, _, _, _, _, _, _, _, _, _, _, _, _, _, _, _, _, _, _, _, _, _, _, _, _, _, _, _, _, _, _, _]) H3 sizeOf80 rfl rfl (by first | rfl | assumption) rfl rfl) ?_)))))))))
 rintro _ w4 H4
 refine aA (aj (ay (ah (aO rfl (aO rfl (bH rfl (aZ 0 underlying92 rfl sizeOf79 rfl (cO underlying79 rfl (H4).get.2 rfl (dw rfl func108 (Gv H4.f2) ?_)))))))))
 rintro _ w5 ⟨q5, ov5, nv5, rfl, H5⟩
 refine bH rfl (aU (bU underlying84 rfl sizeOf84 rfl rfl (H5).get.2) (bH rfl (aZ 1 underlying92 rfl sizeOf90 rfl (aZ 2 underlying90 rfl sizeOf84 rfl (aI (bJ 3 (l' := [_, _, _, _, _, _, _, _, _, _, _, _, _, _, _, _, _, _, _, _, _, _, _, _, _, _, _, _, _, _, _, _, _, _, _, _, _, _, _, _, _, _]) (us := [_, _, _]) H5.f5 sizeOf84 rfl rfl rfl (aC (by first | rfl | exact Rd.one ((H5.f2).aT)) (aC (by first | rfl | exact Rd.one ((H5.f3).aT)) (aC (by first | rfl | assumption) bn))) rfl rfl) ?_)))))
 rintro _ w6 H6
 refine aA (aj (ay (ah (aO rfl (bH rfl (aZ 1 underlying92 rfl sizeOf90 rfl (aZ 5 underlying90 rfl sizeOf9 rfl (aI (aN 6 (l' := [_, _, _, _, _, _, _, _, _, _, _, _, _, _, _, _, _, _, _, _, _, _, _, _, _, _, _, _, _, _, _, _, _, _, _, _, _, _, _, _, _, _]) H6 sizeOf9 rfl rfl (by first | rfl | assumption) rfl rfl) ?_))))))))
 rintro _ w7 H7
 refine aA (aj (ay (ah (aO rfl (aU (dV (zl := [.slice none 0 0, .slice none 0 0]) (pl := [(0, 1), (1, 1)]) [_, _] underlying88 zeroValue88 rfl (fun w => by kernel_rfl) rfl (.zero (zs := [.slice none 0 0]) rfl (.zero (zs := [.slice none 0 0]) rfl .nil)) rfl) (bH rfl (aZ 1 underlying92 rfl sizeOf90 rfl (aZ 6 underlying90 rfl sizeOf88 rfl (aI (bJ 7 (l' := [_, _, _, _, _, _, _, _, _, _, _, _, _, _, _, _, _, _, _, _, _, _, _, _, _, _, _, _, _, _, _, _, _, _, _, _, _, _, _, _, _, _]) (us := [_, _]) H7 sizeOf88 rfl rfl rfl (aC (by first | rfl | assumption) (aC (by first | rfl | assumption) bn)) rfl rfl) ?_)))))))))
 rintro _ w8 H8
 refine aA (aj (ay (ah (aO rfl (aO rfl (aO rfl (bH rfl (aZ 1 underlying92 rfl sizeOf90 rfl (aZ 9 underlying90 rfl sizeOf4 rfl (aI (aN 10 (l' := [_, _, _, _, _, _, _, _, _, _, _, _, _, _, _, _, _, _, _, _, _, _, _, _, _, _, _, _, _, _, _, _, _, _, _, _, _, _, _, _, _, _]) H8 sizeOf4 rfl rfl (by first | rfl | assumption) rfl rfl) ?_))))))))))
 rintro _ w9 H9
 refine bH rfl (aZ 1 underlying92 rfl sizeOf90 rfl (aZ 10 underlying90 rfl sizeOf3 rfl (aI (aN 11 (l' := [_, _, _, _, _, _, _, _, _, _, _, _, _, _, _, _, _, _, _, _, _, _, _, _, _, _, _, _, _, _, _, _, _, _, _, _, _, _, _, _, _, _]) H9 sizeOf3 rfl rfl (by first | rfl | assumption) rfl rfl) ?_)))
 rintro _ w10 oP
 refine bH rfl (aZ 1 underlying92 rfl sizeOf90 rfl (aZ 11 underlying90 rfl sizeOf4 rfl (aI (aN 12 (l' := [_, _, _, _, _, _, _, _, _, _, _, _, _, _, _, _, _, _, _, _, _, _, _, _, _, _, _, _, _, _, _, _, _, _, _, _, _, _, _, _, _, _]) oP sizeOf4 rfl rfl (by first | rfl | assumption) rfl rfl) ?_)))
 rintro _ FT uV
 refine aA (aj (ay (ah (aO rfl (aO rfl (aO rfl (bH rfl (aZ 25 underlying92 rfl sizeOf4 rfl (aI (aN 25 (l' := [_, _, _, _, _, _, _, _, _, _, _, _, _, _, _, _, _, _, _, _, _, _, _, _, _, _, _, _, _, _, _, _, _, _, _, _, _, _, _, _, _, _]) uV sizeOf4 rfl rfl (by first | rfl | assumption) rfl rfl) ?_)))))))))
 rintro _ w12 rV
 refine bH rfl (aZ 26 underlying92 rfl sizeOf4 rfl (aI (aN 26 (l' := [_, _, _, _, _, _, _, _, _, _, _, _, _, _, _, _, _, _, _, _, _, _, _, _, _, _, _, _, _, _, _, _, _, _, _, _, _, _, _, _, _, _]) rV sizeOf4 rfl rfl (by first | rfl | assumption) rfl rfl) ?_))
 rintro _ MB vZ
 refine bH rfl (aZ 27 underlying92 rfl sizeOf3 rfl (aI (aN 27 (l' := [_, _, _, _, _, _, _, _, _, _, _, _, _, _, _, _, _, _, _, _, _, _, _, _, _, _, _, _, _, _, _, _, _, _, _, _, _, _, _, _, _, _]) vZ sizeOf3 rfl rfl (by first | rfl | assumption) rfl rfl) ?_))
 rintro _ JE uX
 refine aA (aj (ay (ah (aO rfl (aO rfl (aO rfl (bH rfl (aZ 28 underlying92 rfl sizeOf3 rfl (aI (aN 28 (l' := [_, _, _, _, _, _, _, _, _, _, _, _, _, _, _, _, _, _, _, _, _, _, _, _, _, _, _, _, _, _, _, _, _, _, _, _, _, _, _, _, _, _]) uX sizeOf3 rfl rfl (by first | rfl | assumption) rfl rfl) ?_)))))))))
 rintro _ P8 yQ
 refine bH rfl (aZ 29 underlying92 rfl sizeOf3 rfl (aI (aN 29 (l' := [_, _, _, _, _, _, _, _, _, _, _, _, _, _, _, _, _, _, _, _, _, _, _, _, _, _, _, _, _, _, _, _, _, _, _, _, _, _, _, _, _, _]) yQ sizeOf3 rfl rfl (by first | rfl | assumption) rfl rfl) ?_))
 rintro _ w16 qH
 refine bH rfl (aZ 30 underlying92 rfl sizeOf3 rfl (aI (aN 30 (l' := [_, _, _, _, _, _, _, _, _, _, _, _, _, _, _, _, _, _, _, _, _, _, _, _, _, _, _, _, _, _, _, _, _, _, _, _, _, _, _, _, _, _]) qH sizeOf3 rfl rfl (by first | rfl | assumption) rfl rfl) ?_))
 rintro _ UN Aj
 refine aA (aj (ay (ah (aV rfl (aA (aj (aJ (aP (.inl rfl) results39 rfl ?_))))))))
 exact ⟨rfl, Aj.right.right.right.right.right.f2.right⟩
theorem JD (H : aB w0 w (kC h hl base most • F)) : fQ prog 65 #[.pointer (some ⟨h, 0, none⟩)] w fun v' w' => ∃ e, v' = .tuple #[.pointer (some ⟨e, 0, none⟩), .int .i64 0] ∧ aB w0 w' F := by
 refine gX func65 ntmps65 ?_
 dsimp only [bg, Nat.reduceAdd]
 refine ay (ah (aV rfl (aV rfl (aA (aj (ay (ay (ah (aO rfl (aU (jc underlying79 rfl rfl) (aA (aj (aH rfl (fun h => by exfalso; (try simp only [aG] at h); simp at h) (fun h1 => ?_))))))))))))))
 (try simp only [aG] at h1)
 refine aS (aj (ay (ah (aU (dV (zl := [.pointer none, .pointer none, .pointer none, .slice none 0 0, .slice none 0 0, .int .i64 0, .string .empty, .slice none 0 0, .slice none 0 0, .int .i64 0, .bool false, .int .i64 0, .bool false, .pointer none, .pointer none, .slice none 0 0, .slice none 0 0, .int .i64 0, .string .empty, .slice none 0 0, .slice none 0 0, .int .i64 0, .bool false, .int .i64 0, .bool false, .bool false, .bool false, .int .i64 0, .int .i64 0, .int .i64 0, .int .i64 0, .int .i64 0, .bool false, .int .i64 0, .int .i64 0, .int .i64 0, .bool false, .bool false, .bool false, .slice none 0 0, .bool false, .bool false]) (pl := [(0, 1), (1, 12), (13, 12), (25, 1), (26, 1), (27, 1), (28, 1), (29, 1), (30, 1), (31, 1), (32, 1), (33, 1), (34, 1), (35, 1), (36, 1), (37, 1), (38, 1), (39, 1), (40, 1), (41, 1)]) [_, _, _, _, _, _, _, _, _, _, _, _, _, _, _, _, _, _, _, _, _, _, _, _, _, _, _, _, _, _, _, _, _, _, _, _, _, _, _, _, _, _] underlying92 zeroValue92 rfl (fun w => by kernel_rfl) rfl (.zero (zs := [.pointer none]) rfl (.zero (zs := [.pointer none, .pointer none, .slice none 0 0, .slice none 0 0, .int .i64 0, .string .empty, .slice none 0 0, .slice none 0 0, .int .i64 0, .bool false, .int .i64 0, .bool false]) rfl (.zero (zs := [.pointer none, .pointer none, .slice none 0 0, .slice none 0 0, .int .i64 0, .string .empty, .slice none 0 0, .slice none 0 0, .int .i64 0, .bool false, .int .i64 0, .bool false]) rfl (.zero (zs := [.bool false]) rfl (.zero (zs := [.bool false]) rfl (.zero (zs := [.int .i64 0]) rfl (.zero (zs := [.int .i64 0]) rfl (.zero (zs := [.int .i64 0]) rfl (.zero (zs := [.int .i64 0]) rfl (.zero (zs := [.int .i64 0]) rfl (.zero (zs := [.bool false]) rfl (.zero (zs := [.int .i64 0]) rfl (.zero (zs := [.int .i64 0]) rfl (.zero (zs := [.int .i64 0]) rfl (.zero (zs := [.bool false]) rfl (.zero (zs := [.bool false]) rfl (.zero (zs := [.bool false]) rfl (.zero (zs := [.slice none 0 0]) rfl (.zero (zs := [.bool false]) rfl (.zero (zs := [.bool false]) rfl .nil)))))))))))))))))))) rfl) (iy (iq (l := [_, _, _, _, _, _, _, _, _, _, _, _, _, _, _, _, _, _, _, _, _, _, _, _, _, _, _, _, _, _, _, _, _, _, _, _, _, _, _, _, _, _]) H rfl rfl) ?_)))))
 rintro _ w1 ⟨b1, rfl, H1⟩
 refine aV rfl (aA (aj (ay (ah (aO rfl (aU (dV (zl := [.slice none 0 0, .int .i64 0]) (pl := [(0, 1), (1, 1)]) [_, _] underlying176 zeroValue176 rfl (fun w => by kernel_rfl) rfl (.zero (zs := [.slice none 0 0]) rfl (.zero (zs := [.int .i64 0]) rfl .nil)) rfl) (iy (iq (l := [_, _]) H1 rfl rfl) ?_)))))))
 rintro _ w2 ⟨b2, rfl, H2⟩
 refine bH rfl (aZ 1 underlying92 rfl sizeOf90 rfl (aZ 1 underlying90 rfl sizeOf81 rfl (aI (aN 2 (l' := [_, _, _, _, _, _, _, _, _, _, _, _, _, _, _, _, _, _, _, _, _, _, _, _, _, _, _, _, _, _, _, _, _, _, _, _, _, _, _, _, _, _]) H2.f2 sizeOf81 rfl rfl (by first | rfl | assumption) rfl rfl) ?_)))
 rintro _ w3 H3
 refine aA (aj (ay (ah (aO rfl (aO rfl (dw rfl func39 (Md H3.f2.right.f2.f2) ?_))))))
 rintro _ w4 ⟨rfl, H4⟩
 refine aA (aj (ay (ah (aO rfl (aV rfl (aV rfl (aA (aj (aJ (fC (.inl rfl) results65 rfl rfl ?_))))))))))
 exact ⟨_, rfl, H4.right⟩
end
end Go.Proofs.YtgmpclifphbjkaaGreatDoor
end
section
namespace Go.Proofs.YtgmpclifphbjkaaGreatDoor
open Go.RowKit
open _root_.Go.Proofs.Tryz
def WT (l : List mM) : List mM := JB [] 4096 l
def WU (l : List mM) : Int := JC [] 1 4096 l
section
variable {w0 w : World} {F : HP} {l : List mM} {v : Value}
theorem UF (H : aB w0 w F) (hv : yM w0 F 2 v l.length (l.flatMap iW)) (hb : l.length ≤ 5864062014805) (hm : pU l ≠ 0) : fQ prog 19 #[v] w fun v' w' => v' = .tuple #[.pointer none, .pointer none, .bool true] ∧ aB w0 w' F := by
 refine gX func19 ntmps19 ?_
 dsimp only [bg, Nat.reduceAdd]
 refine ay (ah (aV rfl (aV rfl (aV rfl (aA (aj (ay (ah (aO rfl (dw rfl func63 (Gs H (by decide) hv hb hm) ?_))))))))))
 rintro _ w1 ⟨rfl, H1⟩
 refine aO rfl (nX rfl rfl (nX rfl rfl (aV rfl (aV rfl (aA (aj (ay (ah (aO rfl (dw rfl func64 (FN H1 (by decide) hv hb hm) ?_))))))))))
 rintro _ w2 ⟨rfl, H2⟩
 refine aO rfl (nX rfl rfl (nX rfl rfl (aV rfl (aV rfl (aA (aj (ay (ay (ah (aO rfl (aO rfl (aU (bZ rfl rfl) (aA (aj (aH rfl (fun h => by exfalso; (try simp only [aG] at h); simp at h) (fun h1 => ?_))))))))))))))))
 (try simp only [aG] at h1)
 refine aS (aj (ay (ay (ah (aO rfl (aU (bZ rfl rfl) (aA (aj (aH rfl (fun h2 => ?_) (fun h => by exfalso; (try simp only [aG] at h); exact hm h))))))))))
 (try simp only [aG] at h2)
 refine ay (ah (aV rfl (aV rfl (aV rfl (aA (aj (aJ (aK ?_))))))))
 refine Om (.inl rfl) results19 rfl rfl rfl ?_
 exact ⟨rfl, H2⟩
theorem QT (H : aB w0 w F) (hv : yM w0 F 2 v l.length (l.flatMap iW)) (hb : l.length ≤ 5864062014805) (hm : pU l = 0) : fQ prog 19 #[v] w fun v' w' => ∃ e y, v' = .tuple #[.pointer (some ⟨e, 0, none⟩), .pointer (some ⟨y, 0, none⟩), .bool true] ∧ aB w0 w' (dD e (aY.new (WT l) (WU l) 4096) • F) := by
 refine gX func19 ntmps19 ?_
 dsimp only [bg, Nat.reduceAdd]
 refine ay (ah (aV rfl (aV rfl (aV rfl (aA (aj (ay (ah (aO rfl (dw rfl func63 (FM H (by decide) (fun W HW => hv _ (HW)) hb hm) ?_))))))))))
 rintro _ w1 ⟨p1, rfl, H1⟩
 refine aO rfl (nX rfl rfl (nX rfl rfl (aV rfl (aV rfl (aA (aj (ay (ah (aO rfl (dw rfl func64 (Dz H1 (by decide) (fun W HW => hv _ (HW.right)) hb hm) ?_))))))))))
 rintro _ w2 ⟨p2, rfl, H2⟩
 refine aO rfl (nX rfl rfl (nX rfl rfl (aV rfl (aV rfl (aA (aj (ay (ay (ah (aO rfl (aO rfl (aU (bZ rfl rfl) (aA (aj (aH rfl (fun h => by exfalso; (try simp only [aG] at h); simp at h) (fun h1 => ?_))))))))))))))))
 (try simp only [aG] at h1)
 refine aS (aj (ay (ay (ah (aO rfl (aU (bZ rfl rfl) (aA (aj (aH rfl (fun h => by exfalso; (try simp only [aG] at h); simp at h) (fun h2 => ?_))))))))))
 (try simp only [aG] at h2)
 refine aS (aj (ay (ah (aO rfl (dw rfl func8 (Fa H2.f2) ?_)))))
 rintro _ w3 ⟨e3, rfl, H3⟩
 refine aO rfl (nX rfl rfl (nX rfl rfl (aV rfl (aV rfl (aA (aj (ay (ah (aO rfl (dw rfl func65 (JD H3.f3) ?_))))))))))
 rintro _ w4 ⟨y4, rfl, H4⟩
 refine aO rfl (nX rfl rfl (nX rfl rfl (aV rfl (aV rfl (aA (aj (ay (ah (aO rfl (aO rfl (aO rfl (aO rfl (aU (dW rfl rfl) (jo rfl (fun h3 => ?_) (fun h => by exfalso; (try simp only [aG] at h); simp at h)))))))))))))))
 (try simp only [aG] at h3)
 refine bD (aO rfl (bD (aU (dW rfl rfl) (jO rfl rfl (jo rfl (fun h4 => ?_) (fun h => by exfalso; (try simp only [aG] at h); simp at h))))))
 (try simp only [aG] at h4)
 refine bD (aO rfl (bD (aU (D8 underlying28 rfl rfl) (jO rfl rfl (aV rfl (aV rfl (aV rfl (aA (aj (aJ ?_))))))))))
 refine Om (.inl rfl) results19 rfl rfl rfl ?_
 exact ⟨_, _, rfl, H4.f2.right⟩
end
end Go.Proofs.YtgmpclifphbjkaaGreatDoor
end
section
namespace Go.Proofs.YtgmpclifphbjkaaGreatDoor
open Go.RowKit
open _root_.Go.Proofs.Tryz
theorem Me {w : World} {v u WV : Value} {l : List mM} {PE : Int} (g1 : Rd w 2 v l.length (l.flatMap iW)) (hb1 : l.length ≤ 5864062014805) (hm : pU l ≠ 0) :
  fQ prog 4 #[v, u, .agg #[WV, .int .i64 PE]] w fun v w' => v = .bool true ∧ Below w.heap.size w w' := by
 obtain ⟨F, H⟩ : ∃ F, aB w w F := ⟨_, aB.start w⟩
 have hv : yM w F 2 v l.length (l.flatMap iW) := yM.qO g1 F
 refine gX func4 ntmps4 ?_
 dsimp only [bg, Nat.reduceAdd]
 refine ay (ah (iy (iq (l := [_, _]) H rfl rfl) ?_))
 rintro _ w1 ⟨b1, rfl, H1⟩
 refine aV rfl (aA (aj (ay (ah (aO rfl (dw rfl func19 (UF H1 (fun W HW => hv _ (HW.right)) hb1 hm) ?_))))))
 rintro _ w2 ⟨rfl, H2⟩
 refine aO rfl (nX rfl rfl (nX rfl rfl (nX rfl rfl (aV rfl (aV rfl (aV rfl (aA (aj (ay (ay (ah (aO rfl (aU (kM rfl) (jo rfl (fun h => by exfalso; (try simp only [aG] at h); simp at h) (fun h1 => ?_)))))))))))))))
 (try simp only [aG] at h1)
 refine bD (dw rfl func9 (L6 H2) ?_)
 rintro _ w3 ⟨rfl, H3⟩
 refine bD (aU (kM rfl) (jr rfl rfl (aA (aj (aH rfl (fun h => by exfalso; (try simp only [aG] at h); simp at h) (fun h2 => ?_))))))
 (try simp only [aG] at h2)
 refine aS (aj (ay (ay (ah (aO rfl (aU (jc underlying28 rfl rfl) (jo rfl (fun h3 => ?_) (fun h => by exfalso; (try simp only [aG] at h); simp at h))))))))
 (try simp only [aG] at h3)
 refine bI (bI (bI (jO rfl rfl (aA (aj (yL (ay (ah (aV rfl (aA (aj (aJ (aK (aP (.inl rfl) results4 rfl ?_))))))))))))))
 exact ⟨rfl, H3.base⟩
theorem FP {w : World} {v u WV : Value} {l : List mM} {cs : List tV} {ps0 : List kQ} {PE : Int} (hU : AL w) (g1 : Rd w 2 v l.length (l.flatMap iW)) (hb1 : l.length ≤ 5864062014805) (hm : pU l = 0)
    (g2 : Rd w 2 u cs.length (cs.flatMap tV.enc)) (g3 : ∀ k, k < cs.length → (cs.getD k default).Reads w) (t3 : ∀ c ∈ cs, rQ c.parts) (b2 : cs.length ≤ 134217728)
    (g4 : Rd w 5 WV ps0.length (ps0.flatMap kQ.enc)) (g5 : ∀ k, k < ps0.length → (ps0.getD k default).Reads w) (t4 : rQ ps0) (b4 : ps0.length ≤ 134217728) :
    fQ prog 4 #[v, u, .agg #[WV, .int .i64 PE]] w fun v w' => v = .bool true ∧ Below w.heap.size w w' := by
  obtain ⟨F, H⟩ : ∃ F, aB w w F := ⟨_, aB.start w⟩
  have hv : yM w F 2 v l.length (l.flatMap iW) := yM.qO g1 F
  have hu : yM w F 2 u cs.length (cs.flatMap tV.enc) := yM.qO g2 F
  have hp0 : yM w F 5 WV ps0.length (ps0.flatMap kQ.enc) := yM.qO g4 F
  obtain ⟨S0, hS0⟩ : ∃ S0, S0 = aY.new (WT l) (WU l) 4096 := ⟨_, rfl⟩
  have hr0 : RS S0 := hS0 ▸ aal _ _ _
  refine gX func4 ntmps4 ?_
  dsimp only [bg, Nat.reduceAdd]
  refine ay (ah (iy (iq (l := [_, _]) H rfl rfl) ?_))
  rintro _ w1 ⟨b1, rfl, H1⟩
  refine aV rfl (aA (aj (ay (ah (aO rfl (dw rfl func19 (QT H1 (fun W HW => hv _ (HW.right)) hb1 hm) ?_))))))
  rintro _ w2 ⟨e2, y2, rfl, H2⟩
  refine aO rfl (nX rfl rfl (nX rfl rfl (nX rfl rfl (aV rfl (aV rfl (aV rfl (aA (aj (ay (ay (ah (aO rfl (aU (kM rfl) (jo rfl (fun h => by exfalso; (try simp only [aG] at h); simp at h) (fun h1 => ?_)))))))))))))))
  (try simp only [aG] at h1)
  refine bD (dw rfl func9 (L6 H2) ?_)
  rintro _ w3 ⟨rfl, H3⟩
  refine bD (aU (kM rfl) (jr rfl rfl (aA (aj (aH rfl (fun h => by exfalso; (try simp only [aG] at h); simp at h) (fun h2 => ?_))))))
  (try simp only [aG] at h2)
  refine aS (aj (ay (ay (ah (aO rfl (aU (jc underlying28 rfl rfl) (jo rfl (fun h => by exfalso; (try simp only [aG] at h); simp at h) (fun h3 => ?_))))))))
  (try simp only [aG] at h3)
  refine bD (aZ 1 underlying35 rfl sizeOf25 rfl (bD (cO underlying25 rfl (H3.f2).get.2 rfl (bD (aU (dW rfl rfl) (jr rfl rfl (aA (aj (aH rfl (fun h4 => ?_) (fun h4 => ?_))))))))))
  · (try simp only [aG] at h4)
    refine ay (ah (aV rfl (aA (aj (aJ (aK (aP (.inl rfl) results4 rfl ?_)))))))
    exact ⟨rfl, H3.base⟩
  · (try simp only [aG] at h4)
    have her : PE ≠ 0 := h4
    refine aS (aj (ay (ay (ah (aO rfl (aU (fB (hu _ (H3.right.right)) underlying23 rfl) (aO rfl (aA (aj (bf ?_))))))))))
    refine fM [(5, _), (7, _), (37, _), (38, _)] (fun (k : Nat) => [(39, .int .i64 (k : Int))]) (fun (k : Nat) W => k ≤ cs.length ∧ aB w W (dD e2 ((cs.take k).foldl aY.L8 S0) • dA b1 (.cells #[WV, .int .i64 PE] 35 (0, 0)) • F)) (fun (k : Nat) => cs.length - k) (0) (Sub.cons rfl (Sub.cons rfl (Sub.cons rfl (Sub.cons rfl (Sub.nil _))))) (Sub.cons rfl (Sub.nil _)) ⟨by omega, by rw [hS0]; exact H3.f2.f2⟩ ?_
    rintro k w4 ⟨hk, HL⟩
    dsimp only [List.cons_append, List.nil_append]
    refine ay (ah (aU (dL rfl rfl) (aA (aj (ay (aH rfl (fun h5 => ?_) (fun h5 => ?_)))))))
    · (try simp only [aG] at h5)
      refine aS (aj (ay (bf (ay ?_))))
      have hkl : k < cs.length := by omega
      obtain ⟨r1, r2, r3⟩ := g3 k hkl
      have f1 := yM.qO r1 F
      have tk : rQ (cs.getD k default).parts := t3 _ (by rw [List.getD_eq_getElem?_getD, List.getElem?_eq_getElem hkl]; exact List.getElem_mem _)
      have hrk := (Py hr0 (by rw [hS0]; rfl) (cs.take k) (fun c hc => t3 c (List.mem_of_mem_take hc))).1
      refine ah ?_
      obtain ⟨bu, ou, cu, eu⟩ := Rd.rG (hu _ (HL.right.right)) (by omega)
      cases eu
      refine aU (eF underlying23 sizeOf35 rfl rfl (by omega)) (aU (gY (ys := [_, _]) (hu _ (HL.right.right)) (by omega) underlying35 rfl sizeOf35 rfl (iQ tV.pI (by omega) default) rfl) (iy (dI (l := [_, _]) HL zeroValue35 rfl) ?_))
      rintro _ w5 ⟨b5, rfl, H5⟩
      refine aI (bJ 0 (l' := [_, _]) (us := [_, _]) H5 sizeOf35 rfl rfl rfl (aC (by first | rfl | exact Rd.one (f1 _ (H5.right.right.right))) (aC (by first | rfl | assumption) bn)) rfl rfl) ?_
      rintro _ w6 H6
      obtain ⟨c, hc⟩ : ∃ c, cs.getD k default = c := ⟨_, rfl⟩
      have HX := H6
      rw [hc] at r1 r2 r3 f1 tk HX
      try rw [hc]
      obtain ⟨pv, ps, er⟩ := c
      dsimp only at r1 r2 r3 f1 tk
      refine aA (aj (ay (ah (aO rfl (dw rfl func11 (wQ HX.f2) ?_)))))
      rintro _ w7 ⟨rfl, H7⟩
      refine aA (aj (ay (ay (ah (aZ 0 underlying35 rfl sizeOf33 rfl (cO underlying33 rfl (H7.f2).get.2 rfl (aU (fB (f1 _ (H7.right.right.right)) underlying33 rfl) (aO rfl (aA (aj (bf ?_)))))))))))
      refine fM [(5, _), (7, _), (11, _), (37, _), (38, _), (39, _), (46, _), (47, _)] (fun (j : Nat) => [(48, .int .i64 (j : Int))]) (fun (j : Nat) W => j ≤ ps.length ∧ aB w W (dD e2 ((ps.take j).foldl aY.Pv ((cs.take k).foldl aY.L8 S0).bF) • dA b1 (.cells #[WV, .int .i64 PE] 35 (0, 0)) • dA b5 (.cells #[pv, .int .i64 er] 35 (0, 0)) • F)) (fun (j : Nat) => ps.length - j) (0) (Sub.cons rfl (Sub.cons rfl (Sub.cons rfl (Sub.cons rfl (Sub.cons rfl (Sub.cons rfl (Sub.cons rfl (Sub.cons rfl (Sub.nil _))))))))) (Sub.cons rfl (Sub.nil _)) ⟨by omega, H7.f2.f3.f3⟩ ?_
      rintro j w8 ⟨hj, HJ⟩
      dsimp only [List.cons_append, List.nil_append]
      refine ay (ah (aU (dL rfl rfl) (aA (aj (ay (aH rfl (fun h6 => ?_) (fun h6 => ?_)))))))
      · (try simp only [aG] at h6)
        refine aS (aj (ay (bf (ay ?_))))
        have hjl : j < ps.length := by omega
        obtain ⟨q1, q2⟩ := r2 j hjl
        have f2 := iU.qO q1 F
        have hRj : dF ((ps.take j).foldl aY.Pv ((cs.take k).foldl aY.L8 S0).bF).c.L := (Jz (BA hrk) (ps.take j) (fun p hp => tk p (List.mem_of_mem_take hp))).1.c.L
        refine ah ?_
        obtain ⟨bpv, opv, cpv, epv⟩ := Rd.rG (f1 _ (HJ.right.right.right)) (by omega)
        cases epv
        refine aU (eF underlying33 sizeOf38 rfl rfl (by omega)) (aU (gY (ys := [_, _, _, _, _]) (f1 _ (HJ.right.right.right)) (by omega) underlying38 rfl sizeOf38 rfl (iQ kQ.pI (by omega) default) rfl) (iy (dI (l := [_, _, _, _, _]) HJ zeroValue38 rfl) ?_))
        rintro _ w9 ⟨b9, rfl, H9⟩
        refine aI (bJ 0 (l' := [_, _, _, _, _]) (us := [_, _, _, _, _]) H9 sizeOf38 rfl rfl rfl (aC (by first | rfl | assumption) (aC (by first | rfl | assumption) (aC (by first | rfl | assumption) (aC (by first | rfl | assumption) (aC (by first | rfl | exact Rd.one (f2 _ (H9.right.right.right.right))) bn))))) rfl rfl) ?_
        rintro _ w10 oP
        refine aA (aj (ah (aO rfl (aU (bU underlying38 rfl sizeOf38 rfl rfl (oP).get.2) (dw rfl func12 (Bv (p := (ps.getD j default).m) oP.right.f3.f3.f3 (fun W HW => f2 W HW.right.right) q2 hU hRj) ?_)))))
        rintro _ FT uV
        refine aA (aQ (aj (ah (aU (eP rfl rfl (by omega)) (aO rfl (aA ?_))))))
        refine dK (j + 1) ?_ ?_ ?_ ?_
        · exact (Sub.cons rfl (Sub.nil _))
        · exact (Sub.cons rfl (Sub.cons rfl (Sub.cons rfl (Sub.cons rfl (Sub.cons rfl (Sub.cons rfl (Sub.cons rfl (Sub.cons rfl (Sub.nil _)))))))))
        · (try dsimp only)
          first | done | exact ⟨by omega, by rw [og _ _ _ default hjl]; exact uV.f3.f3.f3⟩
        · (try dsimp only); omega
      · (try simp only [aG] at h6)
        refine fG (aX (aX (bM (aj ?_))))
        obtain rfl : j = ps.length := by omega
        have HY := HJ
        rw [List.take_length] at HY
        refine ah (aO rfl (aZ 1 underlying35 rfl sizeOf25 rfl (cO underlying25 rfl (HY.f3).get.2 rfl (dw rfl func13 (Ae HY) ?_))))
        rintro _ w12 ⟨rfl, rV⟩
        refine aA (aQ (aj (ah (aU (eP rfl rfl (by omega)) (aO rfl (aA ?_))))))
        refine dK (k + 1) ?_ ?_ ?_ ?_
        · exact (Sub.cons rfl (Sub.nil _))
        · exact (Sub.cons rfl (Sub.cons rfl (Sub.cons rfl (Sub.cons rfl (Sub.nil _)))))
        · (try dsimp only)
          first | done | exact ⟨by omega, by rw [og _ _ _ default hkl, hc]; exact rV.f3.right.f2.f2⟩
        · (try dsimp only); omega
    · (try simp only [aG] at h5)
      refine fG (aX (aX (bM (aj (ay ?_)))))
      obtain rfl : k = cs.length := by omega
      have HY := HL
      rw [List.take_length] at HY
      obtain ⟨hrF, hiF⟩ := Py hr0 (by rw [hS0]; rfl) cs t3
      obtain ⟨sF, hsF⟩ : ∃ s, s = cs.foldl aY.L8 S0 := ⟨_, rfl⟩
      rw [← hsF] at HY hrF hiF
      refine ah (aO rfl (dw rfl func14 (wW HY) ?_))
      rintro _ MB ⟨u13, aap, abM, aaq, rfl, vZ⟩
      obtain ⟨bus, rfl⟩ : ∃ q, q = abM := ⟨_, rfl⟩
      refine iy (dI (l := [_, _, _, _, _, _, _, _, _, _, _, _, _, _, _, _, _]) vZ zeroValue46 rfl) ?_
      rintro _ JE ⟨b14, rfl, uX⟩
      refine aI (bJ 0 (l' := [_, _, _, _, _, _, _, _, _, _, _, _, _, _, _, _, _]) (us := [_, _, _, _, _, _, _, _, _, _, _, _, _, _, _, _, _]) uX sizeOf46 rfl rfl rfl (aC (by first | rfl | exact Rd.one ((uX.f2).aT)) (aC (by first | rfl | assumption) (aC (by first | rfl | assumption) (aC (by first | rfl | assumption) (aC (by first | rfl | assumption) (aC (by first | rfl | assumption) (aC (by first | rfl | assumption) (aC (by first | rfl | assumption) (aC (by first | rfl | assumption) (aC (by first | rfl | assumption) (aC (by first | rfl | assumption) (aC (by first | rfl | exact Rd.one ((uX.f3).aT)) (aC (by first | rfl | assumption) (aC (by first | rfl | exact Rd.one ((uX.f5).aT)) (aC (by first | rfl | assumption) (aC (by first | rfl | assumption) (aC (by first | rfl | assumption) bn))))))))))))))))) rfl rfl) ?_
      rintro _ P8 yQ
      refine aA (aj (ay (ah (aO rfl (dw rfl func11 (wQ yQ.f6) ?_)))))
      rintro _ w16 ⟨rfl, qH⟩
      refine aA (aj (ay (ay (ah (aZ 0 underlying35 rfl sizeOf33 rfl (cO underlying33 rfl (qH.f7).get.2 rfl (aU (fB (hp0 _ (qH.right.right.right.right.right.right.right)) underlying33 rfl) (aO rfl (aA (aj (bf ?_)))))))))))
      refine fM [(5, _), (7, _), (14, _), (66, _), (67, _)] (fun (j2 : Nat) => [(68, .int .i64 (j2 : Int))]) (fun (j2 : Nat) W => j2 ≤ ps0.length ∧ aB w W (dD e2 ((ps0.take j2).foldl aY.rF sF.bF) • dA b1 (.cells #[WV, .int .i64 PE] 35 (0, 0)) • dA b14 (.cells (Jq sF u13 aap aaq).toArray 46 (0, 0)) • iG 21 .i32 u13 sF.c.L • Row 22 1 aap sF.c.E.length bus • xK 21 .i32 bus (pO sF.c.E sF.c.at_) • Row 130 2 aaq sF.saved.length (sF.saved.flatMap ni) • F)) (fun (j2 : Nat) => ps0.length - j2) (0) (Sub.cons rfl (Sub.cons rfl (Sub.cons rfl (Sub.cons rfl (Sub.cons rfl (Sub.nil _)))))) (Sub.cons rfl (Sub.nil _)) ⟨by omega, qH.f6.f6.f6.f6.f6.f7.f7⟩ ?_
      rintro j2 UN ⟨hj2, HJ2⟩
      dsimp only [List.cons_append, List.nil_append]
      refine ay (ah (aU (dL rfl rfl) (aA (aj (ay (aH rfl (fun h7 => ?_) (fun h7 => ?_)))))))
      · (try simp only [aG] at h7)
        refine aS (aj (ay (bf (ay ?_))))
        have Yo : j2 < ps0.length := by omega
        obtain ⟨q3, q4⟩ := g5 j2 Yo
        have f3 := iU.qO q3 F
        have abN : dF ((ps0.take j2).foldl aY.rF sF.bF).c.L := (Px (BA hrF) (ps0.take j2) (fun p hp => t4 p (List.mem_of_mem_take hp))).1.c.L
        refine ah ?_
        obtain ⟨acD, acE, acF, abO⟩ := Rd.rG (hp0 _ (HJ2.right.right.right.right.right.right.right)) (by omega)
        cases abO
        refine aU (eF underlying33 sizeOf38 rfl rfl (by omega)) (aU (gY (ys := [_, _, _, _, _]) (hp0 _ (HJ2.right.right.right.right.right.right.right)) (by omega) underlying38 rfl sizeOf38 rfl (iQ kQ.pI (by omega) default) rfl) (iy (dI (l := [_, _, _, _, _]) HJ2 zeroValue38 rfl) ?_))
        rintro _ UO ⟨b18, rfl, BF⟩
        refine aI (bJ 0 (l' := [_, _, _, _, _]) (us := [_, _, _, _, _]) BF sizeOf38 rfl rfl rfl (aC (by first | rfl | assumption) (aC (by first | rfl | assumption) (aC (by first | rfl | assumption) (aC (by first | rfl | assumption) (aC (by first | rfl | exact Rd.one (f3 _ (BF.right.right.right.right.right.right.right.right))) bn))))) rfl rfl) ?_
        rintro _ UQ xk
        refine aA (aj (ay (ah (aZ 0 underlying38 rfl sizeOf3 rfl (cO underlying3 rfl (xk).get.2 rfl (aU (dL rfl rfl) (aA (aj (aH rfl (fun h8 => ?_) (fun h8 => ?_))))))))))
        · (try simp only [aG] at h8)
          have UG : (ps0.getD j2 default).kd < 20 := h8
          refine ah (aO rfl (aU (bU underlying38 rfl sizeOf38 rfl rfl (xk).get.2) (dw rfl func12 (Bv (p := (ps0.getD j2 default).m) xk.right.f7.f7.f7.f7.f7.f7.f7 (fun W HW => f3 W HW.right.right.right.right.right.right) q4 hU abN) ?_)))
          rintro _ Vh yR
          refine aA (aQ (aj (ah (aU (eP rfl rfl (by omega)) (aO rfl (aA ?_))))))
          refine dK (j2 + 1) ?_ ?_ ?_ ?_
          · exact (Sub.cons rfl (Sub.nil _))
          · exact (Sub.cons rfl (Sub.cons rfl (Sub.cons rfl (Sub.cons rfl (Sub.cons rfl (Sub.nil _))))))
          · (try dsimp only)
            first | done | exact ⟨by omega, by
                    rw [og _ _ _ default Yo]
                    first
                      | (rw [show aY.rF _ (ps0.getD j2 default) = aY.Dl _ (ps0.getD j2 default).m from if_pos (show (ps0.getD j2 default).kd < 20 from UG)]; exact yR.f7.f7.f7.f7.f7.f7.f7)
                      | (rw [show aY.rF _ (ps0.getD j2 default) = _ from if_neg (show ¬ (ps0.getD j2 default).kd < 20 from UG)]; exact yR.f7.f7.f7.f7.f7.f7.f7)⟩
          · (try dsimp only); omega
        · (try simp only [aG] at h8)
          have UG : ¬ (ps0.getD j2 default).kd < 20 := by have h9 := h8; omega
          refine aS (aQ (aj (ah (aU (eP rfl rfl (by omega)) (aO rfl (aA ?_))))))
          refine dK (j2 + 1) ?_ ?_ ?_ ?_
          · exact (Sub.cons rfl (Sub.nil _))
          · exact (Sub.cons rfl (Sub.cons rfl (Sub.cons rfl (Sub.cons rfl (Sub.cons rfl (Sub.nil _))))))
          · (try dsimp only)
            first | done | exact ⟨by omega, by
                    rw [og _ _ _ default Yo]
                    first
                      | (rw [show aY.rF _ (ps0.getD j2 default) = aY.Dl _ (ps0.getD j2 default).m from if_pos (show (ps0.getD j2 default).kd < 20 from UG)]; exact xk.right.f7.f7.f7.f7.f7.f7.f7)
                      | (rw [show aY.rF _ (ps0.getD j2 default) = _ from if_neg (show ¬ (ps0.getD j2 default).kd < 20 from UG)]; exact xk.right.f7.f7.f7.f7.f7.f7.f7)⟩
          · (try dsimp only); omega
      · (try simp only [aG] at h7)
        refine fG (aX (aX (bM (aj (ay (ay ?_))))))
        obtain rfl : j2 = ps0.length := by omega
        have HY := HJ2
        rw [List.take_length] at HY
        obtain ⟨z1, z2, z3, z4, z5, z6, z7, z8, z9⟩ := refused hiF hrF t4 her
        have UH := HY.drew
        have y7 := aB.kp (UH.right.f6.f6.f6.f6.f6.f6)
        refine uH [2, 5] y7 rfl (fU 0 rfl y7 rfl (dP 1 rfl y7 1 underlying35 rfl sizeOf25 rfl (gQ 2 rfl y7 (fun W hW => iI underlying25 rfl ((Kp.h hW)).get.2 rfl) (dP 4 rfl y7 1 underlying35 rfl sizeOf25 rfl (gQ 5 rfl y7 (fun W hW => iI underlying25 rfl ((Kp.h hW)).get.2 rfl) (jH 3 rfl (rU rfl func13 (Ae UH)) ?_))))))
        rintro _ Vj ⟨rfl, oQ⟩
        have O9 := aB.kp (oQ.f7.f7.f7.f7.f7.f7.f7)
        refine bW O9 (fun W hW => (Kp.h hW).right.f6.f6.f6.f6.f6.f6) ?_
        refine iJ 6 rfl O9 (fun _ => bZ rfl rfl) (mg (aj (aH rfl (fun h => by exfalso; (try simp only [aG] at h); exact h z1) (fun h9 => ?_))))
        (try simp only [aG] at h9)
        refine aS (aj (ay (ah (aO rfl (dw rfl func14 (wW oQ) ?_)))))
        rintro _ Yr ⟨u22, acG, abP, acH, rfl, DR⟩
        obtain ⟨acI, rfl⟩ : ∃ q, q = abP := ⟨_, rfl⟩
        refine iy (dI (l := [_, _, _, _, _, _, _, _, _, _, _, _, _, _, _, _, _]) DR zeroValue46 rfl) ?_
        rintro _ RJ ⟨b23, rfl, tY⟩
        refine aI (bJ 0 (l' := [_, _, _, _, _, _, _, _, _, _, _, _, _, _, _, _, _]) (us := [_, _, _, _, _, _, _, _, _, _, _, _, _, _, _, _, _]) tY sizeOf46 rfl rfl rfl (aC (by first | rfl | exact Rd.one ((tY.f2).aT)) (aC (by first | rfl | assumption) (aC (by first | rfl | assumption) (aC (by first | rfl | assumption) (aC (by first | rfl | assumption) (aC (by first | rfl | assumption) (aC (by first | rfl | assumption) (aC (by first | rfl | assumption) (aC (by first | rfl | assumption) (aC (by first | rfl | assumption) (aC (by first | rfl | assumption) (aC (by first | rfl | exact Rd.one ((tY.f3).aT)) (aC (by first | rfl | assumption) (aC (by first | rfl | exact Rd.one ((tY.f5).aT)) (aC (by first | rfl | assumption) (aC (by first | rfl | assumption) (aC (by first | rfl | assumption) bn))))))))))))))))) rfl rfl) ?_
        rintro _ YS GZ
        refine aA (aj (ay (ay (ah (aZ 16 underlying46 rfl sizeOf2 rfl (cO underlying2 rfl (GZ).get.2 rfl (aZ 16 underlying46 rfl sizeOf2 rfl (cO underlying2 rfl (GZ.f8).get.2 rfl (aU (Xb rfl rfl) (aU (bZ rfl rfl) (jo rfl (fun h => by exfalso; (try simp only [aG] at h); exact h z6) (fun h10 => ?_))))))))))))
        (try simp only [aG] at h10)
        refine bD (aZ 5 underlying46 rfl sizeOf4 rfl (bD (cO underlying4 rfl (GZ).get.2 rfl (jr rfl rfl (jo rfl (fun h => by exfalso; (try simp only [aG] at h); rw [z7] at h; simp at h) (fun h11 => ?_))))))
        (try simp only [aG] at h11)
        refine bD (aZ 8 underlying46 rfl sizeOf3 rfl (bD (cO underlying3 rfl (GZ).get.2 rfl (bD (aU (bZ rfl rfl) (jr rfl rfl (aA (aj (aH rfl (fun h => by exfalso; (try simp only [aG] at h); exact h z8) (fun h12 => ?_))))))))))
        (try simp only [aG] at h12)
        refine aS (aj (ay ?_))
        have UJ := GZ.drew
        have kL := aB.kp (UJ.right.f11.f11.f11.f11.f11.f11.f11.f11.f11.f11.f11)
        refine uH [1, 3, 5, 7, 9, 11, 13] kL rfl (dP 0 rfl kL 16 underlying46 rfl sizeOf2 rfl (gQ 1 rfl kL (fun W hW => iI underlying2 rfl ((Kp.h hW).f7).get.2 rfl) (dP 2 rfl kL 5 underlying46 rfl sizeOf4 rfl (gQ 3 rfl kL (fun W hW => iI underlying4 rfl ((Kp.h hW).f7).get.2 rfl) (dP 4 rfl kL 6 underlying46 rfl sizeOf4 rfl (gQ 5 rfl kL (fun W hW => iI underlying4 rfl ((Kp.h hW).f7).get.2 rfl) (dP 6 rfl kL 7 underlying46 rfl sizeOf3 rfl (gQ 7 rfl kL (fun W hW => iI underlying3 rfl ((Kp.h hW).f7).get.2 rfl) (dP 8 rfl kL 8 underlying46 rfl sizeOf3 rfl (gQ 9 rfl kL (fun W hW => iI underlying3 rfl ((Kp.h hW).f7).get.2 rfl) (dP 10 rfl kL 9 underlying46 rfl sizeOf3 rfl (gQ 11 rfl kL (fun W hW => iI underlying3 rfl ((Kp.h hW).f7).get.2 rfl) (dP 12 rfl kL 10 underlying46 rfl sizeOf3 rfl (gQ 13 rfl kL (fun W hW => iI underlying3 rfl ((Kp.h hW).f7).get.2 rfl) (dP 14 rfl kL 16 underlying46 rfl sizeOf2 rfl ?_)))))))))))))))
        refine dB 15 rfl (by kernel_rfl) (aN 16 (l' := [_, _, _, _, _, _, _, _, _, _, _, _, _, _, _, _, _]) UJ sizeOf2 rfl rfl (by first | rfl | assumption) rfl rfl) ?_
        rintro _ Yt G6
        have Hu := aB.kp (G6.right.f11.f11.f11.f11.f11.f11.f11.f11.f11.f11.f11)
        refine bW Hu (fun W hW => (Kp.h hW).f11.f11.f11.f11.f11.f11.f11.f11.f11.f11.f11) ?_
        refine dP 16 rfl Hu 5 underlying46 rfl sizeOf4 rfl ?_
        refine dB 17 rfl (by kernel_rfl) (aN 5 (l' := [_, _, _, _, _, _, _, _, _, _, _, _, _, _, _, _, _]) G6 sizeOf4 rfl rfl (by first | rfl | assumption) rfl rfl) ?_
        rintro _ Yu JZ
        have Pe := aB.kp (JZ.right.f11.f11.f11.f11.f11.f11.f11.f11.f11.f11.f11)
        refine bW Pe (fun W hW => (Kp.h hW).f11.f11.f11.f11.f11.f11.f11.f11.f11.f11.f11) ?_
        refine dP 18 rfl Pe 6 underlying46 rfl sizeOf4 rfl ?_
        refine dB 19 rfl (by kernel_rfl) (aN 6 (l' := [_, _, _, _, _, _, _, _, _, _, _, _, _, _, _, _, _]) JZ sizeOf4 rfl rfl (by first | rfl | assumption) rfl rfl) ?_
        rintro _ Yv FZ
        have Pg := aB.kp (FZ.right.f11.f11.f11.f11.f11.f11.f11.f11.f11.f11.f11)
        refine bW Pg (fun W hW => (Kp.h hW).f11.f11.f11.f11.f11.f11.f11.f11.f11.f11.f11) ?_
        refine dP 20 rfl Pg 7 underlying46 rfl sizeOf3 rfl ?_
        refine dB 21 rfl (by kernel_rfl) (aN 7 (l' := [_, _, _, _, _, _, _, _, _, _, _, _, _, _, _, _, _]) FZ sizeOf3 rfl rfl (by first | rfl | assumption) rfl rfl) ?_
        rintro _ w28 RN
        have LC := aB.kp (RN.right.f11.f11.f11.f11.f11.f11.f11.f11.f11.f11.f11)
        refine bW LC (fun W hW => (Kp.h hW).f11.f11.f11.f11.f11.f11.f11.f11.f11.f11.f11) ?_
        refine dP 22 rfl LC 8 underlying46 rfl sizeOf3 rfl ?_
        refine dB 23 rfl (by kernel_rfl) (aN 8 (l' := [_, _, _, _, _, _, _, _, _, _, _, _, _, _, _, _, _]) RN sizeOf3 rfl rfl (by first | rfl | assumption) rfl rfl) ?_
        rintro _ w29 RP
        have Ph := aB.kp (RP.right.f11.f11.f11.f11.f11.f11.f11.f11.f11.f11.f11)
        refine bW Ph (fun W hW => (Kp.h hW).f11.f11.f11.f11.f11.f11.f11.f11.f11.f11.f11) ?_
        refine dP 24 rfl Ph 9 underlying46 rfl sizeOf3 rfl ?_
        refine dB 25 rfl (by kernel_rfl) (aN 9 (l' := [_, _, _, _, _, _, _, _, _, _, _, _, _, _, _, _, _]) RP sizeOf3 rfl rfl (by first | rfl | assumption) rfl rfl) ?_
        rintro _ w30 MV
        have Pj := aB.kp (MV.f12.f12.f12.f12.f12.f12.f12.f12.f12.f12.f12.f12)
        refine bW Pj (fun W hW => (Kp.h hW).right.f11.f11.f11.f11.f11.f11.f11.f11.f11.f11.f11) ?_
        refine dP 26 rfl Pj 10 underlying46 rfl sizeOf3 rfl ?_
        refine dB 27 rfl (by kernel_rfl) (aN 10 (l' := [_, _, _, _, _, _, _, _, _, _, _, _, _, _, _, _, _]) MV sizeOf3 rfl rfl (by first | rfl | assumption) rfl rfl) ?_
        rintro _ Yw IQ
        have KR := aB.kp (IQ.f12.f12.f12.f12.f12.f12.f12.f12.f12.f12.f12.f12)
        refine fA KR (by kernel_rfl) ?_
        refine mg (aj (ay ?_))
        have HX := IQ.f6.right.f6.right.f5.f5.f5.f5.f10.f10.f10.f10.f9.f10
        rw [z2, z3, z4, z5, show (((ps0.foldl aY.rF sF.bF).iE PE).c.pt) = sF.c.pt from (congrArg UU.pt z9).symm, show (((ps0.foldl aY.rF sF.bF).iE PE).c.mark) = sF.c.mark from (congrArg UU.mrk z9).symm, show (((ps0.foldl aY.rF sF.bF).iE PE).c.mode) = sF.c.mode from (congrArg UU.mode z9).symm,
          show (((ps0.foldl aY.rF sF.bF).iE PE).c.over) = sF.c.over from (congrArg UU.over z9).symm, show (((ps0.foldl aY.rF sF.bF).iE PE).c.place) = sF.c.place from (congrArg UU.place z9).symm, show (((ps0.foldl aY.rF sF.bF).iE PE).uT) = sF.uT from (congrArg UU.WR z9).symm, show (((ps0.foldl aY.rF sF.bF).iE PE).c.res) = sF.c.res from (congrArg UU.res z9).symm] at HX
        have hlen : sF.c.E.length = (pO sF.c.E sF.c.at_).length := by have h1 := HX.f4.wz; have h2 := HX.f5.Lp; omega
        refine ah (aU (bU underlying46 rfl sizeOf46 rfl rfl (HX).get.2) (aU (bU underlying46 rfl sizeOf46 rfl rfl (HX.f2).get.2) (dw rfl func20 (FI (x := VT sF) (l := sF.c.L) (ls := pO sF.c.E sF.c.at_) (S := sF.saved) HX (fun W HW => HW.f3.aT) (fun W HW => HW.f7.aT) (fun W HW => hlen ▸ HW.f4.aT) (fun W HW => hlen ▸ HW.f8.aT) (fun k hk W HW => HW.f5.O8 hk) (fun k hk W HW => HW.f9.O8 hk) (fun W HW => HW.f6.aT) (fun W HW => HW.f10.aT)) ?_)))
        rintro _ Xj ⟨rfl, FU⟩
        refine aV rfl (aA (aj (aJ (aP (.inl rfl) results4 rfl ?_))))
        exact ⟨rfl, FU.base⟩
end Go.Proofs.YtgmpclifphbjkaaGreatDoor
end
section
set_option maxRecDepth 100000
namespace Go.Proofs.YtgmpclifphbjkaaGreatDoor
open Go.ChangeShapes Go.WideShapes Go.ChangeAt Go.RowKit
theorem Yp {H : Type} {enc : TypeId × Value → H} {W : World} {B : Nat} {cs : List Value} (h : uI B enc Tryz.prog W 152 cs) : ∃ x0 x1, cs = [.string x0, .int .i64 x1] ∧ x0.size ≤ B ∧ (Lit.int .i64 x1).wf = true := by
  obtain ⟨hl, hf⟩ := h.struct Tryz.underlying152
  rw [show Tryz.prog.cellsOf 152 = 2 from by kernel_rfl] at hl
  match cs, hl with
  | [c0, c1], _ =>
    have h0 : uI B enc Tryz.prog W 9 (([c0, c1].drop 0).take (Tryz.prog.cellsOf 9)) := hf 0 _ rfl
    rw [show Tryz.prog.cellsOf 9 = 1 from by kernel_rfl] at h0
    obtain ⟨x0, e0, w0⟩ := h0.string Tryz.underlying9
    have h1 : uI B enc Tryz.prog W 2 (([c0, c1].drop 1).take (Tryz.prog.cellsOf 2)) := hf 1 _ rfl
    rw [show Tryz.prog.cellsOf 2 = 1 from by kernel_rfl] at h1
    obtain ⟨x1, e1, w1⟩ := h1.int Tryz.underlying2
    simp only [List.drop, List.take, List.cons.injEq, and_true] at e0 e1
    exact ⟨x0, x1, by simp_all, w0, w1⟩
theorem QU {H : Type} {enc : TypeId × Value → H} {W : World} {n : Nat} {xs : List Value} (hx : xs.length = n * 2) (h : ∀ k, k < n → uI (1048576 * 4096) enc Tryz.prog W 152 ((xs.drop (k * 2)).take 2)) :
    ∃ l : List mM, l.length = n ∧ xs = l.flatMap iW := by
  obtain ⟨l, h1, h2, -⟩ := I5 (enc := iW) (p := fun _ => True) hx (fun k hk => by
    obtain ⟨x0, x1, e, -⟩ := Yp (h k hk)
    exact ⟨(x0, x1), e, trivial⟩)
  exact ⟨l, h1, h2⟩
theorem Xj {l : List Int} (h : ∀ n ∈ l, (Lit.int .i32 n).wf = true) : dF l := fun n hn => by
  have h := h n hn
  simp [Lit.wf, IntKind.min, IntKind.max, IntKind.signed, IntKind.bits] at h
  omega
theorem Iy {H : Type} {enc : TypeId × Value → H} {W : World} {n : Nat} {xs : List Value} (hx : xs.length = n * 5) (h : ∀ k, k < n → uI (1048576 * 4096) enc Tryz.prog W 38 ((xs.drop (k * 5)).take 5)) :
    ∃ l : List kQ, l.length = n ∧ xs = l.flatMap kQ.enc ∧ (∀ k, k < n → (l.getD k default).Reads W) ∧ rQ l := by
  obtain ⟨l, h1, h2, h3⟩ := I5 (enc := kQ.enc) (p := fun o => o.Reads W ∧ dF o.text) hx (fun k hk => by
    obtain ⟨x0, x1, x2, x3, v4, x4, e, -, -, -, ⟨gt, bt, wt⟩⟩ := Vf (h k hk)
    exact ⟨⟨x0, x1, x2, x3, v4, x4⟩, e, ⟨gt, by dsimp only; omega⟩, Xj wt⟩)
  refine ⟨l, h1, h2, fun k hk => (h3 k hk).1, fun p hp => ?_⟩
  obtain ⟨k, hk, rfl⟩ := List.getElem_of_mem hp
  have := (h3 k (by omega)).2
  rwa [List.getD_eq_getElem?_getD, List.getElem?_eq_getElem hk] at this
theorem UK {H : Type} {enc : TypeId × Value → H} {W : World} {n : Nat} {xs : List Value} (hx : xs.length = n * 2) (h : ∀ k, k < n → uI (1048576 * 4096) enc Tryz.prog W 35 ((xs.drop (k * 2)).take 2)) :
    ∃ l : List tV, l.length = n ∧ xs = l.flatMap tV.enc ∧ (∀ k, k < n → (l.getD k default).Reads W) ∧ ∀ c ∈ l, rQ c.parts := by
  obtain ⟨l, h1, h2, h3⟩ := I5 (enc := tV.enc) (p := fun o => o.Reads W ∧ rQ o.parts) hx (fun k hk => by
    obtain ⟨v0, n0, x0, x1, e, ⟨g0, b0, s0⟩, -⟩ := RF (h k hk)
    obtain ⟨ps, k1, k2, k3, k4⟩ := Iy g0.len s0
    rw [show Tryz.prog.bytesOf 38 = 56 from by kernel_rfl] at b0
    subst k1 k2
    exact ⟨⟨v0, ps, x1⟩, e, ⟨g0, k3, by dsimp only; omega⟩, k4⟩)
  refine ⟨l, h1, h2, fun k hk => (h3 k hk).1, fun p hp => ?_⟩
  obtain ⟨k, hk, rfl⟩ := List.getElem_of_mem hp
  have := (h3 k (by omega)).2
  rwa [List.getD_eq_getElem?_getD, List.getElem?_eq_getElem hk] at this
set_option maxRecDepth 100000 in
theorem xM (os : Os) (started : os.Started) (H : Type) (enc : TypeId × Value → H) (F : Stop.Interp) :
    ReturnsInHanded {} Tryz.checked os 4 .any ((Rows.OpenSpec.upto Rows.editorRefusedSpec).preRow enc Tryz.prog Tryz.f4 Rows.editorRefusedUptoRow.domain false GN) (((Rows.OpenSpec.upto Rows.editorRefusedSpec).at F).post enc Tryz.prog Tryz.f4 false true false false) := by
  refine zL (C := Tryz.checked) (tb := 4) (M := 4096) (z := 257) _ (by kernel_rfl) (by decide) (by kernel_rfl) own laid started (by kernel_rfl) Tryz.func4 (congrArg Array.toList Tryz.params4) rfl Tryz.underlying4 rfl (by kernel_rfl) (fun ds hd => ?_)
    (witness_row_at (enc := enc) (C := Tryz.checked) false (World.laidAll Tryz.prog os GN) #[.slice none 0 0, .slice none 0 0, .agg #[.slice none 0 0, .int .i64 0]] (World.laidAll_os _ _ _) (by kernel_rfl) (by kernel_rfl) (by kernel_rfl)
      (OpenSpec.preRow_of_cond 8 (x := ([.nil, .nil, .agg [.nil, .lit (.int .i64 0)]], [], [])) (by kernel_rfl) (by kernel_rfl) (fun k hk => by cases hk; kernel_rfl) (by kernel_rfl) (by have := Rk os #[.slice none 0 0, .slice none 0 0, .agg #[.slice none 0 0, .int .i64 0]]; rwa [MakeChecks.laidMetH_plain _ _ _ (by kernel_rfl)] at this))) ?_
  · obtain ⟨a0, a1, a2, rfl⟩ := PU hd
    rfl
  intro W args hL hin
  obtain ⟨hT, hU⟩ := U7 hL
  obtain ⟨v1, v2, v3, rfl, ⟨⟨_, o1⟩, i1⟩, ⟨⟨_, o2⟩, i2⟩, ⟨⟨_, o3⟩, i3⟩⟩ := hin.three
  obtain ⟨a1, n1, c1, rfl⟩ := okWide_slice Tryz.underlying51 o1
  obtain ⟨a2, n2, c2, rfl⟩ := okWide_slice Tryz.underlying23 o2
  obtain ⟨cs3, rfl, -⟩ := okWide_struct Tryz.underlying35 o3
  obtain ⟨u1, n, xs, e1, p1, p2, p3⟩ := i1.slice Tryz.underlying51 (by rw [show Tryz.prog.cellsOf 152 = 2 from by kernel_rfl]; decide)
  rw [show Tryz.prog.cellsOf 152 = 2 from by kernel_rfl] at p1 p3
  rw [show Tryz.prog.bytesOf 152 = 24 from by kernel_rfl] at p2
  obtain rfl := List.singleton_inj.1 e1
  obtain ⟨l, l1, l2⟩ := QU p1.len p3
  subst l1 l2
  obtain ⟨u, n', xs', e2, h1, h2, h3⟩ := i2.slice Tryz.underlying23 (by rw [show Tryz.prog.cellsOf 35 = 2 from by kernel_rfl]; decide)
  rw [show Tryz.prog.cellsOf 35 = 2 from by kernel_rfl] at h1 h3
  rw [show Tryz.prog.bytesOf 35 = 32 from by kernel_rfl] at h2
  obtain rfl := List.singleton_inj.1 e2
  obtain ⟨cs, k1, k2, k3, k4⟩ := UK h1.len h3
  subst k1 k2
  obtain ⟨v0, n0, x0, x1, e3, ⟨g0, b0, s0⟩, -⟩ := RF i3
  obtain ⟨ps, q1, q2, q3, q4⟩ := Iy g0.len s0
  rw [show Tryz.prog.bytesOf 38 = 56 from by kernel_rfl] at b0
  subst q1 q2
  obtain rfl : cs3 = #[v0, .int .i64 x1] := Array.ext' e3
  by_cases hm : pU l = 0
  · exact FP (RD hL) p1 (by omega) hm h1 k3 k4 (by omega) g0 q3 q4 (by omega)
  · exact Me p1 (by omega) hm
theorem Ai : Rows.EditorRefusedUptoSaid :=
  OpenClaim.holds_of_cond 4 Tryz.f4 rfl rfl rfl rfl rfl rfl rfl ⟨rfl, rfl, rfl, rfl, rfl⟩ rfl rfl rfl rfl rfl (by kernel_rfl) Tryz.func4 (by kernel_rfl)
    (of_decide_eq_true (by kernel_rfl)) (by unfold Func.isWrapper; first | (rw [if_pos (by decide +kernel)]; kernel_rfl) | (rw [if_neg (by decide +kernel)]; exact ⟨rfl, rfl⟩))
    (fun os started H enc _ F => by rw [OpenClaim.pre_eq_preRow]; exact xM os started H enc F)
theorem editorRefused_uptoCard : Rows.EditorRefusedUptoCardSaid :=
  Claim7.holds_tied_plain_at .later [] [.data, .pinned] true (true, "e57ec22d5011dd699b23356e973d0f3726ab5e1591670ca2b34591d57076bf6d") false
    Ai (fun _ h => by cases h) (by kernel_rfl) (fun _ h => by cases h) editorRefusedUpto_row_tie rfl ⟨rfl, rfl⟩ (by kernel_rfl) rfl
    (fun f fn hf hfn => by
      obtain rfl : f = 4 := Option.some.inj ((show Tryz.prog.funcNamed "lanyard/lanyardlaw17.EditorRefused" = some 4 by kernel_rfl).symm.trans hf) |>.symm
      obtain rfl : fn = Tryz.f4 := (Option.some.inj (Tryz.func4.symm.trans hfn)).symm
      exact ⟨by kernel_rfl, fun j t ht => by
        rw [Tryz.params4] at ht
        have hm : t ∈ [51, 23, 35] := by simpa using Array.mem_of_getElem? ht
        have hall : ([51, 23, 35].all fun u => !Tryz.prog.wantsStandIn u) = true := by kernel_rfl
        exact (show Tryz.prog.wantsStandIn t = false by simpa using List.all_eq_true.1 hall t hm)⟩)
    (by kernel_rfl)
end Go.Proofs.YtgmpclifphbjkaaGreatDoor
end
