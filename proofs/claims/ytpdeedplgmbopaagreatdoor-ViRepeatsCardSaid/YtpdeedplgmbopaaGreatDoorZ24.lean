import Derived.Test.YtpdeedplgmbopaaGreatDoorZ4
import Derived.Test.YtpdeedplgmbopaaGreatDoorZ23
import Derived.Test.YtpdeedplgmbopaaGreatDoorZ22
import Derived.Test.YtpdeedplgmbopaaGreatDoorZ15
import Derived.Test.YtpdeedplgmbopaaGreatDoorZ13
import Derived.Test.YtpdeedplgmbopaaGreatDoorZ11
import Derived.Test.YtpdeedplgmbopaaGreatDoorZ19
import Derived.Test.YtpdeedplgmbopaaGreatDoorZ21
import Derived.Test.YtpdeedplgmbopaaGreatDoorZ17
set_option linter.unusedSimpArgs false
set_option linter.unusedVariables false
/- Texts of mine, joined, their names in short: REdN VBoth VLive VRpM LawVRepeats. -/
section
namespace Go.Proofs.YtpdeedplgmbopaaGreatDoor
open Go.RowKit
open _root_.Go.Proofs.Tryz
theorem Vj (hl : List tu) : kJ hl (fun _ => none) (hl.length : Int) = .empty := by
  unfold kJ Dl TJ
  rw [if_neg (by omega)]; rfl
section
variable {w0 w : World} {F : HP} {y h : Nat} {s : bF} {hl : List tu} {base most : Int} {l : List Int} {v : Value}
set_option maxHeartbeats 1000000 in
theorem IZ {x0 x1 x2 x3 x4 x5 x6 x7 x8 x9 x10 x11 x12 y7 x14 x15 x16 x17 x18 x19 x20 x21 zV x23 x24 x25 Ak x27 x28 x29 x30 x31 Bh x34 SN SQ SS x38 x39 x40 x41 : Value} {b : Bool} (hb : b = false) (H : V w0 w (eP y (.cells (x0 :: x1 :: x2 :: x3 :: x4 :: x5 :: x6 :: x7 :: x8 :: x9 :: x10 :: x11 :: x12 :: y7 :: x14 :: x15 :: x16 :: x17 :: x18 :: x19 :: x20 :: x21 :: zV :: x23 :: x24 :: x25 :: Ak :: x27 :: x28 :: x29 :: x30 :: x31 :: .bool b :: Bh :: x34 :: SN :: SQ :: SS :: x38 :: x39 :: x40 :: x41 :: []).toArray 174 (0, 0)) • kQ h hl base most • F)) (hr : jh w0 F .i32 v l) (hshort : l.length ≤ 1024) : iQ prog 60 #[.pointer (some ⟨y, 0, none⟩), .pointer (some ⟨h, 0, none⟩), v] w fun v' w' => v' = .int .i64 0 ∧ ∃ ph pb wv nv,
    V w0 w' (eP y (.cells (.pointer (some ⟨ph, 0, none⟩) :: .pointer (some ⟨pb, 0, none⟩) :: x2 :: wv :: nv :: .int .i64 hl.length :: .string .empty :: .slice none 0 0 :: .slice none 0 0 :: x9 :: .bool false :: .int .i64 0 :: .bool false :: y7 :: x14 :: x15 :: x16 :: x17 :: x18 :: x19 :: x20 :: x21 :: zV :: x23 :: x24 :: .bool false :: .bool false :: .int .i64 (-1) :: .int .i64 0 :: .int .i64 0 :: .int .i64 0 :: x31 :: .bool b :: Bh :: x34 :: SN :: SQ :: SS :: x38 :: x39 :: x40 :: x41 :: []).toArray 174 (0, 0)) •
      qY pb l l.length (-1) • yT 1 wv (hl.length + 1) (strs (qU hl)) • Row 9 1 nv (hl.length + 1) (strs (yR hl (fun _ => none))) • kQ ph hl base most • kQ h hl base most • F) := by
  refine zk func60 ntmps60 ?_
  refine ku O (aI (bM O (aQ (iJ tZ O O) (iE (Oh O (fun h1 => ?_))))))
  (try simp only [Z] at h1)
  refine fV (aI (bM O (dK O (bI 32 aT O aS O (fC cZ O (H).get.2 O (jr O (fun h => by exfalso; (try simp only [Z] at h); simp [hb] at h) (fun h2 => ?_)))))))
  (try simp only [Z] at h2)
  refine fV (bM O (dS O func112 (U7 H (fun W HW => hr _ (HW.right.right)) hshort) ?_))
  rintro _ w1 ⟨p1, rfl, H1⟩
  refine bJ O (pW O O (pW O O (gU O (uf O (bM O (aQ (gY O O) (iE (Oh O (fun h3 => ?_)))))))))
  (try simp only [Z] at h3)
  refine fV (bM O (bJ O (dS O func113 (KI H1.f3) ?_)))
  rintro _ w2 ⟨q2, rfl, H2⟩
  refine dK O (bI 0 aT O sizeOf104 O (aJ (nX 0 H2.f4 sizeOf104) ?_))
  rintro _ w3 H3
  refine sG O (oq O O (bI 1 aT O gV O (bI 0 dO O sizeOf163 O (aJ (nX 1 H3 sizeOf163) ?_))))
  rintro _ w4 H4
  refine sG O (oq O O (bI 0 aT O sizeOf104 O (fC tZ O (H4).get.2 O (dS O func114 (OI H4.f2) ?_))))
  rintro _ w5 ⟨q5, ov5, nv5, rfl, H5⟩
  refine dK O (aQ (dV jc O qJ O O (H5).get.2) (dK O (bI 1 aT O gV O (bI 2 dO O qJ O (aJ (dG 3 (l' := [_, _, _, _, _, _, _, _, _, _, _, _, _, _, _, _, _, _, _, _, _, _, _, _, _, _, _, _, _, _, _, _, _, _, _, _, _, _, _, _, _, _]) (us := [_, _, _]) H5.f5 qJ O O O (bg (by first | rfl | exact Rd.one ((H5.f2).aP)) (bg (by first | rfl | exact Rd.one ((H5.f3).aP)) (aG bW))) O O) ?_)))))
  rintro _ w6 H6
  refine sG O (dK O (bI 1 aT O gV O (bI 5 dO O eG O (aJ (nX 6 H6 eG) ?_))))
  rintro _ w7 H7
  refine sG O (aQ (fU (zl := [.slice none 0 0, .slice none 0 0]) (pl := [(0, 1), (1, 1)]) [_, _] kZ zeroValue170 O (fun w => by kernel_rfl) O (.zero (zs := [.slice none 0 0]) O (.zero (zs := [.slice none 0 0]) O .nil)) O) (dK O (bI 1 aT O gV O (bI 6 dO O sizeOf170 O (aJ (dG 7 (l' := [_, _, _, _, _, _, _, _, _, _, _, _, _, _, _, _, _, _, _, _, _, _, _, _, _, _, _, _, _, _, _, _, _, _, _, _, _, _, _, _, _, _]) (us := [_, _]) H7 sizeOf170 O O O (aG (aG bW)) O O) ?_)))))
  rintro _ w8 H8
  refine sG O (jX O O (dK O (bI 1 aT O gV O (bI 9 dO O aS O (aJ (nX 10 H8 aS) ?_)))))
  rintro _ w9 H9
  refine dK O (bI 1 aT O gV O (bI 10 dO O ay O (aJ (nX 11 H9 ay) ?_)))
  rintro _ w10 pz
  refine dK O (bI 1 aT O gV O (bI 11 dO O aS O (aJ (nX 12 pz aS) ?_)))
  rintro _ FM rY
  refine sG O (jX O O (dK O (bI 25 aT O aS O (aJ (nX 25 rY aS) ?_))))
  rintro _ w12 vM
  refine dK O (bI 26 aT O aS O (aJ (nX 26 vM aS) ?_))
  rintro _ PD xI
  refine dK O (bI 27 aT O ay O (aJ (nX 27 xI ay) ?_))
  rintro _ Pz yF
  refine sG O (jX O O (dK O (bI 28 aT O ay O (aJ (nX 28 yF ay) ?_))))
  rintro _ QI yA
  refine dK O (bI 29 aT O ay O (aJ (nX 29 yA ay) ?_))
  rintro _ w16 vN
  refine dK O (bI 30 aT O ay O (aJ (nX 30 vN ay) ?_))
  rintro _ Z5 DF
  refine iE (kC O (dI results60 O ?_))
  have HQ := (DF.f2.right.f5.f5.f5.f6.f5.f6).Jy
  rw [FC, ← NY] at HQ
  exact ⟨O, _, _, _, _, by rw [← NY]; exact HQ.f2.f3.f2⟩
theorem af0 (hl : List tu) (base most : Int) : kK (bF.new hl base most) [] [] 0 0 :=
  ⟨Rj hl base most, ⟨⟨fun k => ⟨by show ig [] [] ≤ 16384; decide, by show ∀ g ∈ [], _; simp⟩, by show (0 : Nat) ≤ 60; decide, .inr rfl, by show ∀ e ∈ [], _; simp⟩, fun hi => absurd hi (by show ¬ false = true; decide), fun hi => absurd hi (by show ¬ false = true; decide)⟩, rfl, rfl, ⟨List.nodup_nil, by simp⟩, fun hi => absurd hi (by show ¬ false = true; decide)⟩
theorem Vk (H : V w0 w (kQ h hl base most • F)) : iQ prog 58 #[.pointer (some ⟨h, 0, none⟩)] w fun v' w' => ∃ y, v' = .tuple #[.pointer (some ⟨y, 0, none⟩), .int .i64 0] ∧ V w0 w' (sH y (bF.new hl base most) • kQ h hl base most • F) := by
  refine ji func58 ntmps58 ?_
  refine iy (gU O (uf O (bM O (aQ (iJ tZ O O) (iE (Oh O (fun h1 => ?_)))))))
  (try simp only [Z] at h1)
  refine fV (iy (aQ (fU (zl := [.pointer none, .pointer none, .pointer none, .slice none 0 0, .slice none 0 0, .int .i64 0, .string .empty, .slice none 0 0, .slice none 0 0, .int .i64 0, .bool false, .int .i64 0, .bool false, .pointer none, .pointer none, .slice none 0 0, .slice none 0 0, .int .i64 0, .string .empty, .slice none 0 0, .slice none 0 0, .int .i64 0, .bool false, .int .i64 0, .bool false, .bool false, .bool false, .int .i64 0, .int .i64 0, .int .i64 0, .int .i64 0, .int .i64 0, .bool false, .int .i64 0, .int .i64 0, .int .i64 0, .bool false, .bool false, .bool false, .slice none 0 0, .bool false, .bool false]) (pl := [(0, 1), (1, 12), (13, 12), (25, 1), (26, 1), (27, 1), (28, 1), (29, 1), (30, 1), (31, 1), (32, 1), (33, 1), (34, 1), (35, 1), (36, 1), (37, 1), (38, 1), (39, 1), (40, 1), (41, 1)]) [_, _, _, _, _, _, _, _, _, _, _, _, _, _, _, _, _, _, _, _, _, _, _, _, _, _, _, _, _, _, _, _, _, _, _, _, _, _, _, _, _, _] aT zeroValue174 O (fun w => by kernel_rfl) O (.zero (zs := [.pointer none]) O (.zero (zs := [.pointer none, .pointer none, .slice none 0 0, .slice none 0 0, .int .i64 0, .string .empty, .slice none 0 0, .slice none 0 0, .int .i64 0, .bool false, .int .i64 0, .bool false]) O (.zero (zs := [.pointer none, .pointer none, .slice none 0 0, .slice none 0 0, .int .i64 0, .string .empty, .slice none 0 0, .slice none 0 0, .int .i64 0, .bool false, .int .i64 0, .bool false]) O (.zero (zs := [.bool false]) O (.zero (zs := [.bool false]) O (.zero (zs := [.int .i64 0]) O (.zero (zs := [.int .i64 0]) O (.zero (zs := [.int .i64 0]) O (.zero (zs := [.int .i64 0]) O (.zero (zs := [.int .i64 0]) O (.zero (zs := [.bool false]) O (.zero (zs := [.int .i64 0]) O (.zero (zs := [.int .i64 0]) O (.zero (zs := [.int .i64 0]) O (.zero (zs := [.bool false]) O (.zero (zs := [.bool false]) O (.zero (zs := [.bool false]) O (.zero (zs := [.slice none 0 0]) O (.zero (zs := [.bool false]) O (.zero (zs := [.bool false]) O .nil)))))))))))))))))))) O) (kF (jF (l := [_, _, _, _, _, _, _, _, _, _, _, _, _, _, _, _, _, _, _, _, _, _, _, _, _, _, _, _, _, _, _, _, _, _, _, _, _, _, _, _, _, _]) H O O) ?_)))
  rintro _ w1 ⟨b1, rfl, H1⟩
  refine dZ O (bM O (aQ (fU (zl := [.slice none 0 0, .int .i64 0]) (pl := [(0, 1), (1, 1)]) [_, _] underlying176 zeroValue176 O (fun w => by kernel_rfl) O (.zero (zs := [.slice none 0 0]) O (.zero (zs := [.int .i64 0]) O .nil)) O) (kF (jF (l := [_, _]) H1 O O) ?_)))
  rintro _ w2 ⟨b2, rfl, H2⟩
  refine dK O (bI 1 aT O gV O (bI 1 dO O sizeOf164 O (aJ (nX 2 H2.f2 sizeOf164) ?_)))
  rintro _ w3 H3
  refine sG O (bJ O (dS O func60 (IZ (l := []) O H3.f2.f3.f3 (fun W _ => fJ.nil W _ none 0 (by decide)) (by decide)) ?_))
  rintro _ w4 ⟨rfl, ph, pb, wv, nv, H4⟩
  refine sG O (gU O (fA O (KP results58 O O ?_)))
  have HR := ((H4.f6.f6.f6.f6.f6.f6.f7).Tq (k := .i32)).jO (e := 22) (sz := 1) none
  have HR2 := (V.NV (E := []) (place := 0) (HR.ad4 (ls := [])).swap)
  have HR3 := ((HR2.U5.Xw (sz := 1) none).U6 (k := .i64) none)
  have hT := Vj hl
  refine ⟨_, O, V.YF (s := bF.new hl base most) (h := ph) (pb := pb) (pk := b2) (wv := wv) (nv := nv) (pv := .slice none 0 0) (gv := .slice none 0 0) (ch := false) (u0 := .pointer none) (u1 := .pointer none) (u2 := .slice none 0 0) (u3 := .slice none 0 0) (u4 := .int .i64 0) (u5 := .string .empty) (u6 := .slice none 0 0) (u7 := .slice none 0 0) (u8 := .int .i64 0) (u9 := .bool false) (ua := .int .i64 0) (ub := .bool false) (af0 hl base most) O ?_ ?_⟩
  · show V w0 _ (eP _ (.cells (_ :: _ :: _ :: _ :: _ :: _ :: .string (kJ hl (fun _ => none) (hl.length : Int)) :: _).toArray _ (0, 0)) • _)
    rw [hT]
    exact HR3.f10.f10.f5.f5.f5.f10.f10.f8.f10.f10
  · rfl
theorem acp {es : List fM} {A : List LE} {yf yt : Int} (h : kK s es A yf yt) (hi : s.inn = false) (hl : List tu) (base most : Int) (l : List Int) : kK (s.start hl base most l) es [] yf yt :=
  ⟨Us h.ok hi _ _ _ _, ⟨⟨fun k => ⟨by show ig [] [] ≤ 16384; decide, by show ∀ g ∈ [], _; simp⟩, h.rx.1.2⟩, fun h2 => absurd (show s.inn = true from h2) (by rw [hi]; decide), fun h2 => absurd (show s.inn = true from h2) (by rw [hi]; decide)⟩, h.says, rfl, ⟨List.nodup_nil, by simp⟩, fun h2 => absurd (show s.inn = true from h2) (by rw [hi]; decide)⟩
theorem Pg (H : V w0 w (sH y s • kQ h hl base most • F)) (hr : jh w0 F .i32 v l) : iQ prog 60 #[.pointer (some ⟨y, 0, none⟩), .pointer (some ⟨h, 0, none⟩), v] w fun v' w' =>
  v' = .int .i64 (s.vH l) ∧ V w0 w' (sH y (s.yY hl base most l) • kQ h hl base most • F) := by
 by_cases hin : s.inn = true
 ·have hE : s.vH l = 1 := by unfold bF.vH; rw [if_pos hin]
  unfold bF.yY
  rw [if_neg (by rw [hE]; decide), hE]
  refine zk func60 ntmps60 ?_
  refine ku O (aI (bM O (aQ (iJ tZ O O) (iE (Oh O (fun h1 => ?_))))))
  (try simp only [Z] at h1)
  refine fV (aI (aI ?_))
  obtain ⟨h_y, OM, OO, OQ, OT, ZO, ZP, A_y, ZQ, ZR, Va, Vb, Vd, OU, OV, OW, OX, OY, OZ, O4, O5, O6, O7, O8, O9, tY, GX, y5⟩ := (H).U8
  refine aB (oq O O (bI 32 aT O aS O (fC cZ O (y5).get.2 O (jr O (fun h2 => ?_) (fun h => by exfalso; (try simp only [Z] at h); simp [hin] at h)))))
  (try simp only [Z] at h2)
  refine kC O (aA (dI results60 O ?_))
  have V6 := y5.f12.f12.f12.f12.f12.f12.f12.f12.f12.f12.f12.f12
  have XQ := V.xE (s := s) tY V6
  exact ⟨O, XQ.f2.f2⟩
 ·have hi : s.inn = false := by simpa using hin
  by_cases hlen : 1024 < l.length
  ·have hE : s.vH l = 3 := by unfold bF.vH; rw [if_neg hin, if_pos hlen]
   unfold bF.yY
   rw [if_neg (by rw [hE]; decide), hE]
   refine zk func60 ntmps60 ?_
   refine ku O (aI (bM O (aQ (iJ tZ O O) (iE (Oh O (fun h1 => ?_))))))
   (try simp only [Z] at h1)
   refine fV (aI (aI ?_))
   obtain ⟨h_y, OM, OO, OQ, OT, ZO, ZP, A_y, ZQ, ZR, Va, Vb, Vd, OU, OV, OW, OX, OY, OZ, O4, O5, O6, O7, O8, O9, tY, GX, y5⟩ := (H).U8
   refine aB (oq O O (bI 32 aT O aS O (fC cZ O (y5).get.2 O ?_)))
   have V6 := y5.f12.f12.f12.f12.f12.f12.f12.f12.f12.f12.f12.f12
   have XQ := V.xE (s := s) tY V6
   refine jr O (fun h => by exfalso; (try simp only [Z] at h); simp [hi] at h) (fun h2 => ?_)
   (try simp only [Z] at h2)
   refine fV (bM O (dS O func112 (RV XQ (fun W HW => hr W HW.right.right) hlen) ?_))
   rintro _ _ ⟨rfl, rfl⟩
   refine bJ O (pW O O (pW O O (gU O (uf O (bM O (aQ (gY O O) (iE (wcE O (fun h3 => ?_)))))))))
   (try simp only [Z] at h3)
   refine bM O (fA O (aA (dI results60 O ?_)))
   exact ⟨O, XQ.f2.f2⟩
  ·have hE : s.vH l = 0 := by unfold bF.vH; rw [if_neg hin, if_neg hlen]
   unfold bF.yY
   rw [if_pos hE, hE]
   obtain ⟨h0, pb, pk, wv, nv, pv, gv, A, nw, es, yf, yt, ch, u0, u1, u2, u3, u4, u5, u6, u7, u8, u9, ua, ub, ok, pl, H⟩ := H.U8
   have HI := H.f13
   refine (IZ hi (hr := fun W HW => hr W HW.right.right.right.right.right.right.right.right.right.right.right) (l := l) HI.f2 (by omega)).mono fun v' w' h9 => ?_
   obtain ⟨e9, ph, pb', wv', nv', H9⟩ := h9
   refine ⟨e9, ?_⟩
   have pz := H9.f7.right.f8.right.f8.right.f8.right.f8.right.f8.right.f8.right
   have HR3 := ((pz.U5.Xw (sz := 1) none).U6 (k := .i64) none)
   have HX := HR3.f9.f13.f13.f13.f12.f8.f8.f8.f12.f12.f13.f13.f13
   rw [← Vj hl, show FT s.inn s.hl s.was [u0, u1, u2, u3, u4, u5, u6, u7, u8, u9, ua, ub] = FT s.inn hl s.was [u0, u1, u2, u3, u4, u5, u6, u7, u8, u9, ua, ub] from by rw [hi]; rfl] at HX
   refine V.xE (y := y) (s := s.start hl base most l) (h := ph) (pb := pb') (pk := pk) (wv := wv') (nv := nv') (pv := .slice none 0 0) (gv := .slice none 0 0) (nw := nw) (es := es) (ch := ch) (u0 := u0) (u1 := u1) (u2 := u2) (u3 := u3) (u4 := u4) (u5 := u5) (u6 := u6) (u7 := u7) (u8 := u8) (u9 := u9) (ua := ua) (ub := ub) (acp ok hi hl base most l) ?_
   rw [show (s.start hl base most l).DL = 0 from if_neg (by show ¬ s.inn = true; simp [hi]), show (s.start hl base most l).Z8 = 0 from if_neg (by show ¬ s.inn = true; simp [hi]), show (s.start hl base most l).Z9 = 0 from if_neg (by show ¬ s.inn = true; simp [hi])]
   exact HX
end
def xG (l : List Int) : bF := ((((bF.new [] 1 5).yY [] 1 5 l).bH).vV 2).lD 0
section
variable {w0 w : World} {F : HP} {v : Value} {l : List Int}
theorem uw (H : V w0 w F) (hr : jh w0 F .i32 v l) : iQ prog 21 #[v] w fun v' w' => ∃ e y, v' = .tuple #[.pointer (some ⟨e, 0, none⟩), .pointer (some ⟨y, 0, none⟩), .bool true] ∧ V w0 w' (eH e (xG l) • sH y (xG l) • F) := by
 refine ji func21 ntmps21 ?_
 refine iy (gU O (gU O (dZ O (iy (dS O func55 (QZ H (by omega)) ?_)))))
 rintro _ w1 ⟨p1, rfl, H1⟩
 refine bJ O (pW O O (pW O O (gU O (dZ O (iy (dS O func56 (OH H1 (by omega)) ?_))))))
 rintro _ w2 ⟨p2, rfl, H2⟩
 refine bJ O (pW O O (pW O O (gU O (uf O (bM O (aQ (gY O O) (JG O (fun h1 => ?_))))))))
 (try simp only [Z] at h1)
 refine aY (bJ O (aY (aQ (gY O O) (fG O O (iE (Oh O (fun h2 => ?_)))))))
 (try simp only [Z] at h2)
 refine fV (bM O (dS O func57 (Wx H2.f2) ?_))
 rintro _ w3 ⟨e3, rfl, H3⟩
 refine bJ O (pW O O (pW O O (gU O (dZ O (bM O (dS O func58 (Vk H3.f3) ?_))))))
 rintro _ w4 ⟨y4, rfl, H4⟩
 refine bJ O (pW O O (pW O O (gU O (uf O (bM O (aQ (gY O O) (JG O (fun h3 => ?_))))))))
 (try simp only [Z] at h3)
 refine aY (bJ O (aY (aQ (gY O O) (fG O O (JG O (fun h4 => ?_))))))
 (try simp only [Z] at h4)
 refine aY (bJ O (aY (aQ (iJ dU O O) (fG O O (iE (Oh O (fun h5 => ?_)))))))
 (try simp only [Z] at h5)
 refine fV (aI (bM O (jX O O (dS O func59 (Rw H4.f4.f4 (fun W HW => hr _ (HW.right.right))) ?_))))
 rintro _ w5 ⟨rfl, H5⟩
 refine jX O O (bJ O (dS O func60 (Pg H5.f4.f4 (fun W HW => hr _ (HW.right.right))) ?_))
 rintro _ w6 ⟨rfl, H6⟩
 refine aQ (gY O O) (iE (Oh O (fun h6 => ?_)))
 (try simp only [Z] at h6)
 refine fV (bM O (dS O func29 (Ij H6.f3) ?_))
 rintro _ w7 ⟨rfl, H7⟩
 refine sG O (dS O func61 (Pe H7.f2) ?_)
 rintro _ w8 ⟨rfl, H8⟩
 refine sG O (dS O func62 (EF H8.f2) ?_)
 rintro _ w9 ⟨rfl, H9⟩
 refine sG O (dS O func63 (RZ H9.f2) ?_)
 rintro _ w10 ⟨rfl, pz⟩
 refine sG O (jX O O (dS O func31 (GL pz.f2) ?_))
 rintro _ FM ⟨rfl, rY⟩
 refine bJ O (dS O func64 (Vh rY.f2) ?_)
 rintro _ w12 ⟨rfl, vM⟩
 refine aQ (eF O O) (gU O (gU O (fA O ?_)))
 refine iP (.inl O) results21 O O O ?_
 exact ⟨_, _, by simp, vM.f3.right.f3.right.f2⟩
end
def N9 : List Int := [102, 111, 111, 32, 98, 97, 114]
theorem FD : AP uX := ⟨7, by decide, rfl⟩
theorem adQ : jS uX [119] = 0 := EK FD (by decide) fun h => absurd ((iW rfl).1 h).2 (by decide)
theorem adR : jS uX [98] = 0 := EK FD (by decide) fun h => absurd ((iW rfl).1 h).2 (by decide)
theorem adS : jS uX [102] = 1 := NC FD ((iW rfl).2 ⟨rfl, by decide⟩)
namespace bF
variable (s : bF)
def adT (M : VM) (keys : List Int) : Int := (s.bH.Xj M keys (max s.bH.count 1)).Vt (s.bH.ZE M keys (max s.bH.count 1))
def Ph (M : VM) (keys : List Int) : bF := (s.bH.Xj M keys (max s.bH.count 1)).doS (s.bH.ZE M keys (max s.bH.count 1))
end bF
def VM.went (M : VM) (s : bF) (keys : List Int) : VM := if s.adT M keys = 0 then M.sought s.bH.c.L s.bH.c.pt keys (max s.bH.count 1) else M
theorem acq : zM N9 0 119 0 1 = (4, false, true) := by kernel_rfl
theorem af1 : (xG N9).inn = false := by kernel_rfl
theorem acr : (xG N9).adT VM.new [119] = 6 := by kernel_rfl
theorem af2 : VM.went VM.new (xG N9) [119] = VM.new := by unfold VM.went; rw [if_neg (by rw [acr]; decide)]
theorem adU : ((xG N9).Ph VM.new [119]).inn = false := by kernel_rfl
theorem af3 : ((xG N9).Ph VM.new [119]).adT VM.new [98] = 0 := by kernel_rfl
theorem af4 : (((xG N9).Ph VM.new [119]).Ph VM.new [98]).c.pt = 4 := by kernel_rfl
theorem ZU : ¬ (uY uX ∨ qV uX) := by
  unfold uY qV
  rintro ((h | h | h | h) | (h | h | h | h | h)) <;> exact absurd h (fB (by decide))
theorem adV {M : VM} {keys : List Int} {n x : Int} : M.did uX keys n x = M := EM fun h => ZU h.1
theorem Sl (s : bF) : s.bH.count = s.count := by unfold bF.bH; split <;> rfl
section
variable {w0 w : World} {F : HP} {m e : Nat} {s : bF} {keys : List Int} {kv : Value} {M : VM}
theorem FH (H : V w0 w (jY m M • eH e s • F)) (hT : vZ w0) (hi : s.inn = false) (hk : jh w0 F .i32 kv keys) (hkl : keys.length * 4 ≤ 140737488355328) (hw : jS uX keys = 0) :
    iQ prog 24 #[.pointer (some ⟨m, 0, none⟩), .pointer (some ⟨e, 0, none⟩), .string uX, kv] w fun v w' => v = .int .i64 (s.adT M keys) ∧ V w0 w' (jY m (M.went s keys) • eH e (s.Ph M keys) • F) := by
  have hco := Qg s (abO H.f2)
  refine (RH H hi hk hkl hw (ZF hT ?_)).mono ?_
  · rw [Sl]; omega
  · rintro v w' ⟨x, t, M', ⟨rfl, rfl, rfl⟩, rfl, H⟩
    exact ⟨rfl, by unfold VM.went; unfold VM.doM at H; rw [adV] at H; exact H⟩
theorem EW {s : ByteArray} {l : List Int} (H : V w0 w F) (hl : Conv.runesFrom s s.size 0 #[] = (l.map (Value.int .i32)).toArray) (hb : l.length ≤ 70368744177664) :
    iQ prog 34 #[.string s] w fun v w' => V w0 w' (jw 21 .i32 v l • F) := by
  refine ji func34 ntmps34 ?_
  refine ku O (bM O (kF (SL H dw ah bC O hl hb) ?_))
  rintro u w1 H1
  refine fA O (dI results34 O ?_)
  exact H1
theorem CY (H : V w0 w F) (hT : vZ w0) : iQ prog 13 #[] w fun v w' => v = .bool true ∧ V w0 w' F := by
  refine YP func13 ntmps13 ?_
  refine ku O (iy (dS O func34 (EW H (l := N9) (by kernel_rfl) (by decide)) ?_))
  rintro u1 w1 H1
  refine dS O func21 (uw H1 (fun W HW => (HW).aP)) ?_
  rintro _ w2 ⟨e2, y2, rfl, H2⟩
  have P9 := H2.f3.right
  refine bJ O (pW O O (pW O O (pW O O (gU O (gU O (dZ O (iy (dS O func22 (rM P9) ?_))))))))
  rintro _ w4 ⟨m4, rfl, H4⟩
  refine uf O (bM O (aQ (kG O) (JG O (fun h1 => ?_))))
  (try simp only [Z] at h1)
  refine aY (bJ O (aY (aQ (iJ dU O O) (fG O O (JG O (fun h2 => ?_))))))
  (try simp only [Z] at h2)
  refine aY (bJ O (aY (aQ (iJ fO O O) (fG O O (iE (Oh O (fun h3 => ?_)))))))
  (try simp only [Z] at h3)
  refine fV (iy (dS O func34 (EW H4 (l := N9) (by kernel_rfl) (by decide)) ?_))
  rintro u5 w5 H5
  refine dS O func11 (EO H5 (fun W HW => (HW).aP) hT (by decide) (by decide)) ?_
  rintro _ w6 ⟨rfl, H6⟩
  refine bJ O (pW O O (pW O O (pW O O (gU O (gU O (dZ O (bM O (aQ (eF O O) (jm O (fun h4 => ?_) (fun h => by exfalso; (try simp only [Z] at h); exact h (by rw [acq])))))))))))
  (try simp only [Z] at h4)
  refine aY (bJ O (je O O (jm O (fun h5 => ?_) (fun h => by exfalso; (try simp only [Z] at h); rw [acq] at h; exact absurd h (by decide)))))
  (try simp only [Z] at h5)
  refine aY (bJ O (aY (bJ O (aY (kF (mM (k := .i32) (l := [119]) H6 ah bK lq O O O (by decide)) ?_)))))
  rintro l7 w7 H7
  refine aY (dS O func24 (FH (s := xG N9) (M := VM.new) (keys := [119]) H7.f4.f4 hT af1 (fun W HW => (HW).aP) (by decide) adQ) ?_)
  rintro _ w8 ⟨rfl, H8⟩
  have HX := H8
  rw [af2] at HX
  refine aY (aQ (eF O O) (je O O (jm O (fun h6 => ?_) (fun h => by exfalso; (try simp only [Z] at h); exact h acr))))
  (try simp only [Z] at h6)
  refine aY (bJ O (aY (bJ O (aY (kF (mM (k := .i32) (l := [98]) HX ah bK lq O O O (by decide)) ?_)))))
  rintro l9 w9 H9
  refine aY (dS O func24 (FH (s := (xG N9).Ph VM.new [119]) (M := VM.new) (keys := [98]) H9.f3.f3 hT adU (fun W HW => (HW).aP) (by decide) adR) ?_)
  rintro _ w10 ⟨rfl, pz⟩
  refine aY (aQ (eF O O) (je O O (jm O (fun h7 => ?_) (fun h => by exfalso; (try simp only [Z] at h); exact h af3))))
  (try simp only [Z] at h7)
  refine aY (bJ O (aY (dS O func28 (nI pz.f2) ?_)))
  rintro _ FM ⟨u11, rfl, rY⟩
  refine aY (aQ (oK 1 iD O O (dA aC O) O O) (aY (aQ (eF O O) (je O O (jm O (fun h8 => ?_) (fun h => by exfalso; (try simp only [Z] at h); exact h af4))))))
  (try simp only [Z] at h8)
  refine aY (kF (mM (k := .i32) (l := [102]) rY ah bK lq O O O (by decide)) ?_)
  rintro l12 w12 vM
  refine aY (dS O func16 (AQ vM (fun W HW => (HW).aP)) ?_)
  rintro _ PD ⟨rfl, xI⟩
  refine aY ?_
  refine aQ (EX (eF O O) (by exact beq_iff_eq.2 adS)) ?_
  refine je O O (fA O (dI results13 O ?_))
  exact ⟨O, xI.right.right.right.right.right.right.right.right⟩
end
section
variable {s t u : bF} {x n i j : Int} {name : ByteArray} {keys : List Int} {M : VM} {L : List Int} {p : Int}
structure Ar (s t : bF) : Prop where
  inn : t.inn = s.inn
  arg : t.argues = s.argues
theorem Ar.refl (s : bF) : Ar s s := ⟨rfl, rfl⟩
theorem Ar.trans (h : Ar s t) (g : Ar t u) : Ar s u := ⟨g.inn.trans h.inn, g.arg.trans h.arg⟩
theorem adW (s : bF) (x : jl) : Ar s (s.qR x) := ⟨(Yw s x).inn, by unfold bF.qR; split; rfl; split <;> rfl⟩
theorem Sm (s : bF) (i j : Int) (l : List Int) : Ar s (s.mG i j l) := ⟨(IQ s i j l).inn, by unfold bF.mG; split; exact (adW _ _).arg; rfl⟩
theorem adX (s : bF) (i j : Int) (b : Bool) : Ar s (s.tH i j b) := ⟨(adC s i j b).inn, by unfold bF.tH; split <;> rfl⟩
theorem YG (s : bF) (i j : Int) (b : Bool) : Ar s (s.xu i j b) := by
  unfold bF.xu; split
  · exact (adX s i j b).trans (Sm _ _ _ _)
  · exact Ar.refl s
theorem Lp (s : bF) (x : Int) : Ar s (s.uF x) := by unfold bF.uF; split <;> exact ⟨rfl, rfl⟩
theorem adY (s : bF) : Ar s s.IE := by unfold bF.IE; split; exact Lp _ _; exact Ar.refl s
theorem acs (s : bF) (i j : Int) : Ar s (s.RJ i j) := by
  unfold bF.RJ; split
  · exact Ar.refl s
  · split
    · exact (YG _ _ _ _).trans (Lp _ _)
    · exact YG _ _ _ _
theorem aeG (s : bF) (j : Int) (l : List Int) (x : Int) : Ar s (s.tnR j l x).2 := by
  by_cases h : s.rF s.c.pt j l = 0
  · rw [abY h]; exact (Sm _ _ _ _).trans (Lp _ _)
  · rw [abZ h]; exact Sm _ _ _ _
theorem adZ (s : bF) (name : ByteArray) (keys : List Int) (n : Int) : Ar s (s.AX name keys n).2 := by
  by_cases h : name.toList = pI.toList
  · by_cases h2 : (s.c.L.length : Int) - s.c.pt < n
    · rw [Yt h h2]; exact Ar.refl s
    · rw [RN h h2]; exact aeG _ _ _ _
  · by_cases h2 : s.c.pt = s.c.L.length
    · rw [Yu h h2]; exact Ar.refl s
    · rw [RP h h2]; exact aeG _ _ _ _
structure Mk (M M' : VM) : Prop where
  name : M'.name = M.name
  keys : M'.keys = M.keys
  n : M'.n = M.n
  typed : M'.typed = M.typed
theorem Mk.refl (M : VM) : Mk M M := ⟨rfl, rfl, rfl, rfl⟩
theorem ZV : Mk M (M.sought L p keys n) := by
  unfold VM.sought
  repeat' split
  all_goals exact ⟨rfl, rfl, rfl, rfl⟩
theorem Vl : Mk M (M.AZ L p keys n) := by
  unfold VM.AZ
  split
  · exact Mk.refl M
  · split
    · exact Mk.refl M
    · split
      · exact Mk.refl M
      · exact ZV
theorem acu (s : bF) (M : VM) (name : ByteArray) (keys : List Int) (n : Int) : Ar s (s.Xt M name keys n).2.1 ∧ Mk M (s.Xt M name keys n).2.2 := by
  unfold bF.Xt
  split
  · refine ⟨?_, Mk.refl M⟩
    show Ar s (s.Qk keys n)
    unfold bF.Qk; split
    · exact acs _ _ _
    · exact Ar.refl s
  · split
    · unfold bF.afO; split
      · unfold bF.Xq; split
        · exact ⟨acs _ _ _, Vl⟩
        · exact ⟨Ar.refl s, Vl⟩
      · exact ⟨Ar.refl s, Mk.refl M⟩
    · exact ⟨adZ _ _ _ _, Mk.refl M⟩
theorem Sr (h : t.inn = true) (h2 : t.argues = false) (err : Int) : (t.lD err).inn = false ∧ (t.lD err).given = false := by
  by_cases he : err = 0
  · subst he
    refine ⟨EH t h, ?_⟩
    by_cases hp : t.put = [] <;> by_cases hc : t.cls = 2 <;> simp [bF.lD, bF.kU, bF.jT, bF.dQ, bF.tC, bF.lY, bF.iO, bF.here, iL, hp, hc, h, h2]
  · unfold bF.lD; rw [if_pos h, if_neg he]; exact ⟨rfl, rfl⟩
theorem acv (h : t.inn = true) (h2 : t.argues = false) (x : Int) : (t.doS x).inn = false ∧ (t.doS x).given = false ∧ (t.Vt x = 0 → x = 0) := by
  unfold bF.Vt bF.doS
  split
  · rename_i hx
    obtain ⟨a, b⟩ := adY t
    obtain ⟨c, d⟩ := Sr (a.trans h) (b.trans h2) t.Ko
    exact ⟨c, d, fun _ => hx⟩
  · obtain ⟨c, d⟩ := Sr h h2 x
    refine ⟨c, d, fun h9 => ?_⟩
    unfold bF.Cj at h9
    rw [if_pos h] at h9
    exact h9
theorem Oa (h : s.inn = false) : s.bH.argues = false := by rw [uo h]
theorem Qs (h : s.inn = false) (hg : s.given = false) : s.bH.count = 1 := by rw [uo h]; unfold bF.count; rw [if_neg (by rw [show ({ s with inn := true, was := s.c, cls := 0, killed := false, lT := false, argues := false, whole := true, put := [] } : bF).given = s.given from rfl, hg]; decide)]
theorem ZW (h : s.inn = false) : s.bH.given = s.given := by rw [uo h]
theorem YH (l : List Int) : (xG l).inn = false ∧ (xG l).given = false := by
  have h0 : ((bF.new [] 1 5).yY [] 1 5 l).inn = false := by unfold bF.yY; split <;> rfl
  have h1 := AB ((bF.new [] 1 5).yY [] 1 5 l)
  have h2 := Oa h0
  have h3 : ((((bF.new [] 1 5).yY [] 1 5 l).bH).vV 2).inn = true ∧ ((((bF.new [] 1 5).yY [] 1 5 l).bH).vV 2).argues = false := by
    unfold bF.vV; split
    · exact ⟨h1, h2⟩
    · exact ⟨h1, h2⟩
  exact Sr h3.1 h3.2 0
theorem acw (hi : s.inn = false) : (s.Ph M keys).inn = false ∧ (s.Ph M keys).given = false := by
  have h1 := AB s
  have h2 := Oa hi
  have h3 : Ar s.bH (s.bH.Xj M keys (max s.bH.count 1)) := by
    unfold bF.Xj; split
    · exact Lp _ _
    · exact Ar.refl _
  obtain ⟨a, b, _⟩ := acv (h3.inn.trans h1) (h3.arg.trans h2) (s.bH.ZE M keys (max s.bH.count 1))
  exact ⟨a, b⟩
theorem Qu (s : bF) : VM.new.went s [48] = VM.new := by
  unfold VM.went
  split
  · obtain ⟨e1, e2⟩ := aex (M := VM.new) (l := s.bH.c.L) (p := s.bH.c.pt) (n := max s.bH.count 1) (keys := [48]) (by decide) (by decide) (by decide)
    refine e2.trans ?_
    rw [if_neg (fun h => absurd h.2 (by decide))]
  · rfl
def bF.Ob (s : bF) (M : VM) (name : ByteArray) (keys : List Int) : Int × bF × VM := s.bH.Xt M name keys 1
def bF.rpE (s : bF) (M : VM) (name : ByteArray) (keys : List Int) : Int := (s.Ob M name keys).2.1.Vt (s.Ob M name keys).1
def bF.rpS (s : bF) (M : VM) (name : ByteArray) (keys : List Int) : bF := (s.Ob M name keys).2.1.doS (s.Ob M name keys).1
theorem Lr (hi : s.inn = false) : (s.rpS M name keys).inn = false ∧ (s.rpS M name keys).given = false ∧ (s.rpE M name keys = 0 → (s.Ob M name keys).1 = 0) ∧ Mk M (s.Ob M name keys).2.2 := by
  obtain ⟨h1, h2⟩ := acu s.bH M name keys 1
  obtain ⟨a, b, c⟩ := acv (h1.inn.trans (AB s)) (h1.arg.trans (Oa hi)) (s.Ob M name keys).1
  exact ⟨a, b, c, h2⟩
def VM.rp1 (M : VM) (s : bF) (name : ByteArray) (keys : List Int) : VM := if s.rpE M name keys = 0 then { (s.Ob M name keys).2.2 with name := name, keys := keys, n := 1, typed := [] } else M
def VM.rp2 (M : VM) (s : bF) (name : ByteArray) (keys : List Int) : VM := if s.rpE M name keys = 0 then (s.Ob M name keys).2.2 else M
structure Last (M : VM) (name : ByteArray) (keys : List Int) : Prop where
  name : M.name = name
  keys : M.keys = keys
  n : M.n = 1
  typed : M.typed = []
theorem VM.eta (M : VM) (h1 : M.name = name) (h2 : M.keys = keys) (h3 : M.n = 1) (h4 : M.typed = []) : { M with name := name, keys := keys, n := 1, typed := [] } = M := by subst h1 h2; cases M; dsimp only at h3 h4; subst h3 h4; rfl
theorem ad0 (hi : s.inn = false) (h : Last M name keys) : M.rp1 s name keys = M.rp2 s name keys ∧ Last (M.rp2 s name keys) name keys := by
  obtain ⟨_, _, _, k⟩ := Lr (s := s) (M := M) (name := name) (keys := keys) hi
  unfold VM.rp1 VM.rp2
  split
  · exact ⟨VM.eta _ (k.name.trans h.name) (k.keys.trans h.keys) (k.n.trans h.n) (k.typed.trans h.typed), ⟨k.name.trans h.name, k.keys.trans h.keys, k.n.trans h.n, k.typed.trans h.typed⟩⟩
  · exact ⟨rfl, h⟩
end
section
variable {w0 w : World} {F : HP} {m e : Nat} {s : bF} {name : ByteArray} {kv : Value} {keys ks : List Int} {M : VM}
theorem Sv (H : V w0 w (jY m M • eH e s • F)) (hi : s.inn = false) (hk : jh w0 F .i32 kv keys) (hT : vZ w0) (hg : s.given = false) (hkl : keys.length * 4 ≤ 140737488355328) (h4 : Gn name) (hw : jS name keys = 0) :
    iQ prog 24 #[.pointer (some ⟨m, 0, none⟩), .pointer (some ⟨e, 0, none⟩), .string name, kv] w fun v w' => v = .int .i64 (s.rpE M name keys) ∧ V w0 w' (jY m (M.rp1 s name keys) • eH e (s.rpS M name keys) • F) := by
  have hc1 : max s.bH.count 1 = 1 := by rw [Qs hi hg]; rfl
  refine (RH H hi hk hkl hw (U3 hT h4 hw (by rw [hc1]; decide))).mono ?_
  rintro v w' ⟨x, t, M', hq, rfl, H'⟩
  rw [hc1] at hq H'
  obtain rfl : x = (s.Ob M name keys).1 := congrArg Prod.fst hq
  obtain rfl : t = (s.Ob M name keys).2.1 := congrArg (fun q => q.2.1) hq
  obtain rfl : M' = (s.Ob M name keys).2.2 := congrArg (fun q => q.2.2) hq
  refine ⟨rfl, ?_⟩
  obtain ⟨_, _, k3, _⟩ := Lr (s := s) (M := M) (name := name) (keys := keys) hi
  have e : M.doM (s.Ob M name keys).2.2 name keys 1 (s.Ob M name keys).1 ((s.Ob M name keys).2.1.Vt (s.Ob M name keys).1) = M.rp1 s name keys := by
    unfold VM.doM VM.rp1
    show (if s.rpE M name keys = 0 then _ else _) = _
    by_cases hz : s.rpE M name keys = 0
    · rw [if_pos hz, if_pos hz, Lh (aca h4) (k3 hz)]
    · rw [if_neg hz, if_neg hz]
  rw [e] at H'
  exact H'
theorem acx (H : V w0 w (jY m M • eH e s • F)) (hi : s.inn = false) (hk : jh w0 F .i32 kv ks) (hT : vZ w0) (hg : s.given = false) (hkl : ks.length * 4 ≤ 140737488355328) (h4 : Gn name) (hw : jS name keys = 0) (hwr : jS Cb ks = 0) (hl : Last M name keys) :
    iQ prog 24 #[.pointer (some ⟨m, 0, none⟩), .pointer (some ⟨e, 0, none⟩), .string Cb, kv] w fun v w' => v = .int .i64 (s.rpE M name keys) ∧ V w0 w' (jY m (M.rp2 s name keys) • eH e (s.rpS M name keys) • F) := by
  have hc1 : max s.bH.count 1 = 1 := by rw [Qs hi hg]; rfl
  have hgb : s.bH.given = false := by rw [ZW hi, hg]
  obtain ⟨l1, l2, l3, l4⟩ := hl
  subst l1 l2
  refine (RH H hi hk hkl hwr (ZK hT h4 hw (by rw [hc1]; decide) (by rw [l3]; decide))).mono ?_
  rintro v w' ⟨x, t, M', hq, rfl, H'⟩
  rw [hc1] at hq H'
  rw [hgb, if_neg (by decide), l3] at hq
  obtain rfl : x = (s.Ob M M.name M.keys).1 := congrArg Prod.fst hq
  obtain rfl : t = (s.Ob M M.name M.keys).2.1 := congrArg (fun q => q.2.1) hq
  obtain rfl : M' = (s.Ob M M.name M.keys).2.2 := congrArg (fun q => q.2.2) hq
  refine ⟨rfl, ?_⟩
  have hnr : ¬ (uY Cb ∨ qV Cb) := by
    unfold uY qV
    rintro ((h | h | h | h) | (h | h | h | h | h)) <;> exact absurd h (fB (by decide))
  have e : M.doM (s.Ob M M.name M.keys).2.2 Cb ks 1 (s.Ob M M.name M.keys).1 ((s.Ob M M.name M.keys).2.1.Vt (s.Ob M M.name M.keys).1) = M.rp2 s M.name M.keys := by
    unfold VM.doM VM.rp2
    show (if s.rpE M M.name M.keys = 0 then _ else _) = _
    by_cases hz : s.rpE M M.name M.keys = 0
    · rw [if_pos hz, if_pos hz, EM (fun h => hnr h.1)]
    · rw [if_neg hz, if_neg hz]
  rw [e] at H'
  exact H'
end
theorem I4 : jS uX [48] = 0 := EK FD (by decide) fun h => absurd ((iW rfl).1 h).2 (by decide)
theorem XB : AP Cb := ⟨11, by decide, rfl⟩
theorem ZX : jS Cb [46] = 0 := EK XB (by decide) (xB (fB (by decide)) (by rintro (h | h) <;> exact absurd h (fB (by decide))) (by rintro (h | h | h) <;> exact absurd h (fB (by decide))))
section
variable {w0 w : World} {F : HP} {lv kv tv : Value} {line keys : List Int} {name : ByteArray} {a b again : Int}
theorem Oc {w : World} (hT : vZ w) (g : fJ w .i32 lv line) (o1 : kv.oneCell' = true) (o2 : tv.oneCell' = true) (hx : ¬ (0 ≤ again ∧ again ≤ 50)) :
    iQ prog 7 #[lv, .agg #[.string name, kv, tv, .int .i64 a, .int .i64 b], .int .i64 again] w fun v w' => v = .bool true ∧ Below w.heap.size w w' := by
  obtain ⟨F, H⟩ : ∃ F, V w w F := ⟨_, V.start w⟩
  have hv : jh w F .i32 lv line := jh.Aj g F
  refine zk func7 ntmps7 ?_
  refine iy (kF (jF (l := [_, _, _, _, _]) H O O) ?_)
  rintro _ w1 ⟨b1, rfl, H1⟩
  refine dZ O (bM O (dS O func21 (uw H1 (fun W HW => hv _ (HW.right))) ?_))
  rintro _ w2 ⟨e2, y2, rfl, H2⟩
  refine bJ O (pW O O (pW O O (pW O O (gU O (gU O (dZ O (bM O (dS O func21 (uw H2 (fun W HW => hv _ (HW.right.right.right))) ?_))))))))
  rintro _ w3 ⟨e3, y3, rfl, H3⟩
  refine bJ O (pW O O (pW O O (pW O O (gU O (gU O (dZ O (iy (dS O func22 (rM H3) ?_))))))))
  rintro _ w4 ⟨m4, rfl, H4⟩
  refine dS O func22 (rM H4) ?_
  rintro _ w5 ⟨m5, rfl, H5⟩
  refine gU O (uf O (bM O (aQ (kG O) (JG O (fun h1 => ?_)))))
  (try simp only [Z] at h1)
  refine aY (bJ O (aY (aQ (kG O) (fG O O (JG O (fun h2 => ?_))))))
  (try simp only [Z] at h2)
  refine aY (bJ O (aY (aQ (iJ fO O O) (fG O O (JG O (fun h3 => ?_))))))
  (try simp only [Z] at h3)
  refine aY (bJ O (aY (aQ (iJ fO O O) (fG O O (JG O (fun h4 => ?_))))))
  (try simp only [Z] at h4)
  refine aY (bJ O (aY (aQ (gW O O) (fG O O (jm O (fun h5 => ?_) (fun h5 => ?_))))))
  · (try simp only [Z] at h5)
    refine bn (bn (je O O (bJ O (bn (bn (je O O (iE (C9 (bM O (bJ O (aY (bJ O (je O O (bJ O (aY (bJ O (aY (aQ (Af fO O O) (je O O (xsE O (fun h6 => ?_)))))))))))))))))))))
    (try simp only [Z] at h6)
    refine aY (bJ O (aY (aQ (Af fO O O) (je O O (xsE O (fun h7 => ?_))))))
    (try simp only [Z] at h7)
    refine aY (dS O func13 (CY H5 hT) ?_)
    rintro _ w6 ⟨rfl, H6⟩
    refine je O O (fA O (aA (dI results7 O ?_)))
    exact ⟨O, H6.base⟩
  · (try simp only [Z] at h5)
    refine aY (bJ O (aY (aQ (eX O O) (fG O O (jm O (fun h8 => ?_) (fun h => by exfalso; (try simp only [Z] at h); omega))))))
    (try simp only [Z] at h8)
    refine bn (bn (je O O (iE (C9 (bM O (bJ O (aY (bJ O (je O O (bJ O (aY (bJ O (aY (aQ (Af fO O O) (je O O (xsE O (fun h9 => ?_)))))))))))))))))
    (try simp only [Z] at h9)
    refine aY (bJ O (aY (aQ (Af fO O O) (je O O (xsE O (fun h10 => ?_))))))
    (try simp only [Z] at h10)
    refine aY (dS O func13 (CY H5 hT) ?_)
    rintro _ w7 ⟨rfl, H7⟩
    refine je O O (fA O (aA (dI results7 O ?_)))
    exact ⟨O, H7.base⟩
theorem JB {w : World} (hT : vZ w) (g : fJ w .i32 lv line) (o1 : kv.oneCell' = true) (o2 : tv.oneCell' = true) (hx : 0 ≤ again ∧ again ≤ 50) (q4 : ¬ Gn name) :
    iQ prog 7 #[lv, .agg #[.string name, kv, tv, .int .i64 a, .int .i64 b], .int .i64 again] w fun v w' => v = .bool true ∧ Below w.heap.size w w' := by
  obtain ⟨F, H⟩ : ∃ F, V w w F := ⟨_, V.start w⟩
  have hv : jh w F .i32 lv line := jh.Aj g F
  refine zk func7 ntmps7 ?_
  refine iy (kF (jF (l := [_, _, _, _, _]) H O O) ?_)
  rintro _ w1 ⟨b1, rfl, H1⟩
  refine dZ O (bM O (dS O func21 (uw H1 (fun W HW => hv _ (HW.right))) ?_))
  rintro _ w2 ⟨e2, y2, rfl, H2⟩
  refine bJ O (pW O O (pW O O (pW O O (gU O (gU O (dZ O (bM O (dS O func21 (uw H2 (fun W HW => hv _ (HW.right.right.right))) ?_))))))))
  rintro _ w3 ⟨e3, y3, rfl, H3⟩
  refine bJ O (pW O O (pW O O (pW O O (gU O (gU O (dZ O (iy (dS O func22 (rM H3) ?_))))))))
  rintro _ w4 ⟨m4, rfl, H4⟩
  refine dS O func22 (rM H4) ?_
  rintro _ w5 ⟨m5, rfl, H5⟩
  refine gU O (uf O (bM O (aQ (kG O) (JG O (fun h1 => ?_)))))
  (try simp only [Z] at h1)
  refine aY (bJ O (aY (aQ (kG O) (fG O O (JG O (fun h2 => ?_))))))
  (try simp only [Z] at h2)
  refine aY (bJ O (aY (aQ (iJ fO O O) (fG O O (JG O (fun h3 => ?_))))))
  (try simp only [Z] at h3)
  refine aY (bJ O (aY (aQ (iJ fO O O) (fG O O (JG O (fun h4 => ?_))))))
  (try simp only [Z] at h4)
  refine aY (bJ O (aY (aQ (gW O O) (fG O O (jm O (fun h => by exfalso; (try simp only [Z] at h); omega) (fun h5 => ?_))))))
  (try simp only [Z] at h5)
  refine aY (bJ O (aY (aQ (eX O O) (fG O O (jm O (fun h => by exfalso; (try simp only [Z] at h); omega) (fun h6 => ?_))))))
  (try simp only [Z] at h6)
  refine aY (dS O func13 (CY H5 hT) ?_)
  rintro _ w6 ⟨rfl, H6⟩
  refine aY (aQ (kG O) (fG O O (iE (Oh O (fun h7 => ?_)))))
  (try simp only [Z] at h7)
  refine fV (aI (iy (bI 0 fP O eG O (fC dw O (H6.f7).get.2 O (aQ (kM O O) (jm O (fun h8 => ?_) (fun h => by exfalso; (try simp only [Z] at h); exact q4 (.inl h))))))))
  (try simp only [Z] at h8)
  refine aY (bI 0 fP O eG O (aY (fC dw O (H6.f7).get.2 O (aY (aQ (kM O O) (je O O (jm O (fun h9 => ?_) (fun h => by exfalso; (try simp only [Z] at h); exact q4 (.inr (.inl h))))))))))
  (try simp only [Z] at h9)
  refine aY (bI 0 fP O eG O (aY (fC dw O (H6.f7).get.2 O (aY (aQ (kM O O) (je O O (jm O (fun h10 => ?_) (fun h => by exfalso; (try simp only [Z] at h); exact q4 (.inr (.inr (.inl h)))))))))))
  (try simp only [Z] at h10)
  refine aY (bI 0 fP O eG O (aY (fC dw O (H6.f7).get.2 O (aY (aQ (kM O O) (je O O (jr O (fun h11 => ?_) (fun h => by exfalso; (try simp only [Z] at h); exact q4 (.inr (.inr (.inr h)))))))))))
  (try simp only [Z] at h11)
  refine kC O (aA (dI results7 O ?_))
  exact ⟨O, H6.base⟩
theorem YI {m e : Nat} {s : bF} {M : VM} {z : Int} (H : V w0 w (jY m M • eH e s • F)) (hi : s.inn = false) (hk : jh w0 F .i32 kv keys) (hw : ¬ jS name keys = 0) (hz : z = (if jS name keys = -1 then 4 else 1)) :
    iQ prog 24 #[.pointer (some ⟨m, 0, none⟩), .pointer (some ⟨e, 0, none⟩), .string name, kv] w fun v w' => v = .int .i64 z ∧ V w0 w' (jY m M • eH e s • F) := by
  rw [hz]; exact adl H hi hk hw
theorem Pj {w : World} (hT : vZ w) (g : fJ w .i32 lv line) (g2 : fJ w .i32 kv keys) (hb : keys.length ≤ 35184372087808) (o2 : tv.oneCell' = true) (hx : 0 ≤ again ∧ again ≤ 50) (q4 : Gn name) (hw : jS name keys = 0) :
    iQ prog 7 #[lv, .agg #[.string name, kv, tv, .int .i64 a, .int .i64 b], .int .i64 again] w fun v w' => v = .bool true ∧ Below w.heap.size w w' := by
  obtain ⟨F, H⟩ : ∃ F, V w w F := ⟨_, V.start w⟩
  have hv : jh w F .i32 lv line := jh.Aj g F
  have hk : jh w F .i32 kv keys := jh.Aj g2 F
  have o1 : kv.oneCell' = true := g2.one
  obtain ⟨s0, hs0⟩ : ∃ s0, s0 = xG line := ⟨_, rfl⟩
  have hs := YH line
  rw [← hs0] at hs
  have hz := Qu s0
  obtain ⟨s1, hs1⟩ : ∃ s1, s1 = s0.Ph VM.new [48] := ⟨_, rfl⟩
  have hg1 := acw (M := VM.new) (keys := [48]) hs.1
  rw [← hs1] at hg1
  have hkl : keys.length * 4 ≤ 140737488355328 := by omega
  have hrp := Lr (s := s1) (M := VM.new) (name := name) (keys := keys) hg1.1
  refine zk func7 ntmps7 ?_
  refine iy (kF (jF (l := [_, _, _, _, _]) H O O) ?_)
  rintro _ w1 ⟨b1, rfl, H1⟩
  refine dZ O (bM O (dS O func21 (uw H1 (fun W HW => hv _ (HW.right))) ?_))
  rintro _ w2 ⟨e2, y2, rfl, H2⟩
  have HX := H2
  rw [← hs0] at HX
  have P9 := HX.f2.right
  refine bJ O (pW O O (pW O O (pW O O (gU O (gU O (dZ O (bM O (dS O func21 (uw P9 (fun W HW => hv _ (HW.right.right))) ?_))))))))
  rintro _ w4 ⟨e4, y4, rfl, H4⟩
  have HX := H4
  rw [← hs0] at HX
  have Hd5 := HX.f2.right
  refine bJ O (pW O O (pW O O (pW O O (gU O (gU O (dZ O (iy (dS O func22 (rM Hd5) ?_))))))))
  rintro _ w6 ⟨m6, rfl, H6⟩
  refine dS O func22 (rM H6) ?_
  rintro _ w7 ⟨m7, rfl, H7⟩
  refine gU O (uf O (bM O (aQ (kG O) (JG O (fun h1 => ?_)))))
  (try simp only [Z] at h1)
  refine aY (bJ O (aY (aQ (kG O) (fG O O (JG O (fun h2 => ?_))))))
  (try simp only [Z] at h2)
  refine aY (bJ O (aY (aQ (iJ fO O O) (fG O O (JG O (fun h3 => ?_))))))
  (try simp only [Z] at h3)
  refine aY (bJ O (aY (aQ (iJ fO O O) (fG O O (JG O (fun h4 => ?_))))))
  (try simp only [Z] at h4)
  refine aY (bJ O (aY (aQ (gW O O) (fG O O (jm O (fun h => by exfalso; (try simp only [Z] at h); omega) (fun h5 => ?_))))))
  (try simp only [Z] at h5)
  refine aY (bJ O (aY (aQ (eX O O) (fG O O (jm O (fun h => by exfalso; (try simp only [Z] at h); omega) (fun h6 => ?_))))))
  (try simp only [Z] at h6)
  refine aY (dS O func13 (CY H7 hT) ?_)
  rintro _ w8 ⟨rfl, H8⟩
  refine aY (aQ (kG O) (fG O O (iE (Oh O (fun h7 => ?_)))))
  (try simp only [Z] at h7)
  refine fV ?_
  refine kL [(2, _), (4, _), (7, _), (10, _), (13, _), (14, _)] (fun (_ : Unit) => []) (fun (_ : Unit) W => V w W (jY m6 VM.new • jY m7 VM.new • eH e2 s0 • eH e4 s0 • eP b1 (.cells #[.string name, kv, tv, .int .i64 a, .int .i64 b] 44 (0, 0)) • F)) KO ?_ ?_
  · rintro _ w9 HJ8
    dsimp only [List.cons_append, List.nil_append]
    refine bM O (bJ O (kF (mM (k := .i32) (l := [48]) HJ8 ah bK lq O O O (by decide)) ?_))
    rintro l10 w10 pz
    refine dS O func24 (FH (s := s0) (M := VM.new) (keys := [48]) pz.f4.f3 hT hs.1 (fun W HW => (HW).aP) (by decide) I4) ?_
    rintro _ FM ⟨rfl, rY⟩
    have HX := rY
    rw [hz, ← hs1] at HX
    refine sG O (bJ O (kF (mM (k := .i32) (l := [48]) HX ah bK lq O O O (by decide)) ?_))
    rintro l12 w12 vM
    refine dS O func24 (FH (s := s0) (M := VM.new) (keys := [48]) vM.f6.f6 hT hs.1 (fun W HW => (HW).aP) (by decide) I4) ?_
    rintro _ PD ⟨rfl, xI⟩
    have HX := xI
    rw [hz, ← hs1] at HX
    refine sG O (bJ O (bI 0 fP O eG O (fC dw O (HX.f7).get.2 O (bI 1 fP O bV O (fC ah O (HX.f7).get.2 O (dS O func24 (Sv (s := s1) (M := VM.new) (keys := keys) HX.f5.f5 hg1.1 (fun W HW => hk _ (HW.right.right.right.right.right)) hT hg1.2 hkl q4 hw) ?_))))))
    rintro _ Pz ⟨rfl, yF⟩
    refine uf O (bM O (bJ O (bI 0 fP O eG O (fC dw O (yF.f7).get.2 O (bI 1 fP O bV O (fC ah O (yF.f7).get.2 O (dS O func24 (Sv (s := s1) (M := VM.new) (keys := keys) yF.f4.f4 hg1.1 (fun W HW => hk _ (HW.right.right.right.right.right)) hT hg1.2 hkl q4 hw) ?_)))))))
    rintro _ QI ⟨rfl, yA⟩
    refine dZ O (bM O (bJ O (aQ (gY O O) (jm O (fun h8 => ?_) (fun h8 => ?_)))))
    · (try simp only [Z] at h8)
      refine bn (bn (je O O (iE (C9 (bM O (bJ O (aQ (eF O O) (fA O (aA (dI results7 O ?_))))))))))
      exact ⟨by simp, yA.base⟩
    · (try simp only [Z] at h8)
      refine aY (bJ O (aY (aQ (gY O O) (fG O O (jr O (fun h9 => ?_) (fun h9 => ?_))))))
      · (try simp only [Z] at h9)
        refine bM O (bJ O (aQ (eF O O) (fA O (aA (dI results7 O ?_)))))
        exact ⟨by simp, yA.base⟩
      · (try simp only [Z] at h9)
        have hz0 : s1.rpE VM.new name keys = 0 := by have h9 := h9; omega
        have hl0 : Last (VM.new.rp1 s1 name keys) name keys := by unfold VM.rp1; rw [if_pos hz0]; exact ⟨rfl, rfl, rfl, rfl⟩
        refine fV (aI (bM O (bJ O (iE (bf ?_)))))
        refine iC [(4, _), (7, _), (10, _), (13, _), (14, _), (124, _)] (fun (k : Nat) => [(125, .int .i64 (k : Int))]) (fun (k : Nat) W => (k : Int) ≤ again ∧ ∃ s M, s.inn = false ∧ s.given = false ∧ Last M name keys ∧ V w W (jY m6 M • jY m7 M • eH e2 s • eH e4 s • eP b1 (.cells #[.string name, kv, tv, .int .i64 a, .int .i64 b] 44 (0, 0)) • F)) (fun (k : Nat) => again.toNat - k) (0) KO mO ⟨by omega, _, _, hrp.1, hrp.2.1, hl0, yA.f5.right.f5.right.f5.f3.f5.f4.f5⟩ ?_
        rintro k w16 ⟨hk9, s, M, hsi, hsg, hl, HL⟩
        dsimp only [List.cons_append, List.nil_append]
        refine iy (aQ (gW O O) (rP (aZ O (fun h10 => ?_) (fun h10 => ?_))))
        · (try simp only [Z] at h10)
          refine fV (aI (bf (aI ?_)))
          have rk := Lr (s := s) (M := M) (name := name) (keys := keys) hsi
          have rs := ad0 hsi hl
          refine aB (jX O O (kF (mM (k := .i32) (l := [46]) HL ah bK lq O O O (by decide)) ?_))
          rintro l17 Z5 DF
          refine dS O func24 (acx (s := s) (M := M) (name := name) (keys := keys) (ks := [46]) DF.f4.f3 hsi (fun W HW => (HW).aP) hT hsg (by decide) q4 hw ZX hl) ?_
          rintro _ w18 ⟨rfl, DZ⟩
          refine dZ O (bM O (bJ O (bI 0 fP O eG O (fC dw O (DZ.f6).get.2 O (bI 1 fP O bV O (fC ah O (DZ.f6).get.2 O (dS O func24 (Sv (s := s) (M := M) (keys := keys) DZ.f5.f5 hsi (fun W HW => hk _ (HW.right.right.right.right)) hT hsg hkl q4 hw) ?_)))))))
          rintro _ w19 ⟨rfl, Ef⟩
          have HX := Ef
          rw [rs.1] at HX
          refine dZ O (bM O (aQ (eF O O) (bJ O (aQ (eF O O) (aQ (Vy cZ O O) (JG O (fun h11 => ?_)))))))
          (try simp only [Z] at h11)
          refine aY (bJ O (aY (dS O func28 (nI HX.f4) ?_)))
          rintro _ w20 ⟨u20, rfl, E8⟩
          refine aY (aQ (oK 0 iD O O (dA ah O) O O) (aY (bJ O (aY (dS O func28 (nI E8.f4) ?_)))))
          rintro _ w21 ⟨u21, rfl, vF⟩
          refine aY (aQ (oK 0 iD O O (dA ah O) O O) (aY (dS O func27 (YT _ _ _ _ _ ((vF.f3).aP) ((vF).aP)) ?_)))
          rintro _ w22 ⟨rfl, ajj⟩
          have ajk := vF.Bd ajj
          refine aY (aQ (kG O) (fG O O (JG O (fun h12 => ?_))))
          (try simp only [Z] at h12)
          refine aY (bJ O (aY (dS O func28 (nI ajk.f4) ?_)))
          rintro _ w23 ⟨u23, rfl, BK⟩
          refine aY (aQ (oK 1 iD O O (dA aC O) O O) (aY (bJ O (aY (dS O func28 (nI BK.f4) ?_)))))
          rintro _ w24 ⟨u24, rfl, Oi⟩
          refine aY (aQ (oK 1 iD O O (dA aC O) O O) (aY (aQ (gY O O) (fG O O (iE (Oh O (fun h13 => ?_)))))))
          (try simp only [Z] at h13)
          refine dh (aH (aX (aB (aQ (fQ O O (by omega)) (bJ O (bZ ?_))))))
          refine dX (k + 1) ?_ ?_ ?_ ?_
          · exact mO
          · exact KO
          · (try dsimp only)
            first | done | exact ⟨by omega, _, _, rk.1, rk.2.1, rs.2, Oi.right.f2.right.f3.right.f3.right.f5.right.f5.f2.f3.f4.f5⟩
          · (try dsimp only); omega
        · (try simp only [Z] at h10)
          refine dR (aO (aO (bG (aX (kC O (dI results7 O ?_))))))
          exact ⟨O, HL.base⟩
  · skip
    refine iy (bI 0 fP O eG O (fC dw O (H8.f5).get.2 O (aQ (kM O O) (jm O (fun h14 => ?_) (fun h14 => ?_)))))
    · (try simp only [Z] at h14)
      refine aY (bI 0 fP O eG O (aY (fC dw O (H8.f5).get.2 O (aY (aQ (kM O O) (je O O (jm O (fun h15 => ?_) (fun h15 => ?_))))))))
      · (try simp only [Z] at h15)
        refine aY (bI 0 fP O eG O (aY (fC dw O (H8.f5).get.2 O (aY (aQ (kM O O) (je O O (jm O (fun h16 => ?_) (fun h16 => ?_))))))))
        · (try simp only [Z] at h16)
          refine aY (bI 0 fP O eG O (aY (fC dw O (H8.f5).get.2 O (aY (aQ (kM O O) (je O O (jr O (fun h => by exfalso; (try simp only [Z] at h); rcases q4 with q | q | q | q <;> first | exact absurd q (by assumption) | exact absurd q h) (fun h17 => ?_))))))))
          (try simp only [Z] at h17)
          refine dh ?_
          refine dD (()) ?_ ?_ ?_
          · exact (Sub.nil _)
          · exact KO
          · (try dsimp only)
            first | done | exact H8.f5.f4.f5.f4.f5
        · (try simp only [Z] at h16)
          refine bn (bn (bn (fG O O (iE (oh (dh ?_))))))
          refine dD (()) ?_ ?_ ?_
          · exact (Sub.nil _)
          · exact KO
          · (try dsimp only)
            first | done | exact H8.f5.f4.f5.f4.f5
      · (try simp only [Z] at h15)
        refine bn (bn (bn (fG O O (bJ O (bn (bn (bn (fG O O (iE (oh (dh ?_)))))))))))
        refine dD (()) ?_ ?_ ?_
        · exact (Sub.nil _)
        · exact KO
        · (try dsimp only)
          first | done | exact H8.f5.f4.f5.f4.f5
    · (try simp only [Z] at h14)
      refine bn (bn (bn (fG O O (bJ O (bn (bn (bn (fG O O (bJ O (bn (bn (bn (fG O O (iE (oh (dh ?_))))))))))))))))
      refine dD (()) ?_ ?_ ?_
      · exact (Sub.nil _)
      · exact KO
      · (try dsimp only)
        first | done | exact H8.f5.f4.f5.f4.f5
theorem Oe {w : World} (hT : vZ w) (g : fJ w .i32 lv line) (g2 : fJ w .i32 kv keys) (hb : keys.length ≤ 35184372087808) (o2 : tv.oneCell' = true) (hx : 0 ≤ again ∧ again ≤ 50) (q4 : Gn name) (hw : ¬ jS name keys = 0) :
    iQ prog 7 #[lv, .agg #[.string name, kv, tv, .int .i64 a, .int .i64 b], .int .i64 again] w fun v w' => v = .bool true ∧ Below w.heap.size w w' := by
  obtain ⟨F, H⟩ : ∃ F, V w w F := ⟨_, V.start w⟩
  have hv : jh w F .i32 lv line := jh.Aj g F
  have hk : jh w F .i32 kv keys := jh.Aj g2 F
  have o1 : kv.oneCell' = true := g2.one
  obtain ⟨s0, hs0⟩ : ∃ s0, s0 = xG line := ⟨_, rfl⟩
  have hs := YH line
  rw [← hs0] at hs
  have hz := Qu s0
  obtain ⟨s1, hs1⟩ : ∃ s1, s1 = s0.Ph VM.new [48] := ⟨_, rfl⟩
  have hg1 := acw (M := VM.new) (keys := [48]) hs.1
  rw [← hs1] at hg1
  have hkl : keys.length * 4 ≤ 140737488355328 := by omega
  obtain ⟨z, hz9, hz8⟩ : ∃ z : Int, z = (if jS name keys = -1 then 4 else 1) ∧ z ≠ 0 := ⟨_, rfl, by split <;> decide⟩
  refine zk func7 ntmps7 ?_
  refine iy (kF (jF (l := [_, _, _, _, _]) H O O) ?_)
  rintro _ w1 ⟨b1, rfl, H1⟩
  refine dZ O (bM O (dS O func21 (uw H1 (fun W HW => hv _ (HW.right))) ?_))
  rintro _ w2 ⟨e2, y2, rfl, H2⟩
  have HX := H2
  rw [← hs0] at HX
  have P9 := HX.f2.right
  refine bJ O (pW O O (pW O O (pW O O (gU O (gU O (dZ O (bM O (dS O func21 (uw P9 (fun W HW => hv _ (HW.right.right))) ?_))))))))
  rintro _ w4 ⟨e4, y4, rfl, H4⟩
  have HX := H4
  rw [← hs0] at HX
  have Hd5 := HX.f2.right
  refine bJ O (pW O O (pW O O (pW O O (gU O (gU O (dZ O (iy (dS O func22 (rM Hd5) ?_))))))))
  rintro _ w6 ⟨m6, rfl, H6⟩
  refine dS O func22 (rM H6) ?_
  rintro _ w7 ⟨m7, rfl, H7⟩
  refine gU O (uf O (bM O (aQ (kG O) (JG O (fun h1 => ?_)))))
  (try simp only [Z] at h1)
  refine aY (bJ O (aY (aQ (kG O) (fG O O (JG O (fun h2 => ?_))))))
  (try simp only [Z] at h2)
  refine aY (bJ O (aY (aQ (iJ fO O O) (fG O O (JG O (fun h3 => ?_))))))
  (try simp only [Z] at h3)
  refine aY (bJ O (aY (aQ (iJ fO O O) (fG O O (JG O (fun h4 => ?_))))))
  (try simp only [Z] at h4)
  refine aY (bJ O (aY (aQ (gW O O) (fG O O (jm O (fun h => by exfalso; (try simp only [Z] at h); omega) (fun h5 => ?_))))))
  (try simp only [Z] at h5)
  refine aY (bJ O (aY (aQ (eX O O) (fG O O (jm O (fun h => by exfalso; (try simp only [Z] at h); omega) (fun h6 => ?_))))))
  (try simp only [Z] at h6)
  refine aY (dS O func13 (CY H7 hT) ?_)
  rintro _ w8 ⟨rfl, H8⟩
  refine aY (aQ (kG O) (fG O O (iE (Oh O (fun h7 => ?_)))))
  (try simp only [Z] at h7)
  refine fV ?_
  refine kL [(2, _), (4, _), (7, _), (10, _), (13, _), (14, _)] (fun (_ : Unit) => []) (fun (_ : Unit) W => V w W (jY m6 VM.new • jY m7 VM.new • eH e2 s0 • eH e4 s0 • eP b1 (.cells #[.string name, kv, tv, .int .i64 a, .int .i64 b] 44 (0, 0)) • F)) KO ?_ ?_
  · rintro _ w9 HJ8
    dsimp only [List.cons_append, List.nil_append]
    refine bM O (bJ O (kF (mM (k := .i32) (l := [48]) HJ8 ah bK lq O O O (by decide)) ?_))
    rintro l10 w10 pz
    refine dS O func24 (FH (s := s0) (M := VM.new) (keys := [48]) pz.f4.f3 hT hs.1 (fun W HW => (HW).aP) (by decide) I4) ?_
    rintro _ FM ⟨rfl, rY⟩
    have HX := rY
    rw [hz, ← hs1] at HX
    refine sG O (bJ O (kF (mM (k := .i32) (l := [48]) HX ah bK lq O O O (by decide)) ?_))
    rintro l12 w12 vM
    refine dS O func24 (FH (s := s0) (M := VM.new) (keys := [48]) vM.f6.f6 hT hs.1 (fun W HW => (HW).aP) (by decide) I4) ?_
    rintro _ PD ⟨rfl, xI⟩
    have HX := xI
    rw [hz, ← hs1] at HX
    refine sG O (bJ O (bI 0 fP O eG O (fC dw O (HX.f7).get.2 O (bI 1 fP O bV O (fC ah O (HX.f7).get.2 O (dS O func24 (YI (z := z) HX.f5.f5 hg1.1 (fun W HW => hk _ (HW.right.right.right.right.right)) hw hz9) ?_))))))
    rintro _ Pz ⟨rfl, yF⟩
    refine uf O (bM O (bJ O (bI 0 fP O eG O (fC dw O (yF.f7).get.2 O (bI 1 fP O bV O (fC ah O (yF.f7).get.2 O (dS O func24 (YI (z := z) yF.f4.f4 hg1.1 (fun W HW => hk _ (HW.right.right.right.right.right)) hw hz9) ?_)))))))
    rintro _ QI ⟨rfl, yA⟩
    refine dZ O (bM O (bJ O (aQ (gY O O) (jm O (fun h8 => ?_) (fun h8 => ?_)))))
    · (try simp only [Z] at h8)
      refine bn (bn (je O O (iE (C9 (bM O (bJ O (aQ (eF O O) (fA O (aA (dI results7 O ?_))))))))))
      exact ⟨by simp, yA.base⟩
    · (try simp only [Z] at h8)
      refine aY (bJ O (aY (aQ (gY O O) (fG O O (jr O (fun h9 => ?_) (fun h => by exfalso; (try simp only [Z] at h); exact hz8 h))))))
      (try simp only [Z] at h9)
      refine bM O (bJ O (aQ (eF O O) (fA O (aA (dI results7 O ?_)))))
      exact ⟨by simp, yA.base⟩
  · skip
    refine iy (bI 0 fP O eG O (fC dw O (H8.f5).get.2 O (aQ (kM O O) (jm O (fun h10 => ?_) (fun h10 => ?_)))))
    · (try simp only [Z] at h10)
      refine aY (bI 0 fP O eG O (aY (fC dw O (H8.f5).get.2 O (aY (aQ (kM O O) (je O O (jm O (fun h11 => ?_) (fun h11 => ?_))))))))
      · (try simp only [Z] at h11)
        refine aY (bI 0 fP O eG O (aY (fC dw O (H8.f5).get.2 O (aY (aQ (kM O O) (je O O (jm O (fun h12 => ?_) (fun h12 => ?_))))))))
        · (try simp only [Z] at h12)
          refine aY (bI 0 fP O eG O (aY (fC dw O (H8.f5).get.2 O (aY (aQ (kM O O) (je O O (jr O (fun h => by exfalso; (try simp only [Z] at h); rcases q4 with q | q | q | q <;> first | exact absurd q (by assumption) | exact absurd q h) (fun h13 => ?_))))))))
          (try simp only [Z] at h13)
          refine dh ?_
          refine dD (()) ?_ ?_ ?_
          · exact (Sub.nil _)
          · exact KO
          · (try dsimp only)
            first | done | exact H8.f5.f4.f5.f4.f5
        · (try simp only [Z] at h12)
          refine bn (bn (bn (fG O O (iE (oh (dh ?_))))))
          refine dD (()) ?_ ?_ ?_
          · exact (Sub.nil _)
          · exact KO
          · (try dsimp only)
            first | done | exact H8.f5.f4.f5.f4.f5
      · (try simp only [Z] at h11)
        refine bn (bn (bn (fG O O (bJ O (bn (bn (bn (fG O O (iE (oh (dh ?_)))))))))))
        refine dD (()) ?_ ?_ ?_
        · exact (Sub.nil _)
        · exact KO
        · (try dsimp only)
          first | done | exact H8.f5.f4.f5.f4.f5
    · (try simp only [Z] at h10)
      refine bn (bn (bn (fG O O (bJ O (bn (bn (bn (fG O O (bJ O (bn (bn (bn (fG O O (iE (oh (dh ?_))))))))))))))))
      refine dD (()) ?_ ?_ ?_
      · exact (Sub.nil _)
      · exact KO
      · (try dsimp only)
        first | done | exact H8.f5.f4.f5.f4.f5
theorem XC {w : World} (hT : vZ w) (g : fJ w .i32 lv line) (g2 : fJ w .i32 kv keys) (hb : keys.length ≤ 35184372087808) (o2 : tv.oneCell' = true) :
    iQ prog 7 #[lv, .agg #[.string name, kv, tv, .int .i64 a, .int .i64 b], .int .i64 again] w fun v w' => v = .bool true ∧ Below w.heap.size w w' := by
  by_cases hx : 0 ≤ again ∧ again ≤ 50
  · rcases Classical.em (Gn name) with q4 | q4
    · by_cases hw : jS name keys = 0
      · exact Pj hT g g2 hb o2 hx q4 hw
      · exact Oe hT g g2 hb o2 hx q4 hw
    · exact JB hT g g2.one o2 hx q4
  · exact Oc hT g g2.one o2 hx
end
end Go.Proofs.YtpdeedplgmbopaaGreatDoor
end
