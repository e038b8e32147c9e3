import Derived.Test.YtpdeedplgmbopaaGreatDoorZ4
import Derived.Test.YtpdeedplgmbopaaGreatDoorZ25
import Derived.Test.YtpdeedplgmbopaaGreatDoorZ16
import Derived.Test.YtpdeedplgmbopaaGreatDoorZ13
import Derived.Test.YtpdeedplgmbopaaGreatDoorZ11
import Derived.Test.YtpdeedplgmbopaaGreatDoorZ20
set_option linter.unusedSimpArgs false
set_option linter.unusedVariables false
/- Texts of mine, joined, their names in short: REdN VBoth VLive. -/
section
namespace Go.Proofs.YtpdeedplgmbopaaGreatDoor
open Go.RowKit
open _root_.Go.Proofs.Tryz
theorem X0 (hl : List wY) : lS hl (fun _ => none) (hl.length : Int) = .empty := by
  unfold lS FU V6
  rw [if_neg (by omega)]; rfl
section
variable {w0 w : World} {F : HP} {y h : Nat} {s : bQ} {hl : List wY} {base most : Int} {l : List Int} {v : Value}
set_option maxHeartbeats 1000000 in
theorem LG {x0 x1 x2 x3 x4 x5 x6 x7 x8 x9 x10 x11 x12 BK x14 x15 x16 x17 x18 x19 x20 x21 Dn x23 x24 x25 Dp x27 x28 x29 x30 x31 Eb x34 Vz VA VB x38 x39 x40 x41 : Value} {b : Bool} (hb : b = false) (H : V w0 w (gJ y (.cells (x0 :: x1 :: x2 :: x3 :: x4 :: x5 :: x6 :: x7 :: x8 :: x9 :: x10 :: x11 :: x12 :: BK :: x14 :: x15 :: x16 :: x17 :: x18 :: x19 :: x20 :: x21 :: Dn :: x23 :: x24 :: x25 :: Dp :: x27 :: x28 :: x29 :: x30 :: x31 :: .bool b :: Eb :: x34 :: Vz :: VA :: VB :: x38 :: x39 :: x40 :: x41 :: []).toArray 174 (0, 0)) • lY h hl base most • F)) (hr : jO w0 F .i32 v l) (hshort : l.length ≤ 1024) : jf prog 60 #[.pointer (some ⟨y, 0, none⟩), .pointer (some ⟨h, 0, none⟩), v] w fun v' w' => v' = .int .i64 0 ∧ ∃ ph pb wv nv,
    V w0 w' (gJ y (.cells (.pointer (some ⟨ph, 0, none⟩) :: .pointer (some ⟨pb, 0, none⟩) :: x2 :: wv :: nv :: .int .i64 hl.length :: .string .empty :: .slice none 0 0 :: .slice none 0 0 :: x9 :: .bool false :: .int .i64 0 :: .bool false :: BK :: x14 :: x15 :: x16 :: x17 :: x18 :: x19 :: x20 :: x21 :: Dn :: x23 :: x24 :: .bool false :: .bool false :: .int .i64 (-1) :: .int .i64 0 :: .int .i64 0 :: .int .i64 0 :: x31 :: .bool b :: Eb :: x34 :: Vz :: VA :: VB :: x38 :: x39 :: x40 :: x41 :: []).toArray 174 (0, 0)) •
      uO pb l l.length (-1) • Bl 1 wv (hl.length + 1) (strs (uK hl)) • Row 9 1 nv (hl.length + 1) (strs (Bh hl (fun _ => none))) • lY ph hl base most • lY h hl base most • F) := by
  refine EU func60 ntmps60 ?_
  refine kH O (aI (bI O (aV (kU xw O O) (iR (JF O (fun h1 => ?_))))))
  (try simp only [Z] at h1)
  refine gy (aI (bI O (dV O (bM 32 aX O aT O (eH bJ O (H).get.2 O (iW O (fun h => by exfalso; (try simp only [Z] at h); simp [hb] at h) (fun h2 => ?_)))))))
  (try simp only [Z] at h2)
  refine gy (bI O (dX O func112 (XK H (fun W HW => hr _ (HW.right.right)) hshort) ?_))
  rintro _ w1 ⟨p1, rfl, H1⟩
  refine bW O (oZ O O (oZ O O (gW O (tX O (bI O (aV (fF O O) (iR (JF O (fun h3 => ?_)))))))))
  (try simp only [Z] at h3)
  refine gy (bI O (bW O (dX O func113 (NY H1.f3) ?_)))
  rintro _ w2 ⟨q2, rfl, H2⟩
  refine dV O (bM 0 aX O sizeOf104 O (aQ (qJ 0 H2.f4 sizeOf104) ?_))
  rintro _ w3 H3
  refine uS O (mX O O (bM 1 aX O iU O (bM 0 fG O sizeOf163 O (aQ (qJ 1 H3 sizeOf163) ?_))))
  rintro _ w4 H4
  refine uS O (mX O O (bM 0 aX O sizeOf104 O (eH xw O (H4).get.2 O (dX O func114 (Rt H4.f2) ?_))))
  rintro _ w5 ⟨q5, ov5, nv5, rfl, H5⟩
  refine dV O (aV (dH jM O tK O O (H5).get.2) (dV O (bM 1 aX O iU O (bM 2 fG O tK O (aQ (dM 3 (l' := [_, _, _, _, _, _, _, _, _, _, _, _, _, _, _, _, _, _, _, _, _, _, _, _, _, _, _, _, _, _, _, _, _, _, _, _, _, _, _, _, _, _]) (us := [_, _, _]) H5.f5 tK O O O (bG (by first | rfl | exact Rd.one ((H5.f2).aO)) (bG (by first | rfl | exact Rd.one ((H5.f3).aO)) (aJ dn))) O O) ?_)))))
  rintro _ w6 H6
  refine uS O (dV O (bM 1 aX O iU O (bM 5 fG O kM O (aQ (qJ 6 H6 kM) ?_))))
  rintro _ w7 H7
  refine uS O (aV (iJ (zl := [.slice none 0 0, .slice none 0 0]) (pl := [(0, 1), (1, 1)]) [_, _] mV zeroValue170 O (fun w => by kernel_rfl) O (.zero (zs := [.slice none 0 0]) O (.zero (zs := [.slice none 0 0]) O .nil)) O) (dV O (bM 1 aX O iU O (bM 6 fG O sizeOf170 O (aQ (dM 7 (l' := [_, _, _, _, _, _, _, _, _, _, _, _, _, _, _, _, _, _, _, _, _, _, _, _, _, _, _, _, _, _, _, _, _, _, _, _, _, _, _, _, _, _]) (us := [_, _]) H7 sizeOf170 O O O (aJ (aJ dn)) O O) ?_)))))
  rintro _ w8 H8
  refine uS O (jU O O (dV O (bM 1 aX O iU O (bM 9 fG O aT O (aQ (qJ 10 H8 aT) ?_)))))
  rintro _ w9 H9
  refine dV O (bM 1 aX O iU O (bM 10 fG O aj O (aQ (qJ 11 H9 aj) ?_)))
  rintro _ w10 pG
  refine dV O (bM 1 aX O iU O (bM 11 fG O aT O (aQ (qJ 12 pG aT) ?_)))
  rintro _ FK ru
  refine uS O (jU O O (dV O (bM 25 aX O aT O (aQ (qJ 25 ru aT) ?_))))
  rintro _ w12 wQ
  refine dV O (bM 26 aX O aT O (aQ (qJ 26 wQ aT) ?_))
  rintro _ OL wB
  refine dV O (bM 27 aX O aj O (aQ (qJ 27 wB aj) ?_))
  rintro _ OG rU
  refine uS O (jU O O (dV O (bM 28 aX O aj O (aQ (qJ 28 rU aj) ?_))))
  rintro _ OM zV
  refine dV O (bM 29 aX O aj O (aQ (qJ 29 zV aj) ?_))
  rintro _ w16 uT
  refine dV O (bM 30 aX O aj O (aQ (qJ 30 uT aj) ?_))
  rintro _ Yp BX
  refine iR (jS O (dL results60 O ?_))
  have HQ := (BX.f2.right.f5.f5.f5.f6.f5.f6).MI
  rw [I7, ← QH] at HQ
  exact ⟨O, _, _, _, _, by rw [← QH]; exact HQ.f2.f3.f2⟩
theorem aiI (hl : List wY) (base most : Int) : lU (bQ.new hl base most) [] [] 0 0 :=
  ⟨UO hl base most, ⟨⟨fun k => ⟨by show iK [] [] ≤ 16384; decide, by show ∀ g ∈ [], _; simp⟩, by show (0 : Nat) ≤ 60; decide, .inr rfl, by show ∀ e ∈ [], _; simp⟩, fun hi => absurd hi (by show ¬ false = true; decide), fun hi => absurd hi (by show ¬ false = true; decide)⟩, rfl, rfl, ⟨List.nodup_nil, by simp⟩, fun hi => absurd hi (by show ¬ false = true; decide)⟩
theorem X3 (H : V w0 w (lY h hl base most • F)) : jf prog 58 #[.pointer (some ⟨h, 0, none⟩)] w fun v' w' => ∃ y, v' = .tuple #[.pointer (some ⟨y, 0, none⟩), .int .i64 0] ∧ V w0 w' (wG y (bQ.new hl base most) • lY h hl base most • F) := by
  refine jE func58 ntmps58 ?_
  refine jg (gW O (tX O (bI O (aV (kU xw O O) (iR (JF O (fun h1 => ?_)))))))
  (try simp only [Z] at h1)
  refine gy (jg (aV (iJ (zl := [.pointer none, .pointer none, .pointer none, .slice none 0 0, .slice none 0 0, .int .i64 0, .string .empty, .slice none 0 0, .slice none 0 0, .int .i64 0, .bool false, .int .i64 0, .bool false, .pointer none, .pointer none, .slice none 0 0, .slice none 0 0, .int .i64 0, .string .empty, .slice none 0 0, .slice none 0 0, .int .i64 0, .bool false, .int .i64 0, .bool false, .bool false, .bool false, .int .i64 0, .int .i64 0, .int .i64 0, .int .i64 0, .int .i64 0, .bool false, .int .i64 0, .int .i64 0, .int .i64 0, .bool false, .bool false, .bool false, .slice none 0 0, .bool false, .bool false]) (pl := [(0, 1), (1, 12), (13, 12), (25, 1), (26, 1), (27, 1), (28, 1), (29, 1), (30, 1), (31, 1), (32, 1), (33, 1), (34, 1), (35, 1), (36, 1), (37, 1), (38, 1), (39, 1), (40, 1), (41, 1)]) [_, _, _, _, _, _, _, _, _, _, _, _, _, _, _, _, _, _, _, _, _, _, _, _, _, _, _, _, _, _, _, _, _, _, _, _, _, _, _, _, _, _] aX zeroValue174 O (fun w => by kernel_rfl) O (.zero (zs := [.pointer none]) O (.zero (zs := [.pointer none, .pointer none, .slice none 0 0, .slice none 0 0, .int .i64 0, .string .empty, .slice none 0 0, .slice none 0 0, .int .i64 0, .bool false, .int .i64 0, .bool false]) O (.zero (zs := [.pointer none, .pointer none, .slice none 0 0, .slice none 0 0, .int .i64 0, .string .empty, .slice none 0 0, .slice none 0 0, .int .i64 0, .bool false, .int .i64 0, .bool false]) O (.zero (zs := [.bool false]) O (.zero (zs := [.bool false]) O (.zero (zs := [.int .i64 0]) O (.zero (zs := [.int .i64 0]) O (.zero (zs := [.int .i64 0]) O (.zero (zs := [.int .i64 0]) O (.zero (zs := [.int .i64 0]) O (.zero (zs := [.bool false]) O (.zero (zs := [.int .i64 0]) O (.zero (zs := [.int .i64 0]) O (.zero (zs := [.int .i64 0]) O (.zero (zs := [.bool false]) O (.zero (zs := [.bool false]) O (.zero (zs := [.bool false]) O (.zero (zs := [.slice none 0 0]) O (.zero (zs := [.bool false]) O (.zero (zs := [.bool false]) O .nil)))))))))))))))))))) O) (kV (kK (l := [_, _, _, _, _, _, _, _, _, _, _, _, _, _, _, _, _, _, _, _, _, _, _, _, _, _, _, _, _, _, _, _, _, _, _, _, _, _, _, _, _, _]) H O O) ?_)))
  rintro _ w1 ⟨b1, rfl, H1⟩
  refine fO O (bI O (aV (iJ (zl := [.slice none 0 0, .int .i64 0]) (pl := [(0, 1), (1, 1)]) [_, _] underlying176 zeroValue176 O (fun w => by kernel_rfl) O (.zero (zs := [.slice none 0 0]) O (.zero (zs := [.int .i64 0]) O .nil)) O) (kV (kK (l := [_, _]) H1 O O) ?_)))
  rintro _ w2 ⟨b2, rfl, H2⟩
  refine dV O (bM 1 aX O iU O (bM 1 fG O sizeOf164 O (aQ (qJ 2 H2.f2 sizeOf164) ?_)))
  rintro _ w3 H3
  refine uS O (bW O (dX O func60 (LG (l := []) O H3.f2.f3.f3 (fun W _ => gB.nil W _ none 0 (by decide)) (by decide)) ?_))
  rintro _ w4 ⟨rfl, ph, pb, wv, nv, H4⟩
  refine uS O (gW O (fP O (MO results58 O O ?_)))
  have HR := ((H4.f6.f6.f6.f6.f6.f6.f7).VE (k := .i32)).kF (e := 22) (sz := 1) none
  have HR2 := (V.QF (E := []) (place := 0) (HR.agD (ls := [])).swap)
  have HR3 := ((HR2.XM.ZF (sz := 1) none).XO (k := .i64) none)
  have hT := X0 hl
  refine ⟨_, O, V.aaR (s := bQ.new hl base most) (h := ph) (pb := pb) (pk := b2) (wv := wv) (nv := nv) (pv := .slice none 0 0) (gv := .slice none 0 0) (ch := false) (u0 := .pointer none) (u1 := .pointer none) (u2 := .slice none 0 0) (u3 := .slice none 0 0) (u4 := .int .i64 0) (u5 := .string .empty) (u6 := .slice none 0 0) (u7 := .slice none 0 0) (u8 := .int .i64 0) (u9 := .bool false) (ua := .int .i64 0) (ub := .bool false) (aiI hl base most) O ?_ ?_⟩
  · show V w0 _ (gJ _ (.cells (_ :: _ :: _ :: _ :: _ :: _ :: .string (lS hl (fun _ => none) (hl.length : Int)) :: _).toArray _ (0, 0)) • _)
    rw [hT]
    exact HR3.f10.f10.f5.f5.f5.f10.f10.f8.f10.f10
  · rfl
theorem aeN {es : List gX} {A : List LE} {yf yt : Int} (h : lU s es A yf yt) (hi : s.inn = false) (hl : List wY) (base most : Int) (l : List Int) : lU (s.start hl base most l) es [] yf yt :=
  ⟨Xc h.ok hi _ _ _ _, ⟨⟨fun k => ⟨by show iK [] [] ≤ 16384; decide, by show ∀ g ∈ [], _; simp⟩, h.rx.1.2⟩, fun h2 => absurd (show s.inn = true from h2) (by rw [hi]; decide), fun h2 => absurd (show s.inn = true from h2) (by rw [hi]; decide)⟩, h.says, rfl, ⟨List.nodup_nil, by simp⟩, fun h2 => absurd (show s.inn = true from h2) (by rw [hi]; decide)⟩
theorem Sr (H : V w0 w (wG y s • lY h hl base most • F)) (hr : jO w0 F .i32 v l) : jf prog 60 #[.pointer (some ⟨y, 0, none⟩), .pointer (some ⟨h, 0, none⟩), v] w fun v' w' =>
  v' = .int .i64 (s.yR l) ∧ V w0 w' (wG y (s.JV hl base most l) • lY h hl base most • F) := by
 by_cases hin : s.inn = true
 ·have hE : s.yR l = 1 := by unfold bQ.yR; rw [if_pos hin]
  unfold bQ.JV
  rw [if_neg (by rw [hE]; decide), hE]
  refine EU func60 ntmps60 ?_
  refine kH O (aI (bI O (aV (kU xw O O) (iR (JF O (fun h1 => ?_))))))
  (try simp only [Z] at h1)
  refine gy (aI (aI ?_))
  obtain ⟨h_y, Ry, Rz, RD, RF, ab2, ab3, A_y, ab4, ab5, XR, XT, XU, RH, RI, RJ, RN, RP, RU, RV, RY, RZ, Si, Sj, Sl, xu, J4, BI⟩ := (H).XP
  refine aF (mX O O (bM 32 aX O aT O (eH bJ O (BI).get.2 O (iW O (fun h2 => ?_) (fun h => by exfalso; (try simp only [Z] at h); simp [hin] at h)))))
  (try simp only [Z] at h2)
  refine jS O (aC (dL results60 O ?_))
  have YD := BI.f12.f12.f12.f12.f12.f12.f12.f12.f12.f12.f12.f12
  have ZW := V.zS (s := s) xu YD
  exact ⟨O, ZW.f2.f2⟩
 ·have hi : s.inn = false := by simpa using hin
  by_cases hlen : 1024 < l.length
  ·have hE : s.yR l = 3 := by unfold bQ.yR; rw [if_neg hin, if_pos hlen]
   unfold bQ.JV
   rw [if_neg (by rw [hE]; decide), hE]
   refine EU func60 ntmps60 ?_
   refine kH O (aI (bI O (aV (kU xw O O) (iR (JF O (fun h1 => ?_))))))
   (try simp only [Z] at h1)
   refine gy (aI (aI ?_))
   obtain ⟨h_y, Ry, Rz, RD, RF, ab2, ab3, A_y, ab4, ab5, XR, XT, XU, RH, RI, RJ, RN, RP, RU, RV, RY, RZ, Si, Sj, Sl, xu, J4, BI⟩ := (H).XP
   refine aF (mX O O (bM 32 aX O aT O (eH bJ O (BI).get.2 O ?_)))
   have YD := BI.f12.f12.f12.f12.f12.f12.f12.f12.f12.f12.f12.f12
   have ZW := V.zS (s := s) xu YD
   refine iW O (fun h => by exfalso; (try simp only [Z] at h); simp [hi] at h) (fun h2 => ?_)
   (try simp only [Z] at h2)
   refine gy (bI O (dX O func112 (Vh ZW (fun W HW => hr W HW.right.right) hlen) ?_))
   rintro _ _ ⟨rfl, rfl⟩
   refine bW O (oZ O O (oZ O O (gW O (tX O (bI O (aV (fF O O) (iR (wcE O (fun h3 => ?_)))))))))
   (try simp only [Z] at h3)
   refine bI O (fP O (aC (dL results60 O ?_)))
   exact ⟨O, ZW.f2.f2⟩
  ·have hE : s.yR l = 0 := by unfold bQ.yR; rw [if_neg hin, if_neg hlen]
   unfold bQ.JV
   rw [if_pos hE, hE]
   obtain ⟨h0, pb, pk, wv, nv, pv, gv, A, nw, es, yf, yt, ch, u0, u1, u2, u3, u4, u5, u6, u7, u8, u9, ua, ub, ok, pl, H⟩ := H.XP
   have HI := H.f13
   refine (LG hi (hr := fun W HW => hr W HW.right.right.right.right.right.right.right.right.right.right.right) (l := l) HI.f2 (by omega)).mono fun v' w' h9 => ?_
   obtain ⟨e9, ph, pb', wv', nv', H9⟩ := h9
   refine ⟨e9, ?_⟩
   have pG := H9.f7.right.f8.right.f8.right.f8.right.f8.right.f8.right.f8.right
   have HR3 := ((pG.XM.ZF (sz := 1) none).XO (k := .i64) none)
   have HX := HR3.f9.f13.f13.f13.f12.f8.f8.f8.f12.f12.f13.f13.f13
   rw [← X0 hl, show Jd s.inn s.hl s.was [u0, u1, u2, u3, u4, u5, u6, u7, u8, u9, ua, ub] = Jd s.inn hl s.was [u0, u1, u2, u3, u4, u5, u6, u7, u8, u9, ua, ub] from by rw [hi]; rfl] at HX
   refine V.zS (y := y) (s := s.start hl base most l) (h := ph) (pb := pb') (pk := pk) (wv := wv') (nv := nv') (pv := .slice none 0 0) (gv := .slice none 0 0) (nw := nw) (es := es) (ch := ch) (u0 := u0) (u1 := u1) (u2 := u2) (u3 := u3) (u4 := u4) (u5 := u5) (u6 := u6) (u7 := u7) (u8 := u8) (u9 := u9) (ua := ua) (ub := ub) (aeN ok hi hl base most l) ?_
   rw [show (s.start hl base most l).Ef = 0 from if_neg (by show ¬ s.inn = true; simp [hi]), show (s.start hl base most l).frS = 0 from if_neg (by show ¬ s.inn = true; simp [hi]), show (s.start hl base most l).toS = 0 from if_neg (by show ¬ s.inn = true; simp [hi])]
   exact HX
end
def BJ (l : List Int) : bQ := ((((bQ.new [] 1 5).JV [] 1 5 l).cZ).zH 2).lQ 0
section
variable {w0 w : World} {F : HP} {v : Value} {l : List Int}
theorem TU (H : V w0 w F) (hr : jO w0 F .i32 v l) : jf prog 21 #[v] w fun v' w' => ∃ e y, v' = .tuple #[.pointer (some ⟨e, 0, none⟩), .pointer (some ⟨y, 0, none⟩), .bool true] ∧ V w0 w' (dZ e (BJ l) • wG y (BJ l) • F) := by
 refine jE func21 ntmps21 ?_
 refine jg (gW O (gW O (fO O (jg (dX O func55 (UG H (by omega)) ?_)))))
 rintro _ w1 ⟨p1, rfl, H1⟩
 refine bW O (oZ O O (oZ O O (gW O (fO O (jg (dX O func56 (Rq H1 (by omega)) ?_))))))
 rintro _ w2 ⟨p2, rfl, H2⟩
 refine bW O (oZ O O (oZ O O (gW O (tX O (bI O (aV (fF O O) (OB O (fun h1 => ?_))))))))
 (try simp only [Z] at h1)
 refine bF (bW O (bF (aV (fF O O) (iH O O (iR (JF O (fun h2 => ?_)))))))
 (try simp only [Z] at h2)
 refine gy (bI O (dX O func57 (YR H2.f2) ?_))
 rintro _ w3 ⟨e3, rfl, H3⟩
 refine bW O (oZ O O (oZ O O (gW O (fO O (bI O (dX O func58 (X3 H3.f3) ?_))))))
 rintro _ w4 ⟨y4, rfl, H4⟩
 refine bW O (oZ O O (oZ O O (gW O (tX O (bI O (aV (fF O O) (OB O (fun h3 => ?_))))))))
 (try simp only [Z] at h3)
 refine bF (bW O (bF (aV (fF O O) (iH O O (OB O (fun h4 => ?_))))))
 (try simp only [Z] at h4)
 refine bF (bW O (bF (aV (kU bY O O) (iH O O (iR (JF O (fun h5 => ?_)))))))
 (try simp only [Z] at h5)
 refine gy (aI (bI O (jU O O (dX O func59 (U1 H4.f4.f4 (fun W HW => hr _ (HW.right.right))) ?_))))
 rintro _ w5 ⟨rfl, H5⟩
 refine jU O O (bW O (dX O func60 (Sr H5.f4.f4 (fun W HW => hr _ (HW.right.right))) ?_))
 rintro _ w6 ⟨rfl, H6⟩
 refine aV (fF O O) (iR (JF O (fun h6 => ?_)))
 (try simp only [Z] at h6)
 refine gy (bI O (dX O func29 (KN H6.f3) ?_))
 rintro _ w7 ⟨rfl, H7⟩
 refine uS O (dX O func61 (Sm H7.f2) ?_)
 rintro _ w8 ⟨rfl, H8⟩
 refine uS O (dX O func62 (A8 H8.f2) ?_)
 rintro _ w9 ⟨rfl, H9⟩
 refine uS O (dX O func63 (Vl H9.f2) ?_)
 rintro _ w10 ⟨rfl, pG⟩
 refine uS O (jU O O (dX O func31 (JU pG.f2) ?_))
 rintro _ FK ⟨rfl, ru⟩
 refine bW O (dX O func64 (XZ ru.f2) ?_)
 rintro _ w12 ⟨rfl, wQ⟩
 refine aV (fB O O) (gW O (gW O (fP O ?_)))
 refine dU (.inl O) results21 O O O ?_
 exact ⟨_, _, by simp, wQ.f3.right.f3.right.f2⟩
end
def QL : List Int := [102, 111, 111, 32, 98, 97, 114]
theorem ML : Ak yK := ⟨7, by decide, rfl⟩
theorem agu : nT yK [119] = 0 := Qi ML (by decide) fun h => absurd ((jH rfl).1 h).2 (by decide)
theorem agv : nT yK [98] = 0 := Qi ML (by decide) fun h => absurd ((jH rfl).1 h).2 (by decide)
theorem agw : nT yK [102] = 1 := Qh ML ((jH rfl).2 ⟨rfl, by decide⟩)
namespace bQ
variable (s : bQ)
def agx (M : VM) (keys : List Int) : Int := (s.cZ.adS M keys (max s.cZ.count 1)).Zf (s.cZ.adR M keys (max s.cZ.count 1))
def ab7 (M : VM) (keys : List Int) : bQ := (s.cZ.adS M keys (max s.cZ.count 1)).X7 (s.cZ.adR M keys (max s.cZ.count 1))
end bQ
def VM.went (M : VM) (s : bQ) (keys : List Int) : VM := if s.agx M keys = 0 then M.sought s.cZ.c.L s.cZ.c.pt keys (max s.cZ.count 1) else M
theorem aeO : CO QL 0 119 0 1 = (4, false, true) := by kernel_rfl
theorem aiJ : (BJ QL).inn = false := by kernel_rfl
theorem aeP : (BJ QL).agx VM.new [119] = 6 := by kernel_rfl
theorem aiK : VM.went VM.new (BJ QL) [119] = VM.new := by unfold VM.went; rw [if_neg (by rw [aeP]; decide)]
theorem agy : ((BJ QL).ab7 VM.new [119]).inn = false := by kernel_rfl
theorem aiL : ((BJ QL).ab7 VM.new [119]).agx VM.new [98] = 0 := by kernel_rfl
theorem aiM : (((BJ QL).ab7 VM.new [119]).ab7 VM.new [98]).c.pt = 4 := by kernel_rfl
theorem ab8 : ¬ (zM yK ∨ vZ yK) := by
  unfold zM vZ
  rintro ((h | h | h | h) | (h | h | h | h | h)) <;> exact absurd h (Gv (by decide))
theorem agz {M : VM} {keys : List Int} {n x : Int} : M.did yK keys n x = M := JW fun h => ab8 h.1
theorem Vp (s : bQ) : s.cZ.count = s.count := by unfold bQ.cZ; split <;> rfl
section
variable {w0 w : World} {F : HP} {m e : Nat} {s : bQ} {keys : List Int} {kv : Value} {M : VM}
theorem aaS (H : V w0 w (jW m M • dZ e s • F)) (hT : Bq w0) (hi : s.inn = false) (hk : jO w0 F .i32 kv keys) (hkl : keys.length * 4 ≤ 140737488355328) (hw : nT yK keys = 0) :
    jf prog 24 #[.pointer (some ⟨m, 0, none⟩), .pointer (some ⟨e, 0, none⟩), .string yK, kv] w fun v w' => v = .int .i64 (s.agx M keys) ∧ V w0 w' (jW m (M.went s keys) • dZ e (s.ab7 M keys) • F) := by
  have hco := MF s (Zg H.f2)
  refine (aaB H hi hk hkl hw (abS hT ?_)).mono ?_
  · rw [Vp]; omega
  · rintro v w' ⟨x, t, M', ⟨rfl, rfl, rfl⟩, rfl, H⟩
    exact ⟨rfl, by unfold VM.went; unfold VM.doM at H; rw [agz] at H; exact H⟩
theorem IE {s : ByteArray} {l : List Int} (H : V w0 w F) (hl : Conv.runesFrom s s.size 0 #[] = (l.map (Value.int .i32)).toArray) (hb : l.length ≤ 70368744177664) :
    jf prog 34 #[.string s] w fun v w' => V w0 w' (je 21 .i32 v l • F) := by
  refine jE func34 ntmps34 ?_
  refine kH O (bI O (kV (Vy H iD ah bC O hl hb) ?_))
  rintro u w1 H1
  refine fP O (dL results34 O ?_)
  exact H1
theorem ab9 (H : V w0 w F) (hT : Bq w0) : jf prog 13 #[] w fun v w' => v = .bool true ∧ V w0 w' F := by
  refine aaY func13 ntmps13 ?_
  refine kH O (jg (dX O func34 (IE H (l := QL) (by kernel_rfl) (by decide)) ?_))
  rintro u1 w1 H1
  refine dX O func21 (TU H1 (fun W HW => (HW).aO)) ?_
  rintro _ w2 ⟨e2, y2, rfl, H2⟩
  have X6 := H2.f3.right
  refine bW O (oZ O O (oZ O O (oZ O O (gW O (gW O (fO O (jg (dX O func22 (Qk X6) ?_))))))))
  rintro _ w4 ⟨m4, rfl, H4⟩
  refine tX O (bI O (aV (jR O) (OB O (fun h1 => ?_))))
  (try simp only [Z] at h1)
  refine bF (bW O (bF (aV (kU bY O O) (iH O O (OB O (fun h2 => ?_))))))
  (try simp only [Z] at h2)
  refine bF (bW O (bF (aV (kU jG O O) (iH O O (iR (JF O (fun h3 => ?_)))))))
  (try simp only [Z] at h3)
  refine gy (jg (dX O func34 (IE H4 (l := QL) (by kernel_rfl) (by decide)) ?_))
  rintro u5 w5 H5
  refine dX O func11 (Es H5 (fun W HW => (HW).aO) hT (by decide) (by decide)) ?_
  rintro _ w6 ⟨rfl, H6⟩
  refine bW O (oZ O O (oZ O O (oZ O O (gW O (gW O (fO O (bI O (aV (fB O O) (jY O (fun h4 => ?_) (fun h => by exfalso; (try simp only [Z] at h); exact h (by rw [aeO])))))))))))
  (try simp only [Z] at h4)
  refine bF (bW O (jQ O O (jY O (fun h5 => ?_) (fun h => by exfalso; (try simp only [Z] at h); rw [aeO] at h; exact absurd h (by decide)))))
  (try simp only [Z] at h5)
  refine bF (bW O (bF (bW O (bF (kV (nN (k := .i32) (l := [119]) H6 ah bP lW O O O (by decide)) ?_)))))
  rintro l7 w7 H7
  refine bF (dX O func24 (aaS (s := BJ QL) (M := VM.new) (keys := [119]) H7.f4.f4 hT aiJ (fun W HW => (HW).aO) (by decide) agu) ?_)
  rintro _ w8 ⟨rfl, H8⟩
  have HX := H8
  rw [aiK] at HX
  refine bF (aV (fB O O) (jQ O O (jY O (fun h6 => ?_) (fun h => by exfalso; (try simp only [Z] at h); exact h aeP))))
  (try simp only [Z] at h6)
  refine bF (bW O (bF (bW O (bF (kV (nN (k := .i32) (l := [98]) HX ah bP lW O O O (by decide)) ?_)))))
  rintro l9 w9 H9
  refine bF (dX O func24 (aaS (s := (BJ QL).ab7 VM.new [119]) (M := VM.new) (keys := [98]) H9.f3.f3 hT agy (fun W HW => (HW).aO) (by decide) agv) ?_)
  rintro _ w10 ⟨rfl, pG⟩
  refine bF (aV (fB O O) (jQ O O (jY O (fun h7 => ?_) (fun h => by exfalso; (try simp only [Z] at h); exact h aiL))))
  (try simp only [Z] at h7)
  refine bF (bW O (bF (dX O func28 (pU pG.f2) ?_)))
  rintro _ FK ⟨u11, rfl, ru⟩
  refine bF (aV (pY 1 fK O O (bV aA O) O O) (bF (aV (fB O O) (jQ O O (jY O (fun h8 => ?_) (fun h => by exfalso; (try simp only [Z] at h); exact h aiM))))))
  (try simp only [Z] at h8)
  refine bF (kV (nN (k := .i32) (l := [102]) ru ah bP lW O O O (by decide)) ?_)
  rintro l12 w12 wQ
  refine bF (dX O func16 (DW wQ (fun W HW => (HW).aO)) ?_)
  rintro _ OL ⟨rfl, wB⟩
  refine bF ?_
  refine aV (Dl (fB O O) (by exact beq_iff_eq.2 agw)) ?_
  refine jQ O O (fP O (dL results13 O ?_))
  exact ⟨O, wB.right.right.right.right.right.right.right.right⟩
end
end Go.Proofs.YtpdeedplgmbopaaGreatDoor
end
