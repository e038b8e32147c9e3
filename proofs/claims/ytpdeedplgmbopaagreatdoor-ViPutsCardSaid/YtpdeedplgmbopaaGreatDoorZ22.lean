import Derived.Test.YtpdeedplgmbopaaGreatDoorZ4
import Derived.Test.YtpdeedplgmbopaaGreatDoorZ21
import Derived.Test.YtpdeedplgmbopaaGreatDoorZ20
import Derived.Test.YtpdeedplgmbopaaGreatDoorZ11
import Derived.Test.YtpdeedplgmbopaaGreatDoorZ16
import Derived.Test.YtpdeedplgmbopaaGreatDoorZ14
import Derived.Test.YtpdeedplgmbopaaGreatDoorZ19
set_option linter.unusedSimpArgs false
set_option linter.unusedVariables false
/- Texts of mine, joined, their names in short: REdN VBoth VLive VKillM VPut VPutM. -/
section
namespace Go.Proofs.YtpdeedplgmbopaaGreatDoor
open Go.RowKit
open _root_.Go.Proofs.Tryz
theorem Tc (hl : List sN) : kL hl (fun _ => none) (hl.length : Int) = .empty := by
  unfold kL BO QU
  rw [if_neg (by omega)]; rfl
section
variable {w0 w : World} {F : HP} {y h : Nat} {s : bn} {hl : List sN} {base most : Int} {l : List Int} {v : Value}
set_option maxHeartbeats 1000000 in
theorem Ho {x0 x1 x2 x3 x4 x5 x6 x7 x8 x9 x10 x11 x12 yA x14 x15 x16 x17 x18 x19 x20 x21 yV x23 x24 x25 zo x27 x28 x29 x30 x31 Ad x34 Qs Qu Qv x38 x39 x40 x41 : Value} {b : Bool} (hb : b = false) (H : V w0 w (dW y (.cells (x0 :: x1 :: x2 :: x3 :: x4 :: x5 :: x6 :: x7 :: x8 :: x9 :: x10 :: x11 :: x12 :: yA :: x14 :: x15 :: x16 :: x17 :: x18 :: x19 :: x20 :: x21 :: yV :: x23 :: x24 :: x25 :: zo :: x27 :: x28 :: x29 :: x30 :: x31 :: .bool b :: Ad :: x34 :: Qs :: Qu :: Qv :: x38 :: x39 :: x40 :: x41 :: []).toArray 174 (0, 0)) • kC h hl base most • F)) (hr : jF w0 F .i32 v l) (hshort : l.length ≤ 1024) : iE prog 60 #[.pointer (some ⟨y, 0, none⟩), .pointer (some ⟨h, 0, none⟩), v] w fun v' w' => v' = .int .i64 0 ∧ ∃ ph pb wv nv,
    V w0 w' (dW y (.cells (.pointer (some ⟨ph, 0, none⟩) :: .pointer (some ⟨pb, 0, none⟩) :: x2 :: wv :: nv :: .int .i64 hl.length :: .string .empty :: .slice none 0 0 :: .slice none 0 0 :: x9 :: .bool false :: .int .i64 0 :: .bool false :: yA :: x14 :: x15 :: x16 :: x17 :: x18 :: x19 :: x20 :: x21 :: yV :: x23 :: x24 :: .bool false :: .bool false :: .int .i64 (-1) :: .int .i64 0 :: .int .i64 0 :: .int .i64 0 :: x31 :: .bool b :: Ad :: x34 :: Qs :: Qu :: Qv :: x38 :: x39 :: x40 :: x41 :: []).toArray 174 (0, 0)) •
      ql pb l l.length (-1) • xY 1 wv (hl.length + 1) (strs (qc hl)) • Row 9 1 nv (hl.length + 1) (strs (xW hl (fun _ => none))) • kC ph hl base most • kC h hl base most • F) := by
  refine zT func60 ntmps60 ?_
  refine jQ O (aN (bQ O (Z (jy sF O O) (iJ (Qg O (fun h1 => ?_))))))
  (try simp only [aA] at h1)
  refine gG (aN (bQ O (dK O (bJ 32 aQ O aP O (fM bY O (H).get.2 O (jB O (fun h => by exfalso; (try simp only [aA] at h); simp [hb] at h) (fun h2 => ?_)))))))
  (try simp only [aA] at h2)
  refine gG (bQ O (dS O func112 (SI H (fun W HW => hr _ (HW.right.right)) hshort) ?_))
  rintro _ w1 ⟨p1, rfl, H1⟩
  refine bT O (uH O O (uH O O (iK O (uZ O (bQ O (Z (ig O O) (iJ (Qg O (fun h3 => ?_)))))))))
  (try simp only [aA] at h3)
  refine gG (bQ O (bT O (dS O func113 (Jp H1.f3) ?_)))
  rintro _ w2 ⟨q2, rfl, H2⟩
  refine dK O (bJ 0 aQ O sizeOf104 O (aJ (mQ 0 H2.f4 sizeOf104) ?_))
  rintro _ w3 H3
  refine rG O (nG O O (bJ 1 aQ O fO O (bJ 0 dI O sizeOf163 O (aJ (mQ 1 H3 sizeOf163) ?_))))
  rintro _ w4 H4
  refine rG O (nG O O (bJ 0 aQ O sizeOf104 O (fM sF O (H4).get.2 O (dS O func114 (MQ H4.f2) ?_))))
  rintro _ w5 ⟨q5, ov5, nv5, rfl, H5⟩
  refine dK O (Z (dM iI O pJ O O (H5).get.2) (dK O (bJ 1 aQ O fO O (bJ 2 dI O pJ O (aJ (dB 3 (l' := [_, _, _, _, _, _, _, _, _, _, _, _, _, _, _, _, _, _, _, _, _, _, _, _, _, _, _, _, _, _, _, _, _, _, _, _, _, _, _, _, _, _]) (us := [_, _, _]) H5.f5 pJ O O O (aZ (by first | rfl | exact Rd.one ((H5.f2).aS)) (aZ (by first | rfl | exact Rd.one ((H5.f3).aS)) (aG bU))) O O) ?_)))))
  rintro _ w6 H6
  refine rG O (dK O (bJ 1 aQ O fO O (bJ 5 dI O nD O (aJ (mQ 6 H6 nD) ?_))))
  rintro _ w7 H7
  refine rG O (Z (fC (zl := [.slice none 0 0, .slice none 0 0]) (pl := [(0, 1), (1, 1)]) [_, _] kP zeroValue170 O (fun w => by kernel_rfl) O (.zero (zs := [.slice none 0 0]) O (.zero (zs := [.slice none 0 0]) O .nil)) O) (dK O (bJ 1 aQ O fO O (bJ 6 dI O sizeOf170 O (aJ (dB 7 (l' := [_, _, _, _, _, _, _, _, _, _, _, _, _, _, _, _, _, _, _, _, _, _, _, _, _, _, _, _, _, _, _, _, _, _, _, _, _, _, _, _, _, _]) (us := [_, _]) H7 sizeOf170 O O O (aG (aG bU)) O O) ?_)))))
  rintro _ w8 H8
  refine rG O (jR O O (dK O (bJ 1 aQ O fO O (bJ 9 dI O aP O (aJ (mQ 10 H8 aP) ?_)))))
  rintro _ w9 H9
  refine dK O (bJ 1 aQ O fO O (bJ 10 dI O ay O (aJ (mQ 11 H9 ay) ?_)))
  rintro _ w10 pR
  refine dK O (bJ 1 aQ O fO O (bJ 11 dI O aP O (aJ (mQ 12 pR aP) ?_)))
  rintro _ Fv tq
  refine rG O (jR O O (dK O (bJ 25 aQ O aP O (aJ (mQ 25 tq aP) ?_))))
  rintro _ w12 vZ
  refine dK O (bJ 26 aQ O aP O (aJ (mQ 26 vZ aP) ?_))
  rintro _ Qh wo
  refine dK O (bJ 27 aQ O ay O (aJ (mQ 27 wo ay) ?_))
  rintro _ OQ AZ
  refine rG O (jR O O (dK O (bJ 28 aQ O ay O (aJ (mQ 28 AZ ay) ?_))))
  rintro _ QE zU
  refine dK O (bJ 29 aQ O ay O (aJ (mQ 29 zU ay) ?_))
  rintro _ w16 vw
  refine dK O (bJ 30 aQ O ay O (aJ (mQ 30 vw ay) ?_))
  rintro _ YI Dh
  refine iJ (jM O (dL results60 O ?_))
  have HQ := (Dh.f2.right.f5.f5.f5.f6.f5.f6).IB
  rw [EC, ← LM] at HQ
  exact ⟨O, _, _, _, _, by rw [← LM]; exact HQ.f2.f3.f2⟩
theorem adQ (hl : List sN) (base most : Int) : lg (bn.new hl base most) [] [] 0 0 :=
  ⟨PE hl base most, ⟨⟨fun k => ⟨by show gV [] [] ≤ 16384; decide, by show ∀ g ∈ [], _; simp⟩, by show (0 : Nat) ≤ 60; decide, .inr rfl, by show ∀ e ∈ [], _; simp⟩, fun hi => absurd hi (by show ¬ false = true; decide), fun hi => absurd hi (by show ¬ false = true; decide)⟩, rfl, rfl, ⟨List.nodup_nil, by simp⟩, fun hi => absurd hi (by show ¬ false = true; decide)⟩
theorem Td (H : V w0 w (kC h hl base most • F)) : iE prog 58 #[.pointer (some ⟨h, 0, none⟩)] w fun v' w' => ∃ y, v' = .tuple #[.pointer (some ⟨y, 0, none⟩), .int .i64 0] ∧ V w0 w' (qW y (bn.new hl base most) • kC h hl base most • F) := by
  refine iZ func58 ntmps58 ?_
  refine iR (iK O (uZ O (bQ O (Z (jy sF O O) (iJ (Qg O (fun h1 => ?_)))))))
  (try simp only [aA] at h1)
  refine gG (iR (Z (fC (zl := [.pointer none, .pointer none, .pointer none, .slice none 0 0, .slice none 0 0, .int .i64 0, .string .empty, .slice none 0 0, .slice none 0 0, .int .i64 0, .bool false, .int .i64 0, .bool false, .pointer none, .pointer none, .slice none 0 0, .slice none 0 0, .int .i64 0, .string .empty, .slice none 0 0, .slice none 0 0, .int .i64 0, .bool false, .int .i64 0, .bool false, .bool false, .bool false, .int .i64 0, .int .i64 0, .int .i64 0, .int .i64 0, .int .i64 0, .bool false, .int .i64 0, .int .i64 0, .int .i64 0, .bool false, .bool false, .bool false, .slice none 0 0, .bool false, .bool false]) (pl := [(0, 1), (1, 12), (13, 12), (25, 1), (26, 1), (27, 1), (28, 1), (29, 1), (30, 1), (31, 1), (32, 1), (33, 1), (34, 1), (35, 1), (36, 1), (37, 1), (38, 1), (39, 1), (40, 1), (41, 1)]) [_, _, _, _, _, _, _, _, _, _, _, _, _, _, _, _, _, _, _, _, _, _, _, _, _, _, _, _, _, _, _, _, _, _, _, _, _, _, _, _, _, _] aQ zeroValue174 O (fun w => by kernel_rfl) O (.zero (zs := [.pointer none]) O (.zero (zs := [.pointer none, .pointer none, .slice none 0 0, .slice none 0 0, .int .i64 0, .string .empty, .slice none 0 0, .slice none 0 0, .int .i64 0, .bool false, .int .i64 0, .bool false]) O (.zero (zs := [.pointer none, .pointer none, .slice none 0 0, .slice none 0 0, .int .i64 0, .string .empty, .slice none 0 0, .slice none 0 0, .int .i64 0, .bool false, .int .i64 0, .bool false]) O (.zero (zs := [.bool false]) O (.zero (zs := [.bool false]) O (.zero (zs := [.int .i64 0]) O (.zero (zs := [.int .i64 0]) O (.zero (zs := [.int .i64 0]) O (.zero (zs := [.int .i64 0]) O (.zero (zs := [.int .i64 0]) O (.zero (zs := [.bool false]) O (.zero (zs := [.int .i64 0]) O (.zero (zs := [.int .i64 0]) O (.zero (zs := [.int .i64 0]) O (.zero (zs := [.bool false]) O (.zero (zs := [.bool false]) O (.zero (zs := [.bool false]) O (.zero (zs := [.slice none 0 0]) O (.zero (zs := [.bool false]) O (.zero (zs := [.bool false]) O .nil)))))))))))))))))))) O) (kD (jL (l := [_, _, _, _, _, _, _, _, _, _, _, _, _, _, _, _, _, _, _, _, _, _, _, _, _, _, _, _, _, _, _, _, _, _, _, _, _, _, _, _, _, _]) H O O) ?_)))
  rintro _ w1 ⟨b1, rfl, H1⟩
  refine fG O (bQ O (Z (fC (zl := [.slice none 0 0, .int .i64 0]) (pl := [(0, 1), (1, 1)]) [_, _] underlying176 zeroValue176 O (fun w => by kernel_rfl) O (.zero (zs := [.slice none 0 0]) O (.zero (zs := [.int .i64 0]) O .nil)) O) (kD (jL (l := [_, _]) H1 O O) ?_)))
  rintro _ w2 ⟨b2, rfl, H2⟩
  refine dK O (bJ 1 aQ O fO O (bJ 1 dI O sizeOf164 O (aJ (mQ 2 H2.f2 sizeOf164) ?_)))
  rintro _ w3 H3
  refine rG O (bT O (dS O func60 (Ho (l := []) O H3.f2.f3.f3 (fun W _ => gJ.nil W _ none 0 (by decide)) (by decide)) ?_))
  rintro _ w4 ⟨rfl, ph, pb, wv, nv, H4⟩
  refine rG O (iK O (fB O (NR results58 O O ?_)))
  have HR := ((H4.f6.f6.f6.f6.f6.f6.f7).QH (k := .i32)).jk (e := 22) (sz := 1) none
  have HR2 := (V.LJ (E := []) (place := 0) (HR.ab8 (ls := [])).swap)
  have HR3 := ((HR2.SG.Va (sz := 1) none).SH (k := .i64) none)
  have hT := Tc hl
  refine ⟨_, O, V.Wv (s := bn.new hl base most) (h := ph) (pb := pb) (pk := b2) (wv := wv) (nv := nv) (pv := .slice none 0 0) (gv := .slice none 0 0) (ch := false) (u0 := .pointer none) (u1 := .pointer none) (u2 := .slice none 0 0) (u3 := .slice none 0 0) (u4 := .int .i64 0) (u5 := .string .empty) (u6 := .slice none 0 0) (u7 := .slice none 0 0) (u8 := .int .i64 0) (u9 := .bool false) (ua := .int .i64 0) (ub := .bool false) (adQ hl base most) O ?_ ?_⟩
  · show V w0 _ (dW _ (.cells (_ :: _ :: _ :: _ :: _ :: _ :: .string (kL hl (fun _ => none) (hl.length : Int)) :: _).toArray _ (0, 0)) • _)
    rw [hT]
    exact HR3.f10.f10.f5.f5.f5.f10.f10.f8.f10.f10
  · rfl
theorem aaw {es : List fA} {A : List LE} {yf yt : Int} (h : lg s es A yf yt) (hi : s.inn = false) (hl : List sN) (base most : Int) (l : List Int) : lg (s.start hl base most l) es [] yf yt :=
  ⟨Rt h.ok hi _ _ _ _, ⟨⟨fun k => ⟨by show gV [] [] ≤ 16384; decide, by show ∀ g ∈ [], _; simp⟩, h.rx.1.2⟩, fun h2 => absurd (show s.inn = true from h2) (by rw [hi]; decide), fun h2 => absurd (show s.inn = true from h2) (by rw [hi]; decide)⟩, h.says, rfl, ⟨List.nodup_nil, by simp⟩, fun h2 => absurd (show s.inn = true from h2) (by rw [hi]; decide)⟩
theorem Ny (H : V w0 w (qW y s • kC h hl base most • F)) (hr : jF w0 F .i32 v l) : iE prog 60 #[.pointer (some ⟨y, 0, none⟩), .pointer (some ⟨h, 0, none⟩), v] w fun v' w' =>
  v' = .int .i64 (s.ug l) ∧ V w0 w' (qW y (s.BX hl base most l) • kC h hl base most • F) := by
 by_cases hin : s.inn = true
 ·have hE : s.ug l = 1 := by unfold bn.ug; rw [if_pos hin]
  unfold bn.BX
  rw [if_neg (by rw [hE]; decide), hE]
  refine zT func60 ntmps60 ?_
  refine jQ O (aN (bQ O (Z (jy sF O O) (iJ (Qg O (fun h1 => ?_))))))
  (try simp only [aA] at h1)
  refine gG (aN (aN ?_))
  obtain ⟨h_y, MW, MX, MZ, Na, X3, X5, A_y, X6, X7, SN, SQ, SS, Nb, Nc, Nh, Nj, Nk, Nl, Np, Nq, Nr, Ns, Nu, Nv, sD, FZ, yw⟩ := (H).SK
  refine aC (nG O O (bJ 32 aQ O aP O (fM bY O (yw).get.2 O (jB O (fun h2 => ?_) (fun h => by exfalso; (try simp only [aA] at h); simp [hin] at h)))))
  (try simp only [aA] at h2)
  refine jM O (aB (dL results60 O ?_))
  have Xc := yw.f12.f12.f12.f12.f12.f12.f12.f12.f12.f12.f12.f12
  have VG := V.vY (s := s) sD Xc
  exact ⟨O, VG.f2.f2⟩
 ·have hi : s.inn = false := by simpa using hin
  by_cases hlen : 1024 < l.length
  ·have hE : s.ug l = 3 := by unfold bn.ug; rw [if_neg hin, if_pos hlen]
   unfold bn.BX
   rw [if_neg (by rw [hE]; decide), hE]
   refine zT func60 ntmps60 ?_
   refine jQ O (aN (bQ O (Z (jy sF O O) (iJ (Qg O (fun h1 => ?_))))))
   (try simp only [aA] at h1)
   refine gG (aN (aN ?_))
   obtain ⟨h_y, MW, MX, MZ, Na, X3, X5, A_y, X6, X7, SN, SQ, SS, Nb, Nc, Nh, Nj, Nk, Nl, Np, Nq, Nr, Ns, Nu, Nv, sD, FZ, yw⟩ := (H).SK
   refine aC (nG O O (bJ 32 aQ O aP O (fM bY O (yw).get.2 O ?_)))
   have Xc := yw.f12.f12.f12.f12.f12.f12.f12.f12.f12.f12.f12.f12
   have VG := V.vY (s := s) sD Xc
   refine jB O (fun h => by exfalso; (try simp only [aA] at h); simp [hi] at h) (fun h2 => ?_)
   (try simp only [aA] at h2)
   refine gG (bQ O (dS O func112 (Qa VG (fun W HW => hr W HW.right.right) hlen) ?_))
   rintro _ _ ⟨rfl, rfl⟩
   refine bT O (uH O O (uH O O (iK O (uZ O (bQ O (Z (ig O O) (iJ (wcE O (fun h3 => ?_)))))))))
   (try simp only [aA] at h3)
   refine bQ O (fB O (aB (dL results60 O ?_)))
   exact ⟨O, VG.f2.f2⟩
  ·have hE : s.ug l = 0 := by unfold bn.ug; rw [if_neg hin, if_neg hlen]
   unfold bn.BX
   rw [if_pos hE, hE]
   obtain ⟨h0, pb, pk, wv, nv, pv, gv, A, nw, es, yf, yt, ch, u0, u1, u2, u3, u4, u5, u6, u7, u8, u9, ua, ub, ok, pl, H⟩ := H.SK
   have HI := H.f13
   refine (Ho hi (hr := fun W HW => hr W HW.right.right.right.right.right.right.right.right.right.right.right) (l := l) HI.f2 (by omega)).mono fun v' w' h9 => ?_
   obtain ⟨e9, ph, pb', wv', nv', H9⟩ := h9
   refine ⟨e9, ?_⟩
   have pR := H9.f7.right.f8.right.f8.right.f8.right.f8.right.f8.right.f8.right
   have HR3 := ((pR.SG.Va (sz := 1) none).SH (k := .i64) none)
   have HX := HR3.f9.f13.f13.f13.f12.f8.f8.f8.f12.f12.f13.f13.f13
   rw [← Tc hl, show EK s.inn s.hl s.was [u0, u1, u2, u3, u4, u5, u6, u7, u8, u9, ua, ub] = EK s.inn hl s.was [u0, u1, u2, u3, u4, u5, u6, u7, u8, u9, ua, ub] from by rw [hi]; rfl] at HX
   refine V.vY (y := y) (s := s.start hl base most l) (h := ph) (pb := pb') (pk := pk) (wv := wv') (nv := nv') (pv := .slice none 0 0) (gv := .slice none 0 0) (nw := nw) (es := es) (ch := ch) (u0 := u0) (u1 := u1) (u2 := u2) (u3 := u3) (u4 := u4) (u5 := u5) (u6 := u6) (u7 := u7) (u8 := u8) (u9 := u9) (ua := ua) (ub := ub) (aaw ok hi hl base most l) ?_
   rw [show (s.start hl base most l).CX = 0 from if_neg (by show ¬ s.inn = true; simp [hi]), show (s.start hl base most l).Yk = 0 from if_neg (by show ¬ s.inn = true; simp [hi]), show (s.start hl base most l).Yl = 0 from if_neg (by show ¬ s.inn = true; simp [hi])]
   exact HX
end
def xg (l : List Int) : bn := ((((bn.new [] 1 5).BX [] 1 5 l).aV).yD 2).jY 0
section
variable {w0 w : World} {F : HP} {v : Value} {l : List Int}
theorem IG (H : V w0 w F) (hr : jF w0 F .i32 v l) : iE prog 21 #[v] w fun v' w' => ∃ e y, v' = .tuple #[.pointer (some ⟨e, 0, none⟩), .pointer (some ⟨y, 0, none⟩), .bool true] ∧ V w0 w' (eP e (xg l) • qW y (xg l) • F) := by
 refine iZ func21 ntmps21 ?_
 refine iR (iK O (iK O (fG O (iR (dS O func55 (Pj H (by omega)) ?_)))))
 rintro _ w1 ⟨p1, rfl, H1⟩
 refine bT O (uH O O (uH O O (iK O (fG O (iR (dS O func56 (MO H1 (by omega)) ?_))))))
 rintro _ w2 ⟨p2, rfl, H2⟩
 refine bT O (uH O O (uH O O (iK O (uZ O (bQ O (Z (ig O O) (Yh O (fun h1 => ?_))))))))
 (try simp only [aA] at h1)
 refine bg (bT O (bg (Z (ig O O) (iH O O (iJ (Qg O (fun h2 => ?_)))))))
 (try simp only [aA] at h2)
 refine gG (bQ O (dS O func57 (Uy H2.f2) ?_))
 rintro _ w3 ⟨e3, rfl, H3⟩
 refine bT O (uH O O (uH O O (iK O (fG O (bQ O (dS O func58 (Td H3.f3) ?_))))))
 rintro _ w4 ⟨y4, rfl, H4⟩
 refine bT O (uH O O (uH O O (iK O (uZ O (bQ O (Z (ig O O) (Yh O (fun h3 => ?_))))))))
 (try simp only [aA] at h3)
 refine bg (bT O (bg (Z (ig O O) (iH O O (Yh O (fun h4 => ?_))))))
 (try simp only [aA] at h4)
 refine bg (bT O (bg (Z (jy iD O O) (iH O O (iJ (Qg O (fun h5 => ?_)))))))
 (try simp only [aA] at h5)
 refine gG (aN (bQ O (jR O O (dS O func59 (PG H4.f4.f4 (fun W HW => hr _ (HW.right.right))) ?_))))
 rintro _ w5 ⟨rfl, H5⟩
 refine jR O O (bT O (dS O func60 (Ny H5.f4.f4 (fun W HW => hr _ (HW.right.right))) ?_))
 rintro _ w6 ⟨rfl, H6⟩
 refine Z (ig O O) (iJ (Qg O (fun h6 => ?_)))
 (try simp only [aA] at h6)
 refine gG (bQ O (dS O func29 (yO H6.f3) ?_))
 rintro _ w7 ⟨rfl, H7⟩
 refine rG O (dS O func61 (Nw H7.f2) ?_)
 rintro _ w8 ⟨rfl, H8⟩
 refine rG O (dS O func62 (RH H8.f2) ?_)
 rintro _ w9 ⟨rfl, H9⟩
 refine rG O (dS O func63 (Qc H9.f2) ?_)
 rintro _ w10 ⟨rfl, pR⟩
 refine rG O (jR O O (dS O func31 (zM pR.f2) ?_))
 rintro _ Fv ⟨rfl, tq⟩
 refine bT O (dS O func64 (S9 tq.f2) ?_)
 rintro _ w12 ⟨rfl, vZ⟩
 refine Z (dX O O) (iK O (iK O (fB O ?_)))
 refine ji (.inl O) results21 O O O ?_
 exact ⟨_, _, by simp, vZ.f3.right.f3.right.f2⟩
end
def LV : List Int := [102, 111, 111, 32, 98, 97, 114]
theorem II : AU vW := ⟨7, by decide, rfl⟩
theorem abT : nM vW [119] = 0 := DU II (by decide) fun h => absurd ((iF rfl).1 h).2 (by decide)
theorem abU : nM vW [98] = 0 := DU II (by decide) fun h => absurd ((iF rfl).1 h).2 (by decide)
theorem abV : nM vW [102] = 1 := Ry II ((iF rfl).2 ⟨rfl, by decide⟩)
namespace bn
variable (s : bn)
def Vh (M : VM) (keys : List Int) : Int := (s.aV.U6 M keys (max s.aV.count 1)).Oo (s.aV.U5 M keys (max s.aV.count 1))
def Nz (M : VM) (keys : List Int) : bn := (s.aV.U6 M keys (max s.aV.count 1)).Tv (s.aV.U5 M keys (max s.aV.count 1))
end bn
def VM.went (M : VM) (s : bn) (keys : List Int) : VM := if s.Vh M keys = 0 then M.sought s.aV.c.L s.aV.c.pt keys (max s.aV.count 1) else M
theorem aax : xC LV 0 119 0 1 = (4, false, true) := by kernel_rfl
theorem adR : (xg LV).inn = false := by kernel_rfl
theorem aay : (xg LV).Vh VM.new [119] = 6 := by kernel_rfl
theorem adS : VM.went VM.new (xg LV) [119] = VM.new := by unfold VM.went; rw [if_neg (by rw [aay]; decide)]
theorem abW : ((xg LV).Nz VM.new [119]).inn = false := by kernel_rfl
theorem adT : ((xg LV).Nz VM.new [119]).Vh VM.new [98] = 0 := by kernel_rfl
theorem adU : (((xg LV).Nz VM.new [119]).Nz VM.new [98]).c.pt = 4 := by kernel_rfl
theorem X9 : ¬ (zJ vW ∨ rY vW) := by
  unfold zJ rY
  rintro ((h | h | h | h) | (h | h | h | h | h)) <;> exact absurd h (kV (by decide))
theorem abX {M : VM} {keys : List Int} {n x : Int} : M.did vW keys n x = M := FY fun h => X9 h.1
theorem yT (s : bn) : s.aV.count = s.count := by unfold bn.aV; split <;> rfl
section
variable {w0 w : World} {F : HP} {m e : Nat} {s : bn} {keys : List Int} {kv : Value} {M : VM}
theorem Wx (H : V w0 w (oQ m M • eP e s • F)) (hT : Aq w0) (hi : s.inn = false) (hk : jF w0 F .i32 kv keys) (hkl : keys.length * 4 ≤ 140737488355328) (hw : nM vW keys = 0) :
    iE prog 24 #[.pointer (some ⟨m, 0, none⟩), .pointer (some ⟨e, 0, none⟩), .string vW, kv] w fun v w' => v = .int .i64 (s.Vh M keys) ∧ V w0 w' (oQ m (M.went s keys) • eP e (s.Nz M keys) • F) := by
  have hco := Ez s (P7 H.f2)
  refine (P8 H hi hk hkl hw (XU hT ?_)).mono ?_
  · rw [yT]; omega
  · rintro v w' ⟨x, t, M', ⟨rfl, rfl, rfl⟩, rfl, H⟩
    exact ⟨rfl, by unfold VM.went; unfold VM.doM at H; rw [abX] at H; exact H⟩
theorem Ed {s : ByteArray} {l : List Int} (H : V w0 w F) (hl : Conv.runesFrom s s.size 0 #[] = (l.map (Value.int .i32)).toArray) (hb : l.length ≤ 70368744177664) :
    iE prog 34 #[.string s] w fun v w' => V w0 w' (ku 21 .i32 v l • F) := by
  refine iZ func34 ntmps34 ?_
  refine jQ O (bQ O (kD (Qr H jS aj bG O hl hb) ?_))
  rintro u w1 H1
  refine fB O (dL results34 O ?_)
  exact H1
theorem yZ (H : V w0 w F) (hT : Aq w0) : iE prog 13 #[] w fun v w' => v = .bool true ∧ V w0 w' F := by
  refine WM func13 ntmps13 ?_
  refine jQ O (iR (dS O func34 (Ed H (l := LV) (by kernel_rfl) (by decide)) ?_))
  rintro u1 w1 H1
  refine dS O func21 (IG H1 (fun W HW => (HW).aS)) ?_
  rintro _ w2 ⟨e2, y2, rfl, H2⟩
  have Tt := H2.f3.right
  refine bT O (uH O O (uH O O (uH O O (iK O (iK O (fG O (iR (dS O func22 (FU Tt) ?_))))))))
  rintro _ w4 ⟨m4, rfl, H4⟩
  refine uZ O (bQ O (Z (lJ O) (Yh O (fun h1 => ?_))))
  (try simp only [aA] at h1)
  refine bg (bT O (bg (Z (jy iD O O) (iH O O (Yh O (fun h2 => ?_))))))
  (try simp only [aA] at h2)
  refine bg (bT O (bg (Z (jy jJ O O) (iH O O (iJ (Qg O (fun h3 => ?_)))))))
  (try simp only [aA] at h3)
  refine gG (iR (dS O func34 (Ed H4 (l := LV) (by kernel_rfl) (by decide)) ?_))
  rintro u5 w5 H5
  refine dS O func11 (D8 H5 (fun W HW => (HW).aS) hT (by decide) (by decide)) ?_
  rintro _ w6 ⟨rfl, H6⟩
  refine bT O (uH O O (uH O O (uH O O (iK O (iK O (fG O (bQ O (Z (dX O O) (jG O (fun h4 => ?_) (fun h => by exfalso; (try simp only [aA] at h); exact h (by rw [aax])))))))))))
  (try simp only [aA] at h4)
  refine bg (bT O (iU O O (jG O (fun h5 => ?_) (fun h => by exfalso; (try simp only [aA] at h); rw [aax] at h; exact absurd h (by decide)))))
  (try simp only [aA] at h5)
  refine bg (bT O (bg (bT O (bg (kD (uI (k := .i32) (l := [119]) H6 aj bZ sH O O O (by decide)) ?_)))))
  rintro l7 w7 H7
  refine bg (dS O func24 (Wx (s := xg LV) (M := VM.new) (keys := [119]) H7.f4.f4 hT adR (fun W HW => (HW).aS) (by decide) abT) ?_)
  rintro _ w8 ⟨rfl, H8⟩
  have HX := H8
  rw [adS] at HX
  refine bg (Z (dX O O) (iU O O (jG O (fun h6 => ?_) (fun h => by exfalso; (try simp only [aA] at h); exact h aay))))
  (try simp only [aA] at h6)
  refine bg (bT O (bg (bT O (bg (kD (uI (k := .i32) (l := [98]) HX aj bZ sH O O O (by decide)) ?_)))))
  rintro l9 w9 H9
  refine bg (dS O func24 (Wx (s := (xg LV).Nz VM.new [119]) (M := VM.new) (keys := [98]) H9.f3.f3 hT abW (fun W HW => (HW).aS) (by decide) abU) ?_)
  rintro _ w10 ⟨rfl, pR⟩
  refine bg (Z (dX O O) (iU O O (jG O (fun h7 => ?_) (fun h => by exfalso; (try simp only [aA] at h); exact h adT))))
  (try simp only [aA] at h7)
  refine bg (bT O (bg (dS O func28 (qE pR.f2) ?_)))
  rintro _ Fv ⟨u11, rfl, tq⟩
  refine bg (Z (rZ 1 iO O O (dA aH O) O O) (bg (Z (dX O O) (iU O O (jG O (fun h8 => ?_) (fun h => by exfalso; (try simp only [aA] at h); exact h adU))))))
  (try simp only [aA] at h8)
  refine bg (kD (uI (k := .i32) (l := [102]) tq aj bZ sH O O O (by decide)) ?_)
  rintro l12 w12 vZ
  refine bg (dS O func16 (FT vZ (fun W HW => (HW).aS)) ?_)
  rintro _ Qh ⟨rfl, wo⟩
  refine bg ?_
  refine Z (Ef (dX O O) (by exact beq_iff_eq.2 abV)) ?_
  refine iU O O (fB O (dL results13 O ?_))
  exact ⟨O, wo.right.right.right.right.right.right.right.right⟩
end
end Go.Proofs.YtpdeedplgmbopaaGreatDoor
end
section
namespace Go.Proofs.YtpdeedplgmbopaaGreatDoor
open Go.RowKit
section
variable {s : bn} {A : List Int} {a b : Int} {k : Nat}
theorem abY (s : bn) (x : jm) : (s.rC x).argues = s.argues := by unfold bn.rC; split; rfl; split <;> rfl
theorem abZ (s : bn) (i j : Int) (l : List Int) : (s.nR i j l).argues = s.argues := by unfold bn.nR; split; exact abY _ _; rfl
theorem ab0 (s : bn) (i j : Int) (b : Bool) : (s.rE i j b).argues = s.argues := by unfold bn.rE; split <;> rfl
theorem Wy (s : bn) (i j : Int) (b : Bool) : (s.oD i j b).argues = s.argues := by unfold bn.oD; split; exact (abZ _ _ _ _).trans (ab0 _ _ _ _); rfl
theorem zO (u : bn) (h : u.inn = true) (h2 : u.argues = false) : (u.jY 0).given = false := by by_cases hp : u.put = [] <;> by_cases hc : u.cls = 2 <;> simp [bn.jY, bn.jX, bn.jh, bn.fU, bn.ru, bn.nC, bn.jg, bn.here, iL, hp, hc, h, h2]
theorem yU (h : s.inn = false) : s.aV.argues = false := by rw [uX h]
theorem Tf (h : s.inn = false) (hg : s.given = false) : s.aV.count = 1 := by rw [uX h]; unfold bn.count; rw [if_neg (by rw [show ({ s with inn := true, was := s.c, cls := 0, killed := false, kU := false, argues := false, whole := true, put := [] } : bn).given = s.given from rfl, hg]; decide)]
theorem aaz (h : s.inn = true) {i j : Int} {back : Bool} (hi : 0 ≤ i ∧ i ≤ j ∧ j ≤ s.c.L.length) (hL : s.c.L.length ≤ 1024) (hk : (s.rD i j back).1 = 0) : s.EU i j back = 0 := by
  have hc : s.rV i j back = 0 := by
    unfold bn.rV
    rw [if_pos h, if_neg (by unfold bn.qI; omega), hk]
  have hE : nO s.c.L i j [] = 0 := by unfold nO; rw [if_neg (by omega), if_neg (by simp; omega)]
  unfold bn.EU
  rw [if_pos hc]
  have e : s.rE i j back = { s.Gy (s.rD i j back).2.1 (s.rD i j back).2.2 with killed := true, cls := 1 } := by unfold bn.rE; rw [if_pos hc]
  have ei : (s.rE i j back).inn = true := by rw [e]; exact h
  unfold bn.qH
  rw [if_pos ei, show (s.rE i j back).c.L = s.c.L from by rw [e]; rfl, hE]
end
section
variable {L : List Int}
theorem OA {s : bn} {x a : Int} (hi0 : s.inn = false) (hg : s.given = false) (hL : s.c.L = L) (hE : s.c.E = []) (hx : mvE L.length a = 0) (h : 0 ≤ a ∧ a ≤ L.length) : zV ((s.aV.lC a).jY 0) L a a ∧ ((s.aV.lC a).jY 0).given = false ∧ ((s.aV.lC a).jY 0).c.E = [] := by
  have hi := mW s
  have hm : s.aV.lC a = s.aV.jT L a s.aV.c.mark := by
    unfold bn.lC
    rw [if_pos hi, eH, hL]
    unfold Yj; rw [if_pos h]
  rw [hm]
  have hi2 : (s.aV.jT L a s.aV.c.mark).inn = true := hi
  have hE2 : ((s.aV.jT L a s.aV.c.mark).jY 0).c.E = [] := (Ih _ hi2).trans (by show s.aV.c.E = []; rw [eH]; exact hE)
  refine ⟨⟨xJ _ hi2, by omega, (zA _ hi2).trans (by show L = _; rw [List.take_append_drop]), Af _ hi2, .inl ⟨hE2, rfl⟩⟩, zO _ hi2 (yU hi0), hE2⟩
theorem Ti {n : Nat} {a : Int} (h : 0 ≤ a ∧ a ≤ n) : mvE n a = 0 := by unfold mvE; rw [if_pos h]
end
section
variable {s : bn} {A : List Int} {a b n : Int} {keys : List Int}
theorem aaA (s : bn) : s.jT s.c.L s.c.pt s.c.mark = s := rfl
theorem OB (h : s.inn = true) {x : Int} (hx : s.c.pt = x) (hb : 0 ≤ x ∧ x ≤ s.c.L.length) : s.sU x = 0 ∧ s.lC x = s := by
  unfold bn.sU bn.lC
  rw [if_pos h, if_pos h]
  unfold Yj
  rw [if_pos hb]
  subst hx
  exact ⟨Ti hb, aaA s⟩
theorem WA (h : ¬ s.su) : s.D5 = 0 ∧ s.D6 = s := by unfold bn.D5 bn.D6; rw [if_neg h, if_neg h]; exact ⟨rfl, rfl⟩
theorem JI (h : ¬ s.su) (hi : s.inn = true) : s.Oo 0 = 0 ∧ s.Tv 0 = s.jY 0 := by
  unfold bn.Oo bn.Tv
  rw [if_pos rfl, if_pos rfl, (WA h).1, (WA h).2]
  exact ⟨by unfold bn.AO; rw [if_pos hi], rfl⟩
structure VK (A : List Int) (b : Int) (s : bn) : Prop where
  k : zV s A 0 b
  given : s.given = false
theorem acD (hk : keys.getD 0 0 = 120) : s.vdA keys n = s.c.pt ∧ s.vdB keys n = s.c.pt + min n (s.c.L.length - s.c.pt) := by
  unfold bn.vdA bn.vdB; rw [if_neg (by omega), if_neg (by omega)]; exact ⟨rfl, rfl⟩
theorem VK.del (h : zV s A 0 b) (hA : A.length ≤ 1024) (hk : keys.getD 0 0 = 120) (hn : 1 ≤ n) (hb : b < A.length) :
    (s.aV.BF keys n).Oo (s.aV.BD keys n) = 0 ∧ VK A (b + min n (A.length - b)) ((s.aV.BF keys n).Tv (s.aV.BD keys n)) := by
  have hi := mW s
  have hlen := h.len
  have hok := h.ok
  have hpt := h.pt
  obtain ⟨e1, e2⟩ := acD (s := s.aV) (n := n) hk
  rw [eH, hpt] at e1 e2
  rw [hlen] at e2
  obtain ⟨k, hkk⟩ : ∃ k : Int, k = min n (A.length - b) := ⟨_, rfl⟩
  rw [show (0 : Int) + min n ((A.length : Int) - (b - 0) - 0) = k from by omega] at e2
  rw [← hkk]
  have hk1 : 1 ≤ k ∧ k ≤ A.length - b := by omega
  have hin : keys.getD 0 0 ∈ zW ⟨#[120, 88]⟩ := by rw [hk]; decide
  unfold bn.BD bn.BF
  rw [if_pos hin, if_pos hin, e1, e2]
  unfold bn.U7 bn.U8
  have hq := h.fwd hA (k := k) (by omega)
  rw [eH, hpt, Int.zero_add] at hq
  have hcl : ((s.aV.cut 0 k).length : Int) = k := by unfold bn.cut; rw [eH]; simp; omega
  have hkr := (FN h hA (i := 0) (j := k) (back := false) rfl (by omega)).1
  have hE := aaz hi (i := 0) (j := k) (back := false) (by rw [eH]; omega) (by rw [eH]; omega) hkr
  obtain ⟨c1, c2, c3, c4, c5, c6⟩ := Uz (s := s.aV) hi (i := 0) (j := k) (back := false) (by rw [eH]; omega) (by rw [eH]; omega) hkr (by rw [eH, hpt]; omega)
  obtain ⟨m1, m2⟩ := OB (s := s.aV.oD 0 k false) c5 c2 (by omega)
  rw [if_neg (by omega), if_pos hE, if_neg (by omega), if_pos hE, m1, m2]
  have hsl : ¬ (s.aV.oD 0 k false).su := by unfold bn.su; rw [c2]; omega
  obtain ⟨d1, d2⟩ := JI hsl c5
  rw [d1, d2]
  exact ⟨rfl, hq, zO _ c5 ((Wy _ _ _ _).trans (yU h.inn))⟩
theorem IJ (u : bn) (h : u.inn = true) : (u.jY 0).c.mode = u.c.mode := by by_cases ha : u.argues = true <;> by_cases hp : u.put = [] <;> by_cases hc : u.cls = 2 <;> simp [bn.jY, bn.jX, bn.jh, bn.fU, bn.ru, bn.nC, bn.jg, bn.here, iL, ha, hp, hc, h]
theorem aaB (u : bn) (h : u.inn = true) (h2 : u.argues = true) : (u.jY 0).given = u.given ∧ (u.jY 0).arg = u.arg ∧ (u.jY 0).minus = u.minus := by by_cases hp : u.put = [] <;> by_cases hc : u.cls = 2 <;> simp [bn.jY, bn.jX, bn.jh, bn.fU, bn.ru, bn.nC, bn.jg, bn.here, iL, hp, hc, h, h2]
structure Vb (A : List Int) (s : bn) : Prop where
  inn : s.inn = false
  given : s.given = false
  L : s.c.L = A
  E : s.c.E = []
  mode : s.c.mode = 2
theorem ab1 (hA : A.length ≤ 1024) : Vb A (xg A) := by
  unfold xg
  have e : (bn.new [] 1 5).BX [] 1 5 A = (bn.new [] 1 5).start [] 1 5 A := by
    unfold bn.BX; rw [if_pos (by unfold bn.ug; rw [if_neg (by decide), if_neg (by omega)])]
  rw [e]
  generalize hs : (bn.new [] 1 5).start [] 1 5 A = t
  have h1 : t.inn = false := by rw [← hs]; rfl
  have hi := mW t
  have hm : t.aV.uq 2 = 0 := by unfold bn.uq; rw [if_pos hi]; rfl
  have hms : t.aV.yD 2 = { t.aV with c := { t.aV.c with mode := 2 } } := by unfold bn.yD; rw [if_pos hm]
  have hi2 : (t.aV.yD 2).inn = true := by rw [hms]; exact hi
  refine ⟨xJ _ hi2, zO _ hi2 (by rw [hms]; exact yU h1), (zA _ hi2).trans (by rw [hms]; show t.aV.c.L = A; rw [eH, ← hs]; rfl), (Ih _ hi2).trans (by rw [hms]; show t.aV.c.E = []; rw [eH, ← hs]; rfl), ?_⟩
  rw [IJ _ hi2, hms]
theorem LW (M : VM) (l : List Int) (p n : Int) : M.tgt l p [48] n = (0, false, true) ∧ M.sought l p [48] n = M := by
  obtain ⟨e1, e2⟩ := acA (M := M) (l := l) (p := p) (n := n) (keys := [48]) (by decide) (by decide) (by decide)
  refine ⟨e1.trans ?_, e2.trans ?_⟩
  · unfold xC lH; rfl
  · rw [if_neg (fun h => absurd h.2 (by decide))]
theorem Vb.zero (h : Vb A s) (hA : A.length ≤ 1024) (M : VM) : VK A 0 (s.Nz M [48]) ∧ (s.Nz M [48]).c.E = [] ∧ s.Vh M [48] = 0 ∧ M.went s [48] = M := by
  have hi := mW s
  have e0 : s.aV.sU 0 = 0 := by unfold bn.sU; rw [if_pos hi, eH, h.L]; exact Ti (by omega)
  have e1 : s.aV.U5 M [48] (max s.aV.count 1) = 0 := by unfold bn.U5; rw [(LW M _ _ _).1, if_pos rfl]; exact e0
  have e2 : s.aV.U6 M [48] (max s.aV.count 1) = s.aV.lC 0 := by unfold bn.U6; rw [(LW M _ _ _).1, if_pos rfl]
  have hm := OA (s := s) (L := A) (x := 0) (a := 0) h.inn h.given h.L h.E (Ti (by omega)) (by omega)
  have hmi : (s.aV.lC 0).inn = true := by unfold bn.lC; rw [if_pos hi]; exact hi
  have hsl : ¬ (s.aV.lC 0).su := by
    unfold bn.lC; rw [if_pos hi]
    unfold bn.su bn.jT Yj
    rw [if_pos (by rw [eH, h.L]; omega)]
    dsimp only; omega
  have he : s.Vh M [48] = 0 ∧ s.Nz M [48] = (s.aV.lC 0).jY 0 := by unfold bn.Vh bn.Nz; rw [e1, e2]; exact JI hsl hmi
  refine ⟨by rw [he.2]; exact ⟨hm.1, hm.2.1⟩, by rw [he.2]; exact hm.2.2, he.1, ?_⟩
  unfold VM.went; rw [if_pos he.1, (LW M _ _ _).2]
def bn.Vj (s : bn) (n : Int) : bn := (s.aV.FH n).jY (s.aV.Gz n)
theorem VK.arg (h : zV s A a a) (hE : s.c.E = []) (hn : 1 ≤ n ∧ n ≤ 1000000) : s.aV.Gz n = 0 ∧ zV (s.Vj n) A a a ∧ (s.Vj n).aV.count = n ∧ (s.Vj n).c.E = [] ∧ (s.Vj n).c.mode = s.c.mode := by
  have hi := mW s
  have e0 : s.aV.Gz n = 0 := by unfold bn.Gz; rw [if_pos hi, if_neg (by omega)]
  have e1 : s.aV.FH n = { s.aV with given := true, argues := true, minus := decide (n < 0), arg := max n (-n) } := by unfold bn.FH; rw [if_pos e0]
  have hi2 : (s.aV.FH n).inn = true := by rw [e1]; exact hi
  have hc : (s.aV.FH n).c = s.c := by rw [e1]; exact eH s
  obtain ⟨g1, g2, g3⟩ := aaB (s.aV.FH n) hi2 (by rw [e1])
  unfold bn.Vj
  rw [e0]
  have hE2 : ((s.aV.FH n).jY 0).c.E = [] := (Ih _ hi2).trans (by rw [hc]; exact hE)
  refine ⟨rfl, ⟨xJ _ hi2, h.ok, (zA _ hi2).trans (by rw [hc]; exact h.L), (Af _ hi2).trans (by rw [hc]; exact h.pt), .inl ⟨hE2, rfl⟩⟩, ?_, hE2, (IJ _ hi2).trans (by rw [hc])⟩
  rw [yT]
  unfold bn.count
  rw [g1, g2, g3, e1, if_pos rfl]
  dsimp only
  rw [show decide (n < 0) = false from decide_eq_false (by omega), if_neg (by decide), if_neg (by omega)]
  omega
theorem VK.kills (h : zV s A 0 b) (hb : 0 < b) : xE s.c.E s.c.at_ = [A.take b.toNat] := by
  rcases h.ring with ⟨_, h2⟩ | ⟨h1, h2, _⟩
  · omega
  · unfold xE
    rw [h1, h2]
    simp
theorem VK.line (h : zV s A 0 b) : s.c.L = A.drop b.toNat := by rw [h.L]; simp
end
end Go.Proofs.YtpdeedplgmbopaaGreatDoor
end
section
namespace Go.Proofs.YtpdeedplgmbopaaGreatDoor
open Go.RowKit
open _root_.Go.Proofs.Tryz
namespace bn
def Js (a : Int) : Nat → bn → Int × bn
  | 0, s => (s.sU (s.c.pt - 1), s.lC (s.c.pt - 1))
  | k + 1, s => if s.rF = 0 then (if s.jE.c.pt = a then (0, s.jE) else Js a k s.jE) else (s.rF, s.jE)
variable (s : bn)
def Ya (keys : List Int) : Prop := keys.getD 0 0 = 112 ∧ 0 < s.c.L.length
instance (keys : List Int) : Decidable (s.Ya keys) := by unfold Ya; infer_instance
def F5 (keys : List Int) : Int × bn := if s.Ya keys then (s.sU (min (s.c.pt + 1) s.c.L.length), s.lC (min (s.c.pt + 1) s.c.L.length)) else (0, s)
def LX (keys : List Int) (n : Int) : Int × bn := if (s.F5 keys).1 = 0 then Js (s.F5 keys).2.c.pt n.toNat (s.F5 keys).2 else s.F5 keys
end bn
section
variable {w0 w : World} {F : HP} {c m e : Nat} {s t : bn} {name : ByteArray} {kv lv : Value} {n p i j q a : Int} {g : Bool} {keys : List Int} {k : Nat}
theorem LY (h : s.Ya keys) : s.F5 keys = (s.sU (min (s.c.pt + 1) s.c.L.length), s.lC (min (s.c.pt + 1) s.c.L.length)) := if_pos h
theorem F6 (h : ¬ s.Ya keys) : s.F5 keys = (0, s) := if_neg h
theorem aaC (h : (s.F5 keys).1 = 0) : s.LX keys n = bn.Js (s.F5 keys).2.c.pt n.toNat (s.F5 keys).2 := if_pos h
theorem adV (h : ¬ (s.F5 keys).1 = 0) : s.LX keys n = s.F5 keys := if_neg h
theorem aaD : bn.Js a 0 t = (t.sU (t.c.pt - 1), t.lC (t.c.pt - 1)) := rfl
theorem adW (hk : 0 < k) (h : ¬ t.rF = 0) : bn.Js a k t = (t.rF, t.jE) := by
  obtain ⟨k, rfl⟩ : ∃ j, k = j + 1 := ⟨k - 1, by omega⟩
  exact if_neg h
theorem adX (hk : 0 < k) (h : t.rF = 0) (h2 : t.jE.c.pt = a) : bn.Js a k t = (0, t.jE) := by
  obtain ⟨k, rfl⟩ : ∃ j, k = j + 1 := ⟨k - 1, by omega⟩
  exact (if_pos h).trans (if_pos h2)
theorem aaE (h : t.rF = 0) (h2 : ¬ t.jE.c.pt = a) : bn.Js a (k + 1) t = bn.Js a k t.jE := (if_pos h).trans (if_neg h2)
theorem aaF (H : V w0 w (VC c m e name kv n g lv s.c.pt • ku 21 .i32 lv s.c.L • eP e s • F)) (hk : jF w0 F .i32 kv keys) (hk1 : 1 ≤ keys.length) (hn : 1 ≤ n ∧ n ≤ 1000000) :
  iE prog 167 #[.pointer (some ⟨c, 0, none⟩)] w fun v w' => v = .int .i64 (s.LX keys n).1 ∧ V w0 w' (VC c m e name kv n g lv s.c.pt • ku 21 .i32 lv s.c.L • eP e (s.LX keys n).2 • F) := by
 obtain ⟨hln, hpt⟩ := JH H.f3
 refine iZ func167 ntmps167 ?_
 refine jQ O ?_
 refine kT [(0, _)] (fun (_ : Unit) => []) (fun (_ : Unit) W => (s.F5 keys).1 = 0 ∧ V w0 W (eP e (s.F5 keys).2 • VC c m e name kv n g lv s.c.pt • ku 21 .i32 lv s.c.L • F)) lU ?_ ?_
 ·rintro _ w1 ⟨hm0, HJ⟩
  dsimp only [List.cons_append, List.nil_append]
  refine aN ?_
  obtain ⟨t0, ht0⟩ : ∃ t0, t0 = (s.F5 keys).2 := ⟨_, rfl⟩
  have HQ := HJ
  rw [← ht0] at HQ
  have hR := aaC (n := n) hm0
  rw [← ht0] at hR
  refine aC (nG O O (bJ 1 bC O sizeOf37 O (fM iD O (HQ.f2).get.2 O (dS O func28 (qE HQ) ?_))))
  rintro _ w2 ⟨u2, rfl, H2⟩
  refine Z (rZ 1 iO O O (dA aH O) O O) (uZ O (bQ O (dK O (bJ 4 bC O ay O (fM aH O (H2.f3).get.2 O (bT O (iJ (aY ?_))))))))
  refine gW [(0, _), (4, _), (49, _)] (fun (⟨t, j⟩ : bn × Nat) => [(50, .int .i64 (j : Int))]) (fun (⟨t, j⟩ : bn × Nat) W => (j : Int) ≤ n ∧ bn.Js t0.c.pt (n.toNat - j) t = bn.Js t0.c.pt n.toNat t0 ∧ V w0 W (eP e t • VC c m e name kv n g lv s.c.pt • ku 21 .i32 lv s.c.L • F)) (fun (⟨t, j⟩ : bn × Nat) => n.toNat - j) ((t0, 0)) uK lU ⟨by omega, O, H2.right.f3.f3.f3⟩ ?_
  rintro ⟨t, j⟩ w3 ⟨hj, hL, HL⟩
  dsimp only [List.cons_append, List.nil_append]
  refine iR (Z (fZ O O) (qQ (bD O (fun h1 => ?_) (fun h1 => ?_))))
  ·(try simp only [aA] at h1)
   refine gG (aN (aY (aN (bQ O (dK O (bJ 1 bC O sizeOf37 O (fM iD O (HL.f2).get.2 O (dS O func191 (RS HL) ?_))))))))
   rintro _ w4 ⟨rfl, H4⟩
   refine fG O (bQ O (Z (ig O O) (jB O (fun h2 => ?_) (fun h2 => ?_))))
   ·(try simp only [aA] at h2)
    refine bQ O (fB O (aB (aT (aB (aB (aT (aB (dL results167 O ?_))))))))
    have e9 := hR.trans (hL.symm.trans (adW (by omega) (by assumption)))
    exact ⟨by rw [e9], by rw [e9]; exact H4.f3.f3⟩
   ·(try simp only [aA] at h2)
    refine gG (bQ O (dK O (bJ 1 bC O sizeOf37 O (fM iD O (H4.f2).get.2 O (dS O func28 (qE H4) ?_)))))
    rintro _ w5 ⟨u5, rfl, H5⟩
    refine Z (rZ 1 iO O O (dA aH O) O O) (bT O (Z (dX O O) (jB O (fun h3 => ?_) (fun h3 => ?_))))
    ·(try simp only [aA] at h3)
     refine jM O (aT (aB (aB (aT (aB (dL results167 O ?_))))))
     have e9 := hR.trans (hL.symm.trans (adX (by omega) (by omega) (by assumption)))
     exact ⟨by rw [e9], by rw [e9]; exact H5.right.f3.f3⟩
    ·(try simp only [aA] at h3)
     refine cZ (aK (aX (aC (Z (fJ O O (by omega)) (bT O (bW ?_))))))
     refine dV ((t.jE, j + 1)) ?_ ?_ ?_ ?_
     ·exact lU
     ·exact uK
     ·(try dsimp only)
      first | done | exact ⟨by omega, (by rw [← hL, show n.toNat - j = (n.toNat - (j + 1)) + 1 from by omega, aaE (by omega) (by assumption)]), H5.right.f3.f3.f3⟩
     ·(try dsimp only); omega
  ·(try simp only [aA] at h1)
   refine dO (aO (aO (bI (aX (aN ?_)))))
   have hb9 := JH (HL)
   have acE := HL.drew
   have CG := V.kp (acE.right.f2.f2)
   refine yH [3, 7] CG O (iQ 0 O CG O (jU 1 O CG O (gU 2 O CG 1 bC O sizeOf37 O (jO 3 O CG (fun W hW => jV iD O ((Kp.h hW)).get.2 O) (iQ 4 O CG O (jU 5 O CG O (gU 6 O CG 1 bC O sizeOf37 O (jO 7 O CG (fun W hW => jV iD O ((Kp.h hW)).get.2 O) (mZ 8 O (xq O func28 (qE acE)) ?_)))))))))
   rintro _ w6 ⟨u6, rfl, H6⟩
   have BR := V.kp (H6.f4.f4.f4.f4)
   refine eF BR (fun W hW => (Kp.h hW).right.right.f2.f2) ?_
   refine jC 9 O BR (fun _ => rZ 1 iO O O (dA aH O) O O) (jC 10 O BR (fun _ => iV O O (by omega)) (mZ 11 O (xq O func30 (uY H6.f2)) ?_))
   rintro _ w7 ⟨rfl, H7⟩
   have Bd := V.kp (H7.f4.f4.f4.f4)
   refine iG Bd (by kernel_rfl) ?_
   refine jC 12 O Bd (fun _ => dR O) (qV (aX (nI (dL results167 O ?_))))
   have e9 := hR.trans (hL.symm.trans ((congrArg (fun k => bn.Js t0.c.pt k t) (show n.toNat - j = 0 from by omega)).trans aaD))
   exact ⟨by rw [e9], by rw [e9]; exact H7.f2.right.f3.f3⟩
 ·skip
  refine bQ O (dK O (bJ 3 bC O dh O (fM aj O (H).get.2 O ?_)))
  obtain ⟨bkv, okv, ckv, ekv⟩ := gJ.rM (hk _ (H.right.right.right)) (by omega)
  cases ekv
  refine Z (dP aj bZ O O (by omega)) ?_
  refine Z (fK (dA bG O) O (by first | exact gJ.ni (hk _ (H.right.right.right)) (by omega) | exact gJ.yc (hk _ (H.right.right.right)) (by omega) | exact gJ.yx (hk _ (H.right.right.right)) (by omega))) ?_
  refine Z (dX O O) (jG O (fun h4 => ?_) (fun h4 => ?_))
  ·(try simp only [aA] at h4)
   refine bg (bT O (bg (dK O (bg (bJ 6 bC O dh O (bg (fM aj O (H).get.2 O (bg (Z (iM ((H.f2).aS) aj O) (bg (Z (dY O O) (iU O O (jB O (fun h5 => ?_) (fun h5 => ?_))))))))))))))
   ·(try simp only [aA] at h5)
    refine aN ?_
    have hp : s.Ya keys := ⟨by assumption, by omega⟩
    have hmy := LY hp
    have adY := H.drew
    have yF := V.kp (adY.f3.f3.f3)
    refine yH [3, 7, 12] yF O (iQ 0 O yF O (jU 1 O yF O (gU 2 O yF 1 bC O sizeOf37 O (jO 3 O yF (fun W hW => jV iD O ((Kp.h hW)).get.2 O) (iQ 4 O yF O (jU 5 O yF O (gU 6 O yF 7 bC O ay O (jO 7 O yF (fun W hW => jV aH O ((Kp.h hW)).get.2 O) (jC 8 O yF (fun _ => fJ O O (by omega)) (iQ 9 O yF O (jU 10 O yF O (gU 11 O yF 6 bC O dh O (jO 12 O yF (fun W hW => jV aj O ((Kp.h hW)).get.2 O) (jC 13 O yF (fun _ => iM ((adY.f2).aS) aj O) (jC 14 O yF (fun _ => zZ O O) (mZ 15 O (xq O func30 (uY adY.f3)) ?_))))))))))))))))
    rintro _ w8 ⟨rfl, H8⟩
    have Ie := V.kp (H8.f3.f3.f3)
    refine iG Ie (by kernel_rfl) ?_
    refine jC 16 O Ie (fun _ => dR O) (qV (aX (bQ O (Z (ig O O) (jB O (fun h6 => ?_) (fun h6 => ?_))))))
    ·(try simp only [aA] at h6)
     have hm9 : ¬ s.sU (min (s.c.pt + 1) s.c.L.length) = 0 := h6
     refine bQ O (fB O (aB (dL results167 O ?_)))
     have e9 := (adV (n := n) (s := s) (keys := keys) (by rw [hmy]; exact hm9)).trans hmy
     exact ⟨by rw [e9], by rw [e9]; exact H8.f3.f3⟩
    ·(try simp only [aA] at h6)
     have hm9 : s.sU (min (s.c.pt + 1) s.c.L.length) = 0 := by have h9 := h6; omega
     refine cZ ?_
     refine dw (()) ?_ ?_ ?_
     ·exact (Sub.nil _)
     ·exact lU
     ·(try dsimp only)
      first | done | exact (by first | (rw [LY ⟨by assumption, by omega⟩]; exact ⟨hm9, H8.f3.f3.f3⟩) | (rw [F6 (fun hc => absurd hc.1 (by assumption))]; exact ⟨rfl, H8.f3.f3.f3⟩) | (rw [F6 (fun hc => by have h8 := hc.2; omega)]; exact ⟨rfl, H8.f3.f3.f3⟩))
   ·(try simp only [aA] at h5)
    refine cZ ?_
    refine dw (()) ?_ ?_ ?_
    ·exact (Sub.nil _)
    ·exact lU
    ·(try dsimp only)
     first | done | exact (by first | (rw [LY ⟨by assumption, by omega⟩]; exact ⟨hm9, H.f2.f2.f3⟩) | (rw [F6 (fun hc => absurd hc.1 (by assumption))]; exact ⟨rfl, H.f2.f2.f3⟩) | (rw [F6 (fun hc => by have h8 := hc.2; omega)]; exact ⟨rfl, H.f2.f2.f3⟩))
  ·(try simp only [aA] at h4)
   refine bF (bF (bF (bF (bF (bF (iH O O (iJ (qo (cZ ?_)))))))))
   refine dw (()) ?_ ?_ ?_
   ·exact (Sub.nil _)
   ·exact lU
   ·(try dsimp only)
    first | done | exact (by first | (rw [LY ⟨by assumption, by omega⟩]; exact ⟨hm9, H.f2.f2.f3⟩) | (rw [F6 (fun hc => absurd hc.1 (by assumption))]; exact ⟨rfl, H.f2.f2.f3⟩) | (rw [F6 (fun hc => by have h8 := hc.2; omega)]; exact ⟨rfl, H.f2.f2.f3⟩))
end
end Go.Proofs.YtpdeedplgmbopaaGreatDoor
end
section
namespace Go.Proofs.YtpdeedplgmbopaaGreatDoor
open Go.RowKit
section
variable {s u : bn} {A : List Int} {a b n : Int} {keys : List Int}
theorem aaG (hi : u.inn = true) (hE : u.c.E.length ≠ 0) (ha : 0 ≤ a ∧ a < b ∧ b ≤ A.length) (hA : A.length ≤ 1024) (hL : u.c.L = A.take a.toNat ++ A.drop b.toNat) (hp : u.c.pt = a) (htop : u.top = (A.drop a.toNat).take (b.toNat - a.toNat)) :
    u.rF = 0 ∧ u.jE.c.L = A ∧ u.jE.c.pt = b ∧ u.jE.inn = true := by
  have hlen : (u.c.L.length : Int) = A.length - (b - a) := by rw [hL]; simp; omega
  have htl : u.top.length = b.toNat - a.toNat := by rw [htop]; simp; omega
  have hE : nO u.c.L a a u.top = 0 := by unfold nO; rw [if_neg (by omega), if_neg (by omega)]
  have hy : u.rF = 0 := by
    unfold bn.rF bn.Pm bn.qH
    rw [if_pos hi, if_neg (by assumption), if_pos hi, hp, hE]
  have hta : (A.take a.toNat).length = a.toNat := by simp; omega
  have e0 : u.c.L.drop a.toNat = A.drop b.toNat := by rw [hL]; exact List.drop_left' hta
  have e9 : u.c.L.take a.toNat = A.take a.toNat := by rw [hL]; exact List.take_left' hta
  obtain ⟨r1, r2, r3, r4, r5, r6, r7, r8⟩ := PI hi a a u.top
  rw [hp] at r2
  have hI : u.wz u.top = u.nR a a u.top := by unfold bn.wz; rw [hp]
  have hL2 : qX u.c.L a a u.top = A := by
    unfold qX; rw [if_pos hE, e0, e9, htop]
    rw [show A.drop b.toNat = (A.drop a.toNat).drop (b.toNat - a.toNat) from by rw [List.drop_drop]; congr 1; omega, List.append_assoc, List.take_append_drop, List.take_append_drop]
  have hP2 : qY u.c.L a a a u.top = b := by
    unfold qY fE; rw [if_pos hE]
    split <;> (try split) <;> omega
  have eY : u.jE = (let t := u.wz u.top; { t with kU := true, cls := 2, c := { t.c with mark := smM t.c.L t.c.mark u.c.pt, fr := u.c.pt, to := u.c.pt + u.top.length } }) := by
    unfold bn.jE; rw [if_pos hy]
  refine ⟨hy, ?_, ?_, ?_⟩
  · rw [eY]; show (u.wz u.top).c.L = A; rw [hI]; exact r1.trans hL2
  · rw [eY]; show (u.wz u.top).c.pt = b; rw [hI]; exact r2.trans hP2
  · rw [eY]; show (u.wz u.top).inn = true; rw [hI]; exact r6
theorem Hr (hi : s.inn = true) {x : Int} (h : 0 ≤ x ∧ x ≤ s.c.L.length) : s.sU x = 0 ∧ s.lC x = s.jT s.c.L x s.c.mark := by
  unfold bn.sU bn.lC
  rw [if_pos hi, if_pos hi]
  unfold Yj
  rw [if_pos h]
  exact ⟨Ti h, rfl⟩
theorem Vk (s : bn) (x : jm) : (s.rC x).c.mode = s.c.mode := by unfold bn.rC; split; rfl; split <;> rfl
theorem Vl (s : bn) (i j : Int) (l : List Int) : (s.nR i j l).c.mode = s.c.mode := by unfold bn.nR; split; exact Vk _ _; rfl
theorem Vm (s : bn) (i j : Int) (b : Bool) : (s.rE i j b).c.mode = s.c.mode := by unfold bn.rE; split <;> rfl
theorem Vo (s : bn) (i j : Int) (b : Bool) : (s.oD i j b).c.mode = s.c.mode := by unfold bn.oD; split; exact (Vl _ _ _ _).trans (Vm _ _ _ _); rfl
structure VP (A : List Int) (a b : Int) (s : bn) : Prop where
  inn : s.inn = false
  given : s.given = false
  ab : 0 ≤ a ∧ a < b ∧ b ≤ A.length
  L : s.c.L = A.take a.toNat ++ A.drop b.toNat
  pt : s.c.pt = if b = A.length ∧ 0 < a then a - 1 else a
  E : s.c.E = [(A.drop a.toNat).take (b.toNat - a.toNat)]
  yc : s.c.at_ = 0
theorem VP.del (h : zV s A a a) (hE0 : s.c.E = []) (hm : s.c.mode = 2) (hA : A.length ≤ 1024) (hk : keys.getD 0 0 = 120) (hn : 1 ≤ n) (ha : a < A.length) :
    (s.aV.BF keys n).Oo (s.aV.BD keys n) = 0 ∧ VP A a (a + min n (A.length - a)) ((s.aV.BF keys n).Tv (s.aV.BD keys n)) := by
  have hi := mW s
  have hlen := h.len
  have hok := h.ok
  have hpt := h.pt
  obtain ⟨e1, e2⟩ := acD (s := s.aV) (n := n) hk
  rw [eH, hpt] at e1 e2
  rw [show (s.c.L.length : Int) = A.length from by omega] at e2
  obtain ⟨k, hkk⟩ : ∃ k : Int, k = min n (A.length - a) := ⟨_, rfl⟩
  rw [← hkk] at e2
  rw [← hkk]
  have hk1 : 1 ≤ k ∧ k ≤ A.length - a := by omega
  have hLA : s.c.L = A := by rw [h.L, List.take_append_drop]
  have hin : keys.getD 0 0 ∈ zW ⟨#[120, 88]⟩ := by rw [hk]; decide
  have hcut : s.aV.cut a (a + k) = (A.drop a.toNat).take k.toNat := by unfold bn.cut; rw [eH, hLA]; congr 1; omega
  obtain ⟨hkr, hkl⟩ := FN h hA (i := a) (j := a + k) (back := false) hcut (by simp; omega)
  have hE := aaz hi (i := a) (j := a + k) (back := false) (by rw [eH, hLA]; omega) (by rw [eH, hLA]; omega) hkr
  obtain ⟨c1, c2, c3, c4, c5, c6⟩ := Uz (s := s.aV) hi (i := a) (j := a + k) (back := false) (by rw [eH, hLA]; omega) (by rw [eH, hLA]; omega) hkr (by rw [eH, hpt]; omega)
  rw [eH, hLA] at c1
  have c7 : (s.aV.oD a (a + k) false).c.E = [(A.drop a.toNat).take k.toNat] ∧ (s.aV.oD a (a + k) false).c.at_ = 0 := by
    rw [c3, c4]
    rcases hkl with ⟨_, q, _⟩ | ⟨q1, q2⟩
    · have := congrArg List.length q
      simp at this; omega
    · rw [q1]; exact ⟨by simp, q2⟩
  have c8 : (s.aV.oD a (a + k) false).c.mode = 2 := by rw [Vo, eH, hm]
  have c9 : (s.aV.oD a (a + k) false).argues = false := (Wy _ _ _ _).trans (yU h.inn)
  have hvd : s.aV.BD keys n = 0 ∧ s.aV.BF keys n = s.aV.oD a (a + k) false := by
    unfold bn.BD bn.BF
    rw [if_pos hin, if_pos hin, e1, e2]
    unfold bn.U7 bn.U8
    have Ym : ((s.aV.oD a (a + k) false).c.L.length : Int) = A.length - k := by rw [c1]; simp; omega
    obtain ⟨m1, m2⟩ := OB (s := s.aV.oD a (a + k) false) c5 c2 (by omega)
    rw [if_neg (by omega), if_pos hE, if_neg (by omega), if_pos hE, m1, m2]
    exact ⟨rfl, rfl⟩
  rw [hvd.1, hvd.2]
  obtain ⟨u, hu⟩ : ∃ u, u = s.aV.oD a (a + k) false := ⟨_, rfl⟩
  rw [← hu] at c1 c2 c5 c7 c8 c9 ⊢
  have Ym : (u.c.L.length : Int) = A.length - k := by rw [c1]; simp; omega
  have hbk : (a + k).toNat - a.toNat = k.toNat := by omega
  by_cases hs : u.su
  · have hs2 := hs
    unfold bn.su at hs2
    rw [c2] at hs2
    obtain ⟨m1, m2⟩ := Hr (s := u) c5 (x := (u.c.L.length : Int) - 1) (by omega)
    have hsE : u.D5 = 0 := by unfold bn.D5; rw [if_pos hs, m1]
    have hsS : u.D6 = u.jT u.c.L ((u.c.L.length : Int) - 1) u.c.mark := by unfold bn.D6; rw [if_pos hs, m2]
    have hiv : (u.jT u.c.L ((u.c.L.length : Int) - 1) u.c.mark).inn = true := c5
    unfold bn.Oo bn.Tv
    rw [if_pos rfl, if_pos rfl, hsE, hsS]
    refine ⟨by unfold bn.AO; rw [if_pos hiv], ⟨xJ _ hiv, zO _ hiv c9, by omega, (zA _ hiv).trans c1, (Af _ hiv).trans ?_, (Ih _ hiv).trans (by rw [hbk]; exact c7.1), (Pn _ hiv).trans c7.2⟩⟩
    rw [if_pos (by omega)]
    show (u.c.L.length : Int) - 1 = a - 1
    omega
  · obtain ⟨d1, d2⟩ := JI hs c5
    rw [d1, d2]
    refine ⟨rfl, ⟨xJ _ c5, zO _ c5 c9, by omega, (zA _ c5).trans c1, (Af _ c5).trans ?_, (Ih _ c5).trans (by rw [hbk]; exact c7.1), (Pn _ c5).trans c7.2⟩⟩
    unfold bn.su at hs
    rw [c2] at hs
    rw [c2, if_neg (by omega)]
theorem VP.put (h : VP A a b s) (hA : A.length ≤ 1024) (hk : keys.getD 0 0 = if b = A.length ∧ 0 < a then 112 else 80) : (s.aV.LX keys 1).2.Oo (s.aV.LX keys 1).1 = 0 ∧ ((s.aV.LX keys 1).2.Tv (s.aV.LX keys 1).1).c.L = A := by
  have hi := mW s
  have hab := h.ab
  have hlen : (s.c.L.length : Int) = A.length - (b - a) := by rw [h.L]; simp; omega
  obtain ⟨u, m, hu, h1, h2⟩ : ∃ u : bn, ∃ m : Int, s.aV.F5 keys = (0, u) ∧ u = s.aV.jT s.c.L a m ∧ u.inn = true := by
    by_cases hb : b = A.length ∧ 0 < a
    · rw [if_pos hb] at hk
      have hp := h.pt
      rw [if_pos hb] at hp
      obtain ⟨m1, m2⟩ := Hr (s := s.aV) hi (x := min (s.aV.c.pt + 1) s.aV.c.L.length) (by rw [eH]; omega)
      refine ⟨_, s.c.mark, (LY ⟨hk, by rw [eH]; omega⟩).trans (Prod.ext m1 rfl), ?_, ?_⟩
      · show s.aV.lC _ = _
        rw [m2, eH, show min (s.c.pt + 1) (s.c.L.length : Int) = a from by omega]
      · show (s.aV.lC _).inn = true
        rw [m2]; exact hi
    · rw [if_neg hb] at hk
      have hp := h.pt
      rw [if_neg hb] at hp
      refine ⟨s.aV, s.c.mark, F6 (fun hc => by have := hc.1; omega), ?_, hi⟩
      have hx : s.aV.jT s.aV.c.L s.aV.c.pt s.aV.c.mark = s.aV := rfl
      rw [eH, hp] at hx
      exact hx.symm
  have hE : u.c.E = [(A.drop a.toNat).take (b.toNat - a.toNat)] ∧ u.c.at_ = 0 ∧ u.c.L = s.c.L ∧ u.c.pt = a := by
    rw [h1]
    refine ⟨?_, ?_, rfl, rfl⟩
    · show s.aV.c.E = _; rw [eH, h.E]
    · show s.aV.c.at_ = _; rw [eH, h.yc]
  have htop : u.top = (A.drop a.toNat).take (b.toNat - a.toNat) := by unfold bn.top; rw [hE.1, hE.2.1]; rfl
  obtain ⟨y1, y2, y3, y4⟩ := aaG h2 (by rw [hE.1]; simp) hab hA (by rw [hE.2.2.1, h.L]) hE.2.2.2 htop
  have hR : s.aV.LX keys 1 = (u.jE.sU (b - 1), u.jE.lC (b - 1)) := by
    rw [aaC (by rw [hu])]
    rw [hu]
    show bn.Js u.c.pt 1 u = _
    rw [aaE (k := 0) y1 (by rw [y3, hE.2.2.2]; omega), aaD, y3]
  obtain ⟨m1, m2⟩ := Hr (s := u.jE) y4 (x := b - 1) (by rw [y2]; omega)
  rw [hR]
  show (u.jE.lC (b - 1)).Oo (u.jE.sU (b - 1)) = 0 ∧ ((u.jE.lC (b - 1)).Tv (u.jE.sU (b - 1))).c.L = A
  rw [m1, m2]
  have hiv : (u.jE.jT u.jE.c.L (b - 1) u.jE.c.mark).inn = true := y4
  have hns : ¬ (u.jE.jT u.jE.c.L (b - 1) u.jE.c.mark).su := by
    unfold bn.su
    show ¬ (_ ∧ 0 < u.jE.c.L.length ∧ b - 1 = u.jE.c.L.length)
    rw [y2]; omega
  obtain ⟨d1, d2⟩ := JI hns hiv
  rw [d1, d2]
  exact ⟨rfl, (zA _ hiv).trans y2⟩
end
end Go.Proofs.YtpdeedplgmbopaaGreatDoor
end
