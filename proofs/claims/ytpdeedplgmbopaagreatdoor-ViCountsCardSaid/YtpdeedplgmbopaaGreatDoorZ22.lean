import Derived.Test.YtpdeedplgmbopaaGreatDoorZ4
import Derived.Test.YtpdeedplgmbopaaGreatDoorZ21
import Derived.Test.YtpdeedplgmbopaaGreatDoorZ20
import Derived.Test.YtpdeedplgmbopaaGreatDoorZ11
import Derived.Test.YtpdeedplgmbopaaGreatDoorZ16
import Derived.Test.YtpdeedplgmbopaaGreatDoorZ14
import Derived.Test.YtpdeedplgmbopaaGreatDoorZ19
import Derived.Test.YtpdeedplgmbopaaGreatDoorZ5
import Derived.Lib.RuneBytes
import Derived.Test.YtpdeedplgmbopaaGreatDoorZ12
import GoSem.PinnedTables
import Derived.Laws.IdiomStrings
import Derived.Test.YtpdeedplgmbopaaGreatDoorZ17
import Derived.Test.YtpdeedplgmbopaaGreatDoorZ15
import Derived.Laws.StructEq
import Derived.Test.YtpdeedplgmbopaaGreatDoorZ9
set_option linter.unusedSimpArgs false
set_option linter.unusedVariables false
/- Texts of mine, joined, their names in short: REdN VBoth VLive VKillM REdK REdU REdV UtfM Utf Utf2 Utf3 Utf4 Utf5 StrB EdG EdGo REdG REdS REdS2 REdS3 ESame ESame2 EStM EIs EIs2. -/
section
namespace Go.Proofs.YtpdeedplgmbopaaGreatDoor
open Go.RowKit
open _root_.Go.Proofs.Tryz
theorem SI (hl : List qN) : jC hl (fun _ => none) (hl.length : Int) = .empty := by
  unfold jC zS QH
  rw [if_neg (by omega)]; rfl
section
variable {w0 w : World} {F : HP} {y h : Nat} {s : bC} {hl : List qN} {base most : Int} {l : List Int} {v : Value}
set_option maxHeartbeats 1000000 in
theorem Hf {x0 x1 x2 x3 x4 x5 x6 x7 x8 x9 x10 x11 x12 xY x14 x15 x16 x17 x18 x19 x20 x21 yT x23 x24 x25 zf x27 x28 x29 x30 x31 zO x34 Qi Qj Qk x38 x39 x40 x41 : Value} {b : Bool} (hb : b = false) (H : V w0 w (dW y (.cells (x0 :: x1 :: x2 :: x3 :: x4 :: x5 :: x6 :: x7 :: x8 :: x9 :: x10 :: x11 :: x12 :: xY :: x14 :: x15 :: x16 :: x17 :: x18 :: x19 :: x20 :: x21 :: yT :: x23 :: x24 :: x25 :: zf :: x27 :: x28 :: x29 :: x30 :: x31 :: .bool b :: zO :: x34 :: Qi :: Qj :: Qk :: x38 :: x39 :: x40 :: x41 :: []).toArray 174 (0, 0)) • jX h hl base most • F)) (hr : jE w0 F .i32 v l) (hshort : l.length ≤ 1024) : iI prog 60 #[.pointer (some ⟨y, 0, none⟩), .pointer (some ⟨h, 0, none⟩), v] w fun v' w' => v' = .int .i64 0 ∧ ∃ ph pb wv nv,
    V w0 w' (dW y (.cells (.pointer (some ⟨ph, 0, none⟩) :: .pointer (some ⟨pb, 0, none⟩) :: x2 :: wv :: nv :: .int .i64 hl.length :: .string .empty :: .slice none 0 0 :: .slice none 0 0 :: x9 :: .bool false :: .int .i64 0 :: .bool false :: xY :: x14 :: x15 :: x16 :: x17 :: x18 :: x19 :: x20 :: x21 :: yT :: x23 :: x24 :: .bool false :: .bool false :: .int .i64 (-1) :: .int .i64 0 :: .int .i64 0 :: .int .i64 0 :: x31 :: .bool b :: zO :: x34 :: Qi :: Qj :: Qk :: x38 :: x39 :: x40 :: x41 :: []).toArray 174 (0, 0)) •
      pV pb l l.length (-1) • xM 1 wv (hl.length + 1) (strs (pK hl)) • Row 9 1 nv (hl.length + 1) (strs (xJ hl (fun _ => none))) • jX ph hl base most • jX h hl base most • F) := by
  refine AB func60 ntmps60 ?_
  refine jR O (aO (bT O (Z (iR rX O O) (iL (PZ O (fun h1 => ?_))))))
  (try simp only [aA] at h1)
  refine gQ (aO (bT O (dL O (bJ 32 aS O aP O (fV bZ O (H).get.2 O (jL O (fun h => by exfalso; (try simp only [aA] at h); simp [hb] at h) (fun h2 => ?_)))))))
  (try simp only [aA] at h2)
  refine gQ (bT O (dS O func112 (Sm H (fun W HW => hr _ (HW.right.right)) hshort) ?_))
  rintro _ w1 ⟨p1, rfl, H1⟩
  refine bP O (uf O O (uf O O (iJ O (vY O (bT O (Z (iM O O) (iL (PZ O (fun h3 => ?_)))))))))
  (try simp only [aA] at h3)
  refine gQ (bT O (bP O (dS O func113 (Js H1.f3) ?_)))
  rintro _ w2 ⟨q2, rfl, H2⟩
  refine dL O (bJ 0 aS O sizeOf104 O (aI (mP 0 H2.f4 sizeOf104) ?_))
  rintro _ w3 H3
  refine rZ O (nK O O (bJ 1 aS O fH O (bJ 0 dI O sizeOf163 O (aI (mP 1 H3 sizeOf163) ?_))))
  rintro _ w4 H4
  refine rZ O (nK O O (bJ 0 aS O sizeOf104 O (fV rX O (H4).get.2 O (dS O func114 (ML H4.f2) ?_))))
  rintro _ w5 ⟨q5, ov5, nv5, rfl, H5⟩
  refine dL O (Z (dM iG O pq O O (H5).get.2) (dL O (bJ 1 aS O fH O (bJ 2 dI O pq O (aI (dw 3 (l' := [_, _, _, _, _, _, _, _, _, _, _, _, _, _, _, _, _, _, _, _, _, _, _, _, _, _, _, _, _, _, _, _, _, _, _, _, _, _, _, _, _, _]) (us := [_, _, _]) H5.f5 pq O O O (aX (by first | rfl | exact Rd.one ((H5.f2).aQ)) (aX (by first | rfl | exact Rd.one ((H5.f3).aQ)) (aG bQ))) O O) ?_)))))
  rintro _ w6 H6
  refine rZ O (dL O (bJ 1 aS O fH O (bJ 5 dI O oK O (aI (mP 6 H6 oK) ?_))))
  rintro _ w7 H7
  refine rZ O (Z (eP (zl := [.slice none 0 0, .slice none 0 0]) (pl := [(0, 1), (1, 1)]) [_, _] kL zeroValue170 O (fun w => by kernel_rfl) O (.zero (zs := [.slice none 0 0]) O (.zero (zs := [.slice none 0 0]) O .nil)) O) (dL O (bJ 1 aS O fH O (bJ 6 dI O sizeOf170 O (aI (dw 7 (l' := [_, _, _, _, _, _, _, _, _, _, _, _, _, _, _, _, _, _, _, _, _, _, _, _, _, _, _, _, _, _, _, _, _, _, _, _, _, _, _, _, _, _]) (us := [_, _]) H7 sizeOf170 O O O (aG (aG bQ)) O O) ?_)))))
  rintro _ w8 H8
  refine rZ O (jO O O (dL O (bJ 1 aS O fH O (bJ 9 dI O aP O (aI (mP 10 H8 aP) ?_)))))
  rintro _ w9 H9
  refine dL O (bJ 1 aS O fH O (bJ 10 dI O ay O (aI (mP 11 H9 ay) ?_)))
  rintro _ w10 pW
  refine dL O (bJ 1 aS O fH O (bJ 11 dI O aP O (aI (mP 12 pW aP) ?_)))
  rintro _ FX sW
  refine rZ O (jO O O (dL O (bJ 25 aS O aP O (aI (mP 25 sW aP) ?_))))
  rintro _ w12 wL
  refine dL O (bJ 26 aS O aP O (aI (mP 26 wL aP) ?_))
  rintro _ Qs xZ
  refine dL O (bJ 27 aS O ay O (aI (mP 27 xZ ay) ?_))
  rintro _ P6 Az
  refine rZ O (jO O O (dL O (bJ 28 aS O ay O (aI (mP 28 Az ay) ?_))))
  rintro _ Qu zI
  refine dL O (bJ 29 aS O ay O (aI (mP 29 zI ay) ?_))
  rintro _ w16 uY
  refine dL O (bJ 30 aS O ay O (aI (mP 30 uY ay) ?_))
  rintro _ Yr EH
  refine iL (jP O (dK results60 O ?_))
  have HQ := (EH.f2.right.f5.f5.f5.f6.f5.f6).IE
  rw [Es, ← LJ] at HQ
  exact ⟨O, _, _, _, _, by rw [← LJ]; exact HQ.f2.f3.f2⟩
theorem adv (hl : List qN) (base most : Int) : iH (bC.new hl base most) [] [] 0 0 :=
  ⟨Pm hl base most, ⟨⟨fun k => ⟨by show gG [] [] ≤ 16384; decide, by show ∀ g ∈ [], _; simp⟩, by show (0 : Nat) ≤ 60; decide, .inr rfl, by show ∀ e ∈ [], _; simp⟩, fun hi => absurd hi (by show ¬ false = true; decide), fun hi => absurd hi (by show ¬ false = true; decide)⟩, rfl, rfl, ⟨List.nodup_nil, by simp⟩, fun hi => absurd hi (by show ¬ false = true; decide)⟩
theorem SK (H : V w0 w (jX h hl base most • F)) : iI prog 58 #[.pointer (some ⟨h, 0, none⟩)] w fun v' w' => ∃ y, v' = .tuple #[.pointer (some ⟨y, 0, none⟩), .int .i64 0] ∧ V w0 w' (qU y (bC.new hl base most) • jX h hl base most • F) := by
  refine jr func58 ntmps58 ?_
  refine iV (iJ O (vY O (bT O (Z (iR rX O O) (iL (PZ O (fun h1 => ?_)))))))
  (try simp only [aA] at h1)
  refine gQ (iV (Z (eP (zl := [.pointer none, .pointer none, .pointer none, .slice none 0 0, .slice none 0 0, .int .i64 0, .string .empty, .slice none 0 0, .slice none 0 0, .int .i64 0, .bool false, .int .i64 0, .bool false, .pointer none, .pointer none, .slice none 0 0, .slice none 0 0, .int .i64 0, .string .empty, .slice none 0 0, .slice none 0 0, .int .i64 0, .bool false, .int .i64 0, .bool false, .bool false, .bool false, .int .i64 0, .int .i64 0, .int .i64 0, .int .i64 0, .int .i64 0, .bool false, .int .i64 0, .int .i64 0, .int .i64 0, .bool false, .bool false, .bool false, .slice none 0 0, .bool false, .bool false]) (pl := [(0, 1), (1, 12), (13, 12), (25, 1), (26, 1), (27, 1), (28, 1), (29, 1), (30, 1), (31, 1), (32, 1), (33, 1), (34, 1), (35, 1), (36, 1), (37, 1), (38, 1), (39, 1), (40, 1), (41, 1)]) [_, _, _, _, _, _, _, _, _, _, _, _, _, _, _, _, _, _, _, _, _, _, _, _, _, _, _, _, _, _, _, _, _, _, _, _, _, _, _, _, _, _] aS zeroValue174 O (fun w => by kernel_rfl) O (.zero (zs := [.pointer none]) O (.zero (zs := [.pointer none, .pointer none, .slice none 0 0, .slice none 0 0, .int .i64 0, .string .empty, .slice none 0 0, .slice none 0 0, .int .i64 0, .bool false, .int .i64 0, .bool false]) O (.zero (zs := [.pointer none, .pointer none, .slice none 0 0, .slice none 0 0, .int .i64 0, .string .empty, .slice none 0 0, .slice none 0 0, .int .i64 0, .bool false, .int .i64 0, .bool false]) O (.zero (zs := [.bool false]) O (.zero (zs := [.bool false]) O (.zero (zs := [.int .i64 0]) O (.zero (zs := [.int .i64 0]) O (.zero (zs := [.int .i64 0]) O (.zero (zs := [.int .i64 0]) O (.zero (zs := [.int .i64 0]) O (.zero (zs := [.bool false]) O (.zero (zs := [.int .i64 0]) O (.zero (zs := [.int .i64 0]) O (.zero (zs := [.int .i64 0]) O (.zero (zs := [.bool false]) O (.zero (zs := [.bool false]) O (.zero (zs := [.bool false]) O (.zero (zs := [.slice none 0 0]) O (.zero (zs := [.bool false]) O (.zero (zs := [.bool false]) O .nil)))))))))))))))))))) O) (jV (jH (l := [_, _, _, _, _, _, _, _, _, _, _, _, _, _, _, _, _, _, _, _, _, _, _, _, _, _, _, _, _, _, _, _, _, _, _, _, _, _, _, _, _, _]) H O O) ?_)))
  rintro _ w1 ⟨b1, rfl, H1⟩
  refine fP O (bT O (Z (eP (zl := [.slice none 0 0, .int .i64 0]) (pl := [(0, 1), (1, 1)]) [_, _] underlying176 zeroValue176 O (fun w => by kernel_rfl) O (.zero (zs := [.slice none 0 0]) O (.zero (zs := [.int .i64 0]) O .nil)) O) (jV (jH (l := [_, _]) H1 O O) ?_)))
  rintro _ w2 ⟨b2, rfl, H2⟩
  refine dL O (bJ 1 aS O fH O (bJ 1 dI O sizeOf164 O (aI (mP 2 H2.f2 sizeOf164) ?_)))
  rintro _ w3 H3
  refine rZ O (bP O (dS O func60 (Hf (l := []) O H3.f2.f3.f3 (fun W _ => gJ.nil W _ none 0 (by decide)) (by decide)) ?_))
  rintro _ w4 ⟨rfl, ph, pb, wv, nv, H4⟩
  refine rZ O (iJ O (fC O (P5 results58 O O ?_)))
  have HR := ((H4.f6.f6.f6.f6.f6.f6.f7).Qx (k := .i32)).jw (e := 22) (sz := 1) none
  have HR2 := (V.LG (E := []) (place := 0) (HR.abO (ls := [])).swap)
  have HR3 := ((HR2.Sj.U2 (sz := 1) none).Sl (k := .i64) none)
  have hT := SI hl
  refine ⟨_, O, V.Wi (s := bC.new hl base most) (h := ph) (pb := pb) (pk := b2) (wv := wv) (nv := nv) (pv := .slice none 0 0) (gv := .slice none 0 0) (ch := false) (u0 := .pointer none) (u1 := .pointer none) (u2 := .slice none 0 0) (u3 := .slice none 0 0) (u4 := .int .i64 0) (u5 := .string .empty) (u6 := .slice none 0 0) (u7 := .slice none 0 0) (u8 := .int .i64 0) (u9 := .bool false) (ua := .int .i64 0) (ub := .bool false) (adv hl base most) O ?_ ?_⟩
  · show V w0 _ (dW _ (.cells (_ :: _ :: _ :: _ :: _ :: _ :: .string (jC hl (fun _ => none) (hl.length : Int)) :: _).toArray _ (0, 0)) • _)
    rw [hT]
    exact HR3.f10.f10.f5.f5.f5.f10.f10.f8.f10.f10
  · rfl
theorem aai {es : List eF} {A : List LE} {yf yt : Int} (h : iH s es A yf yt) (hi : s.inn = false) (hl : List qN) (base most : Int) (l : List Int) : iH (s.start hl base most l) es [] yf yt :=
  ⟨Q9 h.ok hi _ _ _ _, ⟨⟨fun k => ⟨by show gG [] [] ≤ 16384; decide, by show ∀ g ∈ [], _; simp⟩, h.rx.1.2⟩, fun h2 => absurd (show s.inn = true from h2) (by rw [hi]; decide), fun h2 => absurd (show s.inn = true from h2) (by rw [hi]; decide)⟩, h.says, rfl, ⟨List.nodup_nil, by simp⟩, fun h2 => absurd (show s.inn = true from h2) (by rw [hi]; decide)⟩
theorem Ns (H : V w0 w (qU y s • jX h hl base most • F)) (hr : jE w0 F .i32 v l) : iI prog 60 #[.pointer (some ⟨y, 0, none⟩), .pointer (some ⟨h, 0, none⟩), v] w fun v' w' =>
  v' = .int .i64 (s.sS l) ∧ V w0 w' (qU y (s.BJ hl base most l) • jX h hl base most • F) := by
 by_cases hin : s.inn = true
 ·have hE : s.sS l = 1 := by unfold bC.sS; rw [if_pos hin]
  unfold bC.BJ
  rw [if_neg (by rw [hE]; decide), hE]
  refine AB func60 ntmps60 ?_
  refine jR O (aO (bT O (Z (iR rX O O) (iL (PZ O (fun h1 => ?_))))))
  (try simp only [aA] at h1)
  refine gQ (aO (aO ?_))
  obtain ⟨h_y, MQ, MR, MS, MV, XM, XO, A_y, XP, XQ, Sz, SA, SB, MW, MX, MZ, Na, Nb, Nc, Nh, Nj, Nk, Nl, Np, Nq, rW, FT, xU⟩ := (H).Sr
  refine aC (nK O O (bJ 32 aS O aP O (fV bZ O (xU).get.2 O (jL O (fun h2 => ?_) (fun h => by exfalso; (try simp only [aA] at h); simp [hin] at h)))))
  (try simp only [aA] at h2)
  refine jP O (aB (dK results60 O ?_))
  have WU := xU.f12.f12.f12.f12.f12.f12.f12.f12.f12.f12.f12.f12
  have Vt := V.vX (s := s) rW WU
  exact ⟨O, Vt.f2.f2⟩
 ·have hi : s.inn = false := by simpa using hin
  by_cases hlen : 1024 < l.length
  ·have hE : s.sS l = 3 := by unfold bC.sS; rw [if_neg hin, if_pos hlen]
   unfold bC.BJ
   rw [if_neg (by rw [hE]; decide), hE]
   refine AB func60 ntmps60 ?_
   refine jR O (aO (bT O (Z (iR rX O O) (iL (PZ O (fun h1 => ?_))))))
   (try simp only [aA] at h1)
   refine gQ (aO (aO ?_))
   obtain ⟨h_y, MQ, MR, MS, MV, XM, XO, A_y, XP, XQ, Sz, SA, SB, MW, MX, MZ, Na, Nb, Nc, Nh, Nj, Nk, Nl, Np, Nq, rW, FT, xU⟩ := (H).Sr
   refine aC (nK O O (bJ 32 aS O aP O (fV bZ O (xU).get.2 O ?_)))
   have WU := xU.f12.f12.f12.f12.f12.f12.f12.f12.f12.f12.f12.f12
   have Vt := V.vX (s := s) rW WU
   refine jL O (fun h => by exfalso; (try simp only [aA] at h); simp [hi] at h) (fun h2 => ?_)
   (try simp only [aA] at h2)
   refine gQ (bT O (dS O func112 (PS Vt (fun W HW => hr W HW.right.right) hlen) ?_))
   rintro _ _ ⟨rfl, rfl⟩
   refine bP O (uf O O (uf O O (iJ O (vY O (bT O (Z (iM O O) (iL (wcE O (fun h3 => ?_)))))))))
   (try simp only [aA] at h3)
   refine bT O (fC O (aB (dK results60 O ?_)))
   exact ⟨O, Vt.f2.f2⟩
  ·have hE : s.sS l = 0 := by unfold bC.sS; rw [if_neg hin, if_neg hlen]
   unfold bC.BJ
   rw [if_pos hE, hE]
   obtain ⟨h0, pb, pk, wv, nv, pv, gv, A, nw, es, yf, yt, ch, u0, u1, u2, u3, u4, u5, u6, u7, u8, u9, ua, ub, ok, pl, H⟩ := H.Sr
   have HI := H.f13
   refine (Hf hi (hr := fun W HW => hr W HW.right.right.right.right.right.right.right.right.right.right.right) (l := l) HI.f2 (by omega)).mono fun v' w' h9 => ?_
   obtain ⟨e9, ph, pb', wv', nv', H9⟩ := h9
   refine ⟨e9, ?_⟩
   have pW := H9.f7.right.f8.right.f8.right.f8.right.f8.right.f8.right.f8.right
   have HR3 := ((pW.Sj.U2 (sz := 1) none).Sl (k := .i64) none)
   have HX := HR3.f9.f13.f13.f13.f12.f8.f8.f8.f12.f12.f13.f13.f13
   rw [← SI hl, show ED s.inn s.hl s.was [u0, u1, u2, u3, u4, u5, u6, u7, u8, u9, ua, ub] = ED s.inn hl s.was [u0, u1, u2, u3, u4, u5, u6, u7, u8, u9, ua, ub] from by rw [hi]; rfl] at HX
   refine V.vX (y := y) (s := s.start hl base most l) (h := ph) (pb := pb') (pk := pk) (wv := wv') (nv := nv') (pv := .slice none 0 0) (gv := .slice none 0 0) (nw := nw) (es := es) (ch := ch) (u0 := u0) (u1 := u1) (u2 := u2) (u3 := u3) (u4 := u4) (u5 := u5) (u6 := u6) (u7 := u7) (u8 := u8) (u9 := u9) (ua := ua) (ub := ub) (aai ok hi hl base most l) ?_
   rw [show (s.start hl base most l).zT = 0 from if_neg (by show ¬ s.inn = true; simp [hi]), show (s.start hl base most l).VA = 0 from if_neg (by show ¬ s.inn = true; simp [hi]), show (s.start hl base most l).VB = 0 from if_neg (by show ¬ s.inn = true; simp [hi])]
   exact HX
end
def wU (l : List Int) : bC := ((((bC.new [] 1 5).BJ [] 1 5 l).aZ).yh 2).jZ 0
section
variable {w0 w : World} {F : HP} {v : Value} {l : List Int}
theorem Bh (H : V w0 w F) (hr : jE w0 F .i32 v l) : iI prog 21 #[v] w fun v' w' => ∃ e y, v' = .tuple #[.pointer (some ⟨e, 0, none⟩), .pointer (some ⟨y, 0, none⟩), .bool true] ∧ V w0 w' (fF e (wU l) • qU y (wU l) • F) := by
 refine jr func21 ntmps21 ?_
 refine iV (iJ O (iJ O (fP O (iV (dS O func55 (OZ H (by omega)) ?_)))))
 rintro _ w1 ⟨p1, rfl, H1⟩
 refine bP O (uf O O (uf O O (iJ O (fP O (iV (dS O func56 (MK H1 (by omega)) ?_))))))
 rintro _ w2 ⟨p2, rfl, H2⟩
 refine bP O (uf O O (uf O O (iJ O (vY O (bT O (Z (iM O O) (SS O (fun h1 => ?_))))))))
 (try simp only [aA] at h1)
 refine bg (bP O (bg (Z (iM O O) (ig O O (iL (PZ O (fun h2 => ?_)))))))
 (try simp only [aA] at h2)
 refine gQ (bT O (dS O func57 (Uo H2.f2) ?_))
 rintro _ w3 ⟨e3, rfl, H3⟩
 refine bP O (uf O O (uf O O (iJ O (fP O (bT O (dS O func58 (SK H3.f3) ?_))))))
 rintro _ w4 ⟨y4, rfl, H4⟩
 refine bP O (uf O O (uf O O (iJ O (vY O (bT O (Z (iM O O) (SS O (fun h3 => ?_))))))))
 (try simp only [aA] at h3)
 refine bg (bP O (bg (Z (iM O O) (ig O O (SS O (fun h4 => ?_))))))
 (try simp only [aA] at h4)
 refine bg (bP O (bg (Z (iR kJ O O) (ig O O (iL (PZ O (fun h5 => ?_)))))))
 (try simp only [aA] at h5)
 refine gQ (aO (bT O (jO O O (dS O func59 (Pn H4.f4.f4 (fun W HW => hr _ (HW.right.right))) ?_))))
 rintro _ w5 ⟨rfl, H5⟩
 refine jO O O (bP O (dS O func60 (Ns H5.f4.f4 (fun W HW => hr _ (HW.right.right))) ?_))
 rintro _ w6 ⟨rfl, H6⟩
 refine Z (iM O O) (iL (PZ O (fun h6 => ?_)))
 (try simp only [aA] at h6)
 refine gQ (bT O (dS O func29 (BI H6.f3) ?_))
 rintro _ w7 ⟨rfl, H7⟩
 refine rZ O (dS O func61 (Nr H7.f2) ?_)
 rintro _ w8 ⟨rfl, H8⟩
 refine rZ O (dS O func62 (Rq H8.f2) ?_)
 rintro _ w9 ⟨rfl, H9⟩
 refine rZ O (dS O func63 (PV H9.f2) ?_)
 rintro _ w10 ⟨rfl, pW⟩
 refine rZ O (jO O O (dS O func31 (BO pW.f2) ?_))
 rintro _ FX ⟨rfl, sW⟩
 refine bP O (dS O func64 (SH sW.f2) ?_)
 rintro _ w12 ⟨rfl, wL⟩
 refine Z (dX O O) (iJ O (iJ O (fC O ?_)))
 refine ji (.inl O) results21 O O O ?_
 exact ⟨_, _, by simp, wL.f3.right.f3.right.f2⟩
end
def LQ : List Int := [102, 111, 111, 32, 98, 97, 114]
theorem Et : BL uI := ⟨7, by decide, rfl⟩
theorem abA : nT uI [119] = 0 := DN Et (by decide) fun h => absurd ((gZ rfl).1 h).2 (by decide)
theorem abB : nT uI [98] = 0 := DN Et (by decide) fun h => absurd ((gZ rfl).1 h).2 (by decide)
theorem abC : nT uI [102] = 1 := Rj Et ((gZ rfl).2 ⟨rfl, by decide⟩)
namespace bC
variable (s : bC)
def U7 (M : VM) (keys : List Int) : Int := (s.aZ.U0 M keys (max s.aZ.count 1)).UG (s.aZ.UZ M keys (max s.aZ.count 1))
def LU (M : VM) (keys : List Int) : bC := (s.aZ.U0 M keys (max s.aZ.count 1)).ZN (s.aZ.UZ M keys (max s.aZ.count 1))
end bC
def VM.went (M : VM) (s : bC) (keys : List Int) : VM := if s.U7 M keys = 0 then M.sought s.aZ.c.L s.aZ.c.pt keys (max s.aZ.count 1) else M
theorem aaj : wY LQ 0 119 0 1 = (4, false, true) := by kernel_rfl
theorem adw : (wU LQ).inn = false := by kernel_rfl
theorem aak : (wU LQ).U7 VM.new [119] = 6 := by kernel_rfl
theorem adx : VM.went VM.new (wU LQ) [119] = VM.new := by unfold VM.went; rw [if_neg (by rw [aak]; decide)]
theorem abD : ((wU LQ).LU VM.new [119]).inn = false := by kernel_rfl
theorem ady : ((wU LQ).LU VM.new [119]).U7 VM.new [98] = 0 := by kernel_rfl
theorem adz : (((wU LQ).LU VM.new [119]).LU VM.new [98]).c.pt = 4 := by kernel_rfl
theorem XT : ¬ (zB uI ∨ rV uI) := by
  unfold zB rV
  rintro ((h | h | h | h) | (h | h | h | h | h)) <;> exact absurd h (sN (by decide))
theorem abE {M : VM} {keys : List Int} {n x : Int} : M.did uI keys n x = M := FQ fun h => XT h.1
theorem BX (s : bC) : s.aZ.count = s.count := by unfold bC.aZ; split <;> rfl
section
variable {w0 w : World} {F : HP} {m e : Nat} {s : bC} {keys : List Int} {kv : Value} {M : VM}
theorem JI (H : V w0 w (pR m M • fF e s • F)) (hT : Ae w0) (hi : s.inn = false) (hk : jE w0 F .i32 kv keys) (hkl : keys.length * 4 ≤ 140737488355328) (hw : nT uI keys = 0) :
    iI prog 24 #[.pointer (some ⟨m, 0, none⟩), .pointer (some ⟨e, 0, none⟩), .string uI, kv] w fun v w' => v = .int .i64 (s.U7 M keys) ∧ V w0 w' (pR m (M.went s keys) • fF e (s.LU M keys) • F) := by
  have hco := IB s (UH H.f2)
  refine (V3 H hi hk hkl hw (XE hT ?_)).mono ?_
  · rw [BX]; omega
  · rintro v w' ⟨x, t, M', ⟨rfl, rfl, rfl⟩, rfl, H⟩
    exact ⟨rfl, by unfold VM.went; unfold VM.doM at H; rw [abE] at H; exact H⟩
theorem D6 {s : ByteArray} {l : List Int} (H : V w0 w F) (hl : Conv.runesFrom s s.size 0 #[] = (l.map (Value.int .i32)).toArray) (hb : l.length ≤ 70368744177664) :
    iI prog 34 #[.string s] w fun v w' => V w0 w' (jW 21 .i32 v l • F) := by
  refine jr func34 ntmps34 ?_
  refine jR O (bT O (jV (Qh H kM aj bG O hl hb) ?_))
  rintro u w1 H1
  refine fC O (dK results34 O ?_)
  exact H1
theorem Eu (H : V w0 w F) (hT : Ae w0) : iI prog 13 #[] w fun v w' => v = .bool true ∧ V w0 w' F := by
  refine WB func13 ntmps13 ?_
  refine jR O (iV (dS O func34 (D6 H (l := LQ) (by kernel_rfl) (by decide)) ?_))
  rintro u1 w1 H1
  refine dS O func21 (Bh H1 (fun W HW => (HW).aQ)) ?_
  rintro _ w2 ⟨e2, y2, rfl, H2⟩
  have SY := H2.f3.right
  refine bP O (uf O O (uf O O (uf O O (iJ O (iJ O (fP O (iV (dS O func22 (zD SY) ?_))))))))
  rintro _ w4 ⟨m4, rfl, H4⟩
  refine vY O (bT O (Z (lC O) (SS O (fun h1 => ?_))))
  (try simp only [aA] at h1)
  refine bg (bP O (bg (Z (iR kJ O O) (ig O O (SS O (fun h2 => ?_))))))
  (try simp only [aA] at h2)
  refine bg (bP O (bg (Z (iR iK O O) (ig O O (iL (PZ O (fun h3 => ?_)))))))
  (try simp only [aA] at h3)
  refine gQ (iV (dS O func34 (D6 H4 (l := LQ) (by kernel_rfl) (by decide)) ?_))
  rintro u5 w5 H5
  refine dS O func11 (DX H5 (fun W HW => (HW).aQ) hT (by decide) (by decide)) ?_
  rintro _ w6 ⟨rfl, H6⟩
  refine bP O (uf O O (uf O O (uf O O (iJ O (iJ O (fP O (bT O (Z (dX O O) (jJ O (fun h4 => ?_) (fun h => by exfalso; (try simp only [aA] at h); exact h (by rw [aaj])))))))))))
  (try simp only [aA] at h4)
  refine bg (bP O (jh O O (jJ O (fun h5 => ?_) (fun h => by exfalso; (try simp only [aA] at h); rw [aaj] at h; exact absurd h (by decide)))))
  (try simp only [aA] at h5)
  refine bg (bP O (bg (bP O (bg (jV (qo (k := .i32) (l := [119]) H6 aj bV oJ O O O (by decide)) ?_)))))
  rintro l7 w7 H7
  refine bg (dS O func24 (JI (s := wU LQ) (M := VM.new) (keys := [119]) H7.f4.f4 hT adw (fun W HW => (HW).aQ) (by decide) abA) ?_)
  rintro _ w8 ⟨rfl, H8⟩
  have HX := H8
  rw [adx] at HX
  refine bg (Z (dX O O) (jh O O (jJ O (fun h6 => ?_) (fun h => by exfalso; (try simp only [aA] at h); exact h aak))))
  (try simp only [aA] at h6)
  refine bg (bP O (bg (bP O (bg (jV (qo (k := .i32) (l := [98]) HX aj bV oJ O O O (by decide)) ?_)))))
  rintro l9 w9 H9
  refine bg (dS O func24 (JI (s := (wU LQ).LU VM.new [119]) (M := VM.new) (keys := [98]) H9.f3.f3 hT abD (fun W HW => (HW).aQ) (by decide) abB) ?_)
  rintro _ w10 ⟨rfl, pW⟩
  refine bg (Z (dX O O) (jh O O (jJ O (fun h7 => ?_) (fun h => by exfalso; (try simp only [aA] at h); exact h ady))))
  (try simp only [aA] at h7)
  refine bg (bP O (bg (dS O func28 (xE pW.f2) ?_)))
  rintro _ FX ⟨u11, rfl, sW⟩
  refine bg (Z (zZ 1 jF O O (dA aH O) O O) (bg (Z (dX O O) (jh O O (jJ O (fun h8 => ?_) (fun h => by exfalso; (try simp only [aA] at h); exact h adz))))))
  (try simp only [aA] at h8)
  refine bg (jV (qo (k := .i32) (l := [102]) sW aj bV oJ O O O (by decide)) ?_)
  rintro l12 w12 wL
  refine bg (dS O func16 (FK wL (fun W HW => (HW).aQ)) ?_)
  rintro _ Qs ⟨rfl, xZ⟩
  refine bg ?_
  refine Z (D7 (dX O O) (by exact beq_iff_eq.2 abC)) ?_
  refine jh O O (fC O (dK results13 O ?_))
  exact ⟨O, xZ.right.right.right.right.right.right.right.right⟩
end
end Go.Proofs.YtpdeedplgmbopaaGreatDoor
end
section
namespace Go.Proofs.YtpdeedplgmbopaaGreatDoor
open Go.RowKit
section
variable {s : bC} {A : List Int} {a b : Int} {k : Nat}
theorem abF (s : bC) (x : jl) : (s.sH x).argues = s.argues := by unfold bC.sH; split; rfl; split <;> rfl
theorem abG (s : bC) (i j : Int) (l : List Int) : (s.qJ i j l).argues = s.argues := by unfold bC.qJ; split; exact abF _ _; rfl
theorem abH (s : bC) (i j : Int) (b : Bool) : (s.sJ i j b).argues = s.argues := by unfold bC.sJ; split <;> rfl
theorem abI (s : bC) (i j : Int) (b : Bool) : (s.uF i j b).argues = s.argues := by unfold bC.uF; split; exact (abG _ _ _ _).trans (abH _ _ _ _); rfl
theorem FU (u : bC) (h : u.inn = true) (h2 : u.argues = false) : (u.jZ 0).given = false := by by_cases hp : u.put = [] <;> by_cases hc : u.cls = 2 <;> simp [bC.jZ, bC.jT, bC.jg, bC.fM, bC.qX, bC.mJ, bC.jf, bC.here, iE, hp, hc, h, h2]
theorem BZ (h : s.inn = false) : s.aZ.argues = false := by rw [uH h]
theorem SL (h : s.inn = false) (hg : s.given = false) : s.aZ.count = 1 := by rw [uH h]; unfold bC.count; rw [if_neg (by rw [show ({ s with inn := true, was := s.c, cls := 0, kT := false, kU := false, argues := false, whole := true, put := [] } : bC).given = s.given from rfl, hg]; decide)]
theorem adA (h : s.inn = true) {i j : Int} {back : Bool} (hi : 0 ≤ i ∧ i ≤ j ∧ j ≤ s.c.L.length) (hL : s.c.L.length ≤ 1024) (hk : (s.qY i j back).1 = 0) : s.EN i j back = 0 := by
  have hc : s.rP i j back = 0 := by
    unfold bC.rP
    rw [if_pos h, if_neg (by unfold bC.qB; omega), hk]
  have hE : nX s.c.L i j [] = 0 := by unfold nX; rw [if_neg (by omega), if_neg (by simp; omega)]
  unfold bC.EN
  rw [if_pos hc]
  have e : s.sJ i j back = { s.BH (s.qY i j back).2.1 (s.qY i j back).2.2 with kT := true, cls := 1 } := by unfold bC.sJ; rw [if_pos hc]
  have ei : (s.sJ i j back).inn = true := by rw [e]; exact h
  unfold bC.vT
  rw [if_pos ei, show (s.sJ i j back).c.L = s.c.L from by rw [e]; rfl, hE]
end
section
variable {L : List Int}
theorem XU {s : bC} {x a : Int} (hi0 : s.inn = false) (hg : s.given = false) (hL : s.c.L = L) (hE : s.c.E = []) (hx : mvE L.length a = 0) (h : 0 ≤ a ∧ a ≤ L.length) : zJ ((s.aZ.qK a).jZ 0) L a a ∧ ((s.aZ.qK a).jZ 0).given = false ∧ ((s.aZ.qK a).jZ 0).c.E = [] := by
  have hi := uh s
  have hm : s.aZ.qK a = s.aZ.kV L a s.aZ.c.mark := by
    unfold bC.qK
    rw [if_pos hi, iW, hL]
    unfold Yt; rw [if_pos h]
  rw [hm]
  have hi2 : (s.aZ.kV L a s.aZ.c.mark).inn = true := hi
  have hE2 : ((s.aZ.kV L a s.aZ.c.mark).jZ 0).c.E = [] := (O6 _ hi2).trans (by show s.aZ.c.E = []; rw [iW]; exact hE)
  refine ⟨⟨AV _ hi2, by omega, (Dz _ hi2).trans (by show L = _; rw [List.take_append_drop]), Ee _ hi2, .inl ⟨hE2, rfl⟩⟩, FU _ hi2 (BZ hi0), hE2⟩
theorem aal {n : Nat} {a : Int} (h : 0 ≤ a ∧ a ≤ n) : mvE n a = 0 := by unfold mvE; rw [if_pos h]
end
section
variable {s : bC} {A : List Int} {a b n : Int} {keys : List Int}
theorem aam (s : bC) : s.kV s.c.L s.c.pt s.c.mark = s := rfl
theorem XV (h : s.inn = true) {x : Int} (hx : s.c.pt = x) (hb : 0 ≤ x ∧ x ≤ s.c.L.length) : s.Dy x = 0 ∧ s.qK x = s := by
  unfold bC.Dy bC.qK
  rw [if_pos h, if_pos h]
  unfold Yt
  rw [if_pos hb]
  subst hx
  exact ⟨aal hb, aam s⟩
theorem Wj (h : ¬ s.wE) : s.GL = 0 ∧ s.GN = s := by unfold bC.GL bC.GN; rw [if_neg h, if_neg h]; exact ⟨rfl, rfl⟩
theorem Wn (h : ¬ s.wE) (hi : s.inn = true) : s.UG 0 = 0 ∧ s.ZN 0 = s.jZ 0 := by
  unfold bC.UG bC.ZN
  rw [if_pos rfl, if_pos rfl, (Wj h).1, (Wj h).2]
  exact ⟨by unfold bC.AQ; rw [if_pos hi], rfl⟩
structure VK (A : List Int) (b : Int) (s : bC) : Prop where
  k : zJ s A 0 b
  given : s.given = false
theorem afc (hk : keys.getD 0 0 = 120) : s.vdA keys n = s.c.pt ∧ s.vdB keys n = s.c.pt + min n (s.c.L.length - s.c.pt) := by
  unfold bC.vdA bC.vdB; rw [if_neg (by omega), if_neg (by omega)]; exact ⟨rfl, rfl⟩
theorem VK.del (h : zJ s A 0 b) (hA : A.length ≤ 1024) (hk : keys.getD 0 0 = 120) (hn : 1 ≤ n) (hb : b < A.length) :
    (s.aZ.GX keys n).UG (s.aZ.GV keys n) = 0 ∧ VK A (b + min n (A.length - b)) ((s.aZ.GX keys n).ZN (s.aZ.GV keys n)) := by
  have hi := uh s
  have hlen := h.len
  have hok := h.ok
  have hpt := h.pt
  obtain ⟨e1, e2⟩ := afc (s := s.aZ) (n := n) hk
  rw [iW, hpt] at e1 e2
  rw [hlen] at e2
  obtain ⟨k, hkk⟩ : ∃ k : Int, k = min n (A.length - b) := ⟨_, rfl⟩
  rw [show (0 : Int) + min n ((A.length : Int) - (b - 0) - 0) = k from by omega] at e2
  rw [← hkk]
  have hk1 : 1 ≤ k ∧ k ≤ A.length - b := by omega
  have hin : keys.getD 0 0 ∈ CV ⟨#[120, 88]⟩ := by rw [hk]; decide
  unfold bC.GV bC.GX
  rw [if_pos hin, if_pos hin, e1, e2]
  unfold bC.XF bC.XG
  have hq := h.fwd hA (k := k) (by omega)
  rw [iW, hpt, Int.zero_add] at hq
  have hcl : ((s.aZ.cut 0 k).length : Int) = k := by unfold bC.cut; rw [iW]; simp; omega
  have hkr := (KO h hA (i := 0) (j := k) (back := false) rfl (by omega)).1
  have hE := adA hi (i := 0) (j := k) (back := false) (by rw [iW]; omega) (by rw [iW]; omega) hkr
  obtain ⟨c1, c2, c3, c4, c5, c6⟩ := Zf (s := s.aZ) hi (i := 0) (j := k) (back := false) (by rw [iW]; omega) (by rw [iW]; omega) hkr (by rw [iW, hpt]; omega)
  obtain ⟨m1, m2⟩ := XV (s := s.aZ.uF 0 k false) c5 c2 (by omega)
  rw [if_neg (by omega), if_pos hE, if_neg (by omega), if_pos hE, m1, m2]
  have hsl : ¬ (s.aZ.uF 0 k false).wE := by unfold bC.wE; rw [c2]; omega
  obtain ⟨d1, d2⟩ := Wn hsl c5
  rw [d1, d2]
  exact ⟨rfl, hq, FU _ c5 ((abI _ _ _ _).trans (BZ h.inn))⟩
theorem Oo (u : bC) (h : u.inn = true) : (u.jZ 0).c.mode = u.c.mode := by by_cases ha : u.argues = true <;> by_cases hp : u.put = [] <;> by_cases hc : u.cls = 2 <;> simp [bC.jZ, bC.jT, bC.jg, bC.fM, bC.qX, bC.mJ, bC.jf, bC.here, iE, ha, hp, hc, h]
theorem aan (u : bC) (h : u.inn = true) (h2 : u.argues = true) : (u.jZ 0).given = u.given ∧ (u.jZ 0).arg = u.arg ∧ (u.jZ 0).minus = u.minus := by by_cases hp : u.put = [] <;> by_cases hc : u.cls = 2 <;> simp [bC.jZ, bC.jT, bC.jg, bC.fM, bC.qX, bC.mJ, bC.jf, bC.here, iE, hp, hc, h, h2]
structure Vb (A : List Int) (s : bC) : Prop where
  inn : s.inn = false
  given : s.given = false
  L : s.c.L = A
  E : s.c.E = []
  mode : s.c.mode = 2
theorem abJ (hA : A.length ≤ 1024) : Vb A (wU A) := by
  unfold wU
  have e : (bC.new [] 1 5).BJ [] 1 5 A = (bC.new [] 1 5).start [] 1 5 A := by
    unfold bC.BJ; rw [if_pos (by unfold bC.sS; rw [if_neg (by decide), if_neg (by omega)])]
  rw [e]
  generalize hs : (bC.new [] 1 5).start [] 1 5 A = t
  have h1 : t.inn = false := by rw [← hs]; rfl
  have hi := uh t
  have hm : t.aZ.tJ 2 = 0 := by unfold bC.tJ; rw [if_pos hi]; rfl
  have hms : t.aZ.yh 2 = { t.aZ with c := { t.aZ.c with mode := 2 } } := by unfold bC.yh; rw [if_pos hm]
  have hi2 : (t.aZ.yh 2).inn = true := by rw [hms]; exact hi
  refine ⟨AV _ hi2, FU _ hi2 (by rw [hms]; exact BZ h1), (Dz _ hi2).trans (by rw [hms]; show t.aZ.c.L = A; rw [iW, ← hs]; rfl), (O6 _ hi2).trans (by rw [hms]; show t.aZ.c.E = []; rw [iW, ← hs]; rfl), ?_⟩
  rw [Oo _ hi2, hms]
theorem LV (M : VM) (l : List Int) (p n : Int) : M.tgt l p [48] n = (0, false, true) ∧ M.sought l p [48] n = M := by
  obtain ⟨e1, e2⟩ := acd (M := M) (l := l) (p := p) (n := n) (keys := [48]) (by decide) (by decide) (by decide)
  refine ⟨e1.trans ?_, e2.trans ?_⟩
  · unfold wY lG; rfl
  · rw [if_neg (fun h => absurd h.2 (by decide))]
theorem Vb.zero (h : Vb A s) (hA : A.length ≤ 1024) (M : VM) : VK A 0 (s.LU M [48]) ∧ (s.LU M [48]).c.E = [] ∧ s.U7 M [48] = 0 ∧ M.went s [48] = M := by
  have hi := uh s
  have e0 : s.aZ.Dy 0 = 0 := by unfold bC.Dy; rw [if_pos hi, iW, h.L]; exact aal (by omega)
  have e1 : s.aZ.UZ M [48] (max s.aZ.count 1) = 0 := by unfold bC.UZ; rw [(LV M _ _ _).1, if_pos rfl]; exact e0
  have e2 : s.aZ.U0 M [48] (max s.aZ.count 1) = s.aZ.qK 0 := by unfold bC.U0; rw [(LV M _ _ _).1, if_pos rfl]
  have hm := XU (s := s) (L := A) (x := 0) (a := 0) h.inn h.given h.L h.E (aal (by omega)) (by omega)
  have hmi : (s.aZ.qK 0).inn = true := by unfold bC.qK; rw [if_pos hi]; exact hi
  have hsl : ¬ (s.aZ.qK 0).wE := by
    unfold bC.qK; rw [if_pos hi]
    unfold bC.wE bC.kV Yt
    rw [if_pos (by rw [iW, h.L]; omega)]
    dsimp only; omega
  have he : s.U7 M [48] = 0 ∧ s.LU M [48] = (s.aZ.qK 0).jZ 0 := by unfold bC.U7 bC.LU; rw [e1, e2]; exact Wn hsl hmi
  refine ⟨by rw [he.2]; exact ⟨hm.1, hm.2.1⟩, by rw [he.2]; exact hm.2.2, he.1, ?_⟩
  unfold VM.went; rw [if_pos he.1, (LV M _ _ _).2]
def bC.XW (s : bC) (n : Int) : bC := (s.aZ.Fv n).jZ (s.aZ.Fq n)
theorem VK.arg (h : zJ s A a a) (hE : s.c.E = []) (hn : 1 ≤ n ∧ n ≤ 1000000) : s.aZ.Fq n = 0 ∧ zJ (s.XW n) A a a ∧ (s.XW n).aZ.count = n ∧ (s.XW n).c.E = [] ∧ (s.XW n).c.mode = s.c.mode := by
  have hi := uh s
  have e0 : s.aZ.Fq n = 0 := by unfold bC.Fq; rw [if_pos hi, if_neg (by omega)]
  have e1 : s.aZ.Fv n = { s.aZ with given := true, argues := true, minus := decide (n < 0), arg := max n (-n) } := by unfold bC.Fv; rw [if_pos e0]
  have hi2 : (s.aZ.Fv n).inn = true := by rw [e1]; exact hi
  have hc : (s.aZ.Fv n).c = s.c := by rw [e1]; exact iW s
  obtain ⟨g1, g2, g3⟩ := aan (s.aZ.Fv n) hi2 (by rw [e1])
  unfold bC.XW
  rw [e0]
  have hE2 : ((s.aZ.Fv n).jZ 0).c.E = [] := (O6 _ hi2).trans (by rw [hc]; exact hE)
  refine ⟨rfl, ⟨AV _ hi2, h.ok, (Dz _ hi2).trans (by rw [hc]; exact h.L), (Ee _ hi2).trans (by rw [hc]; exact h.pt), .inl ⟨hE2, rfl⟩⟩, ?_, hE2, (Oo _ hi2).trans (by rw [hc])⟩
  rw [BX]
  unfold bC.count
  rw [g1, g2, g3, e1, if_pos rfl]
  dsimp only
  rw [show decide (n < 0) = false from decide_eq_false (by omega), if_neg (by decide), if_neg (by omega)]
  omega
theorem VK.kills (h : zJ s A 0 b) (hb : 0 < b) : mO s.c.E s.c.at_ = [A.take b.toNat] := by
  rcases h.ring with ⟨_, h2⟩ | ⟨h1, h2, _⟩
  · omega
  · unfold mO
    rw [h1, h2]
    simp
theorem VK.line (h : zJ s A 0 b) : s.c.L = A.drop b.toNat := by rw [h.L]; simp
end
theorem iH.kT {s : bC} {es : List eF} {A : List LE} {yf yt : Int} (h : iH s es A yf yt) (E : List (List Int)) (a : Nat) (hE : E.length ≤ 60 ∧ (a < E.length ∨ a = 0) ∧ ∀ e ∈ E, e.length ≤ 1024) : iH { s.BH E a with kT := true, cls := 1 } es A yf yt :=
  ⟨h.ok, ⟨⟨h.rx.1.1, hE⟩, h.rx.2.1, fun _ h2 => absurd h2 (by show ¬ (1 : Int) = 2; decide)⟩, h.says, h.FY, h.placed, h.MI⟩
theorem iH.kU {s : bC} {es : List eF} {A : List LE} {yf yt : Int} (h : iH s es A yf yt) (a b : Int) : iH { s with kU := true, cls := 2, c := { s.c with fr := a, to := b } } es A a b :=
  ⟨h.ok, ⟨h.rx.1, fun hi => ⟨(h.rx.2.1 hi).1, (h.rx.2.1 hi).2.1, fun h2 => absurd h2 (by show ¬ true = false; decide)⟩, fun _ _ => rfl⟩, h.says, h.FY, h.placed, fun _ _ => ⟨rfl, rfl⟩⟩
section
variable {w0 w : World} {F : HP} {y : Nat} {s : bC} {i j x : Int} {back : Bool} {v : Value} {l : List Int}
theorem iH.ring {es : List eF} {A : List LE} {yf yt : Int} (h : iH s es A yf yt) (E : List (List Int)) (a : Nat) (hE : E.length ≤ 60 ∧ (a < E.length ∨ a = 0) ∧ ∀ e ∈ E, e.length ≤ 1024) : iH (s.BH E a) es A yf yt :=
  ⟨h.ok, ⟨⟨h.rx.1.1, hE⟩, h.rx.2.1, h.rx.2.2⟩, h.says, h.FY, h.placed, h.MI⟩
end
section
variable {w0 w : World} {F : HP} {y : Nat} {s : bC} {gl : Value} {zk : List eF}
theorem iH.Gs {es : List eF} {A : List LE} {yf yt : Int} (h : iH s es A yf yt) : iH s.Gs es A yf yt := ⟨h.ok, h.rx, h.says, h.FY, h.placed, h.MI⟩
theorem iH.apps {es : List eF} {A : List LE} {yf yt : Int} (h : iH s es A yf yt) (l : List jl) : iH (s.Vz l) es A yf yt := h.kV _ _ _
end
def RV (t : bC) (k : Nat) : bC := ((t.mJ (t.here.take k)).Vz (((t.here.drop k).flatten).reverse.map Jp)).Gs
section
variable {w0 w : World} {F : HP} {y : Nat} {s : bC}
end
end Go.Proofs.YtpdeedplgmbopaaGreatDoor
end
section
namespace Go.Proofs.YtpdeedplgmbopaaGreatDoor

def SN (x : Int) : Nat := if x < 128 then 1 else if 194 ≤ x ∧ x ≤ 223 then 2 else if 224 ≤ x ∧ x ≤ 239 then 3 else if 240 ≤ x ∧ x ≤ 244 then 4 else 0
def agL (x : Int) : Int := if x = 224 then 160 else if x = 240 then 144 else 128
def afd (x : Int) : Int := if x = 237 then 159 else if x = 244 then 143 else 191
def agM (b : List Int) (j : Nat) : Bool := j == 0 || (decide (128 ≤ b.getD j 0 ∧ b.getD j 0 ≤ 191) && (j != 1 || decide (agL (b.getD 0 0) ≤ b.getD 1 0 ∧ b.getD 1 0 ≤ afd (b.getD 0 0))))
def acg (b : List Int) : Nat → Bool
  | 0 => true
  | k + 1 => acg b k && agM b k
def Jf (b : List Int) : Nat × Nat := if b = [] then (0, 0) else if SN (b.getD 0 0) = 0 then (0, 0) else if acg b (min (SN (b.getD 0 0)) b.length) then (min (SN (b.getD 0 0)) b.length, SN (b.getD 0 0)) else (0, SN (b.getD 0 0))
def agN (b : List Int) (n : Nat) : Int :=
  if n = 1 then b.getD 0 0 else if n = 2 then b.getD 0 0 % 32 * 64 + b.getD 1 0 % 64 else if n = 3 then b.getD 0 0 % 16 * 4096 + b.getD 1 0 % 64 * 64 + b.getD 2 0 % 64
  else b.getD 0 0 % 8 * 262144 + b.getD 1 0 % 64 * 4096 + b.getD 2 0 % 64 * 64 + b.getD 3 0 % 64
def adB (b : List Int) : Bool := decide ((Jf b).1 = (Jf b).2 ∧ 0 < (Jf b).2)
def aao (b : List Int) : Int × Nat := if adB b then (agN b (Jf b).2, (Jf b).2) else (65533, 1)
def afe (b : List Int) : Bool := decide (0 < (Jf b).1 ∧ (Jf b).1 < (Jf b).2)
def aap : Nat → List Int → List Int
  | 0, _ => []
  | f + 1, b => if b = [] then [] else (aao b).1 :: aap f (b.drop (aao b).2)
def aaq (b : List Int) : List Int := aap b.length b
def adC : Nat → List Int → List Int × List Int
  | 0, b => ([], b)
  | f + 1, b => if b = [] ∨ afe b = true then ([], b) else ((aao b).1 :: (adC f (b.drop (aao b).2)).1, (adC f (b.drop (aao b).2)).2)
def ah9 (b : List Int) : List Int × List Int := adC b.length b
def adD (l : List Int) : List Int := l.flatMap Lib.encodeRuneZ
def aia (b : List Int) : Prop := ∀ x ∈ b, 0 ≤ x ∧ x < 256
end Go.Proofs.YtpdeedplgmbopaaGreatDoor
end
section
namespace Go.Proofs.YtpdeedplgmbopaaGreatDoor
open Go.RowKit
def firstM (x : Nat) : Int := ((Go.Pinned.utf8FirstZ.getD x 0 : Nat) : Int)
def aff : List (Int × Int) := [(128, 191), (160, 191), (128, 159), (144, 191), (128, 143)]
structure ahi (w : World) : Prop where
  first : ∀ x : Nat, x < 256 → w.cell? ⟨0, x, none⟩ = some (.int .u8 (firstM x))
  acc : ∀ i : Nat, i < 5 → w.cell? ⟨1, i * 2, none⟩ = some (.int .u8 (aff.getD i (0, 0)).1) ∧ w.cell? ⟨1, i * 2 + 1, none⟩ = some (.int .u8 (aff.getD i (0, 0)).2)
section
variable {b : List Int}
end
section
variable {w0 w : World} {F : HP} {v : Value} {b : List Int}
end
section
variable {w0 w : World} {F : HP} {v : Value} {b l : List Int} {r x y : Int}
end
section
variable {w0 w : World} {F : HP} {v : Value} {b l : List Int} {r x y : Int}
end
section
variable {w0 w : World} {F : HP} {v : Value} {b l : List Int} {r x y : Int}
end
def agO (l : List Int) : Prop := ∀ x ∈ l, -2147483648 ≤ x ∧ x < 2147483648
section
variable {w0 w : World} {F : HP} {v : Value} {b l : List Int} {r x y : Int}
end
def afg (l : List Int) : ByteArray := l.foldl (fun s n => s.push (UInt8.ofNat n.toNat)) .empty
def aar (s : ByteArray) : List Int := s.data.toList.map fun b => (b.toNat : Int)
section
variable {P : Program} {L : List (Nat × Value)} {w0 w : World} {F : HP} {ty : TypeId} {x : Operand}
end
def adE (hl : List qN) (tx : Int → Option ByteArray) (place : Int) (L : List Int) : ByteArray := if aaq (aar (jC hl tx place)) = L then jC hl tx place else afg (adD L)
section
variable {w0 w : World} {F : HP} {e pb pw pt ph : Nat} {L : List Int} {pnt mk place base most : Int} {tx : Int → Option ByteArray} {hl : List qN}
end
namespace bC
variable (s : bC)
def Hg : ByteArray := adE s.hl s.c.tx s.c.place s.c.L
def U8 (k : Int) : List Int := aaq (aar (if k = s.c.place then s.Hg else s.stands k))
def afh (k : Int) : Int := if s.inn then (if k < 0 ∨ s.hl.length < k then 6 else if 1024 < (s.U8 k).length then 6 else 0) else 1
def ahj (k : Int) : bC :=
  if s.afh k = 0 then
    let t := s.fM false
    { t with whole := false, c := { t.c with tx := vS t.c.tx t.c.place (some t.Hg), place := k, L := s.U8 k, pt := (s.U8 k).length, mark := -1, run := false } }
  else s
end bC
theorem abK {t : bC} {k : Int} {l : List Int} (h : lI t) (hp : t.put = []) (hk : ¬ (k < 0 ∨ (t.hl.length : Int) < k)) (hh : t.Hg.size ≤ 16384) (hu : gG (t.c.un k) [] ≤ 16384) :
    lI { t with whole := false, c := { t.c with tx := vS t.c.tx t.c.place (some t.Hg), place := k, L := l, pt := l.length, mark := -1, run := false } } := by
  obtain ⟨h1, h2, h3, h4, h5, h6⟩ := h
  refine ⟨⟨by show 0 ≤ k; omega, by show k ≤ t.hl.length; omega, fun x b hb => ?_⟩, h2, h3, h4, ?_, h6⟩
  · by_cases hx : x = t.c.place
    · subst hx
      have : some t.Hg = some b := (iE t.c.tx t.c.place (some t.Hg)).symm.trans hb
      cases this; exact hh
    · exact h1.2.2 x b ((tC t.c.tx (some t.Hg) hx).symm.trans hb)
  · show gG (t.c.un k) t.put ≤ 16384
    rw [hp]; exact hu
section
variable {w0 w : World} {F : HP} {e : Nat} {s : bC} {k : Int}
end
section
variable {w0 w : World} {F : HP} {y : Nat} {s : bC} {k x : Int} {nv : Value} {l : List ByteArray} {b : ByteArray}
theorem iH.goto {t : bC} {es : List eF} {A : List LE} {yf yt : Int} {l : List Int} (h : iH t es A yf yt) (hp : t.put = []) (hk : ¬ (k < 0 ∨ (t.hl.length : Int) < k)) (hh : t.Hg.size ≤ 16384) :
    iH { t with whole := false, c := { t.c with tx := vS t.c.tx t.c.place (some t.Hg), place := k, L := l, pt := l.length, mark := -1, run := false } } es A yf yt :=
  ⟨abK h.ok hp hk hh (h.rx.1.1 k).1, h.rx, h.says, h.FY, h.placed, h.MI⟩
end
section
variable {w0 w : World} {F : HP} {p y : Nat} {E : List (List Int)} {place : Nat} {s : bC}
end
def afi (hl : List qN) (tx : Int → Option ByteArray) (k : Nat) : Bool := !((jC hl tx k).toList == (zS hl k).toList)
def ahk (hl : List qN) (tx : Int → Option ByteArray) (n : Nat) : List (Int × ByteArray) := ((List.range n).filter (afi hl tx)).map fun (k : Nat) => ((k : Int), jC hl tx k)
section
variable {w0 w : World} {F : HP} {p q y h pb pk : Nat} {x place base most pnt mk : Int} {E : List (List Int)} {at_ : Nat} {L : List Int} {wv nv : Value} {hl : List qN} {tx : Int → Option ByteArray} {m : Nat} {xs ys : List Value} {l : List ByteArray}
end
section
variable {w0 w : World} {F : HP} {y h : Nat} {place base most : Int} {wv nv : Value} {hl : List qN} {tx : Int → Option ByteArray} {s : bC}
end
section
variable {L : List (Nat × Value)} {w : World} {x y : Operand} {ty : TypeId}
end
structure StM where
  pt : Int
  mrk : Int
  mode : Int
  over : Bool
  given : Bool
  minus : Bool
  arg : Int
  last : Int
  fr : Int
  to : Int
  place : Int
  afj : Int
  res : Int
  qW : Int
def stL (x : StM) (u ks sv : Value) : List Value := [u, .int .i64 x.pt, .int .i64 x.mrk, .int .i64 x.mode, .bool x.over, .bool x.given, .bool x.minus, .int .i64 x.arg, .int .i64 x.last, .int .i64 x.fr, .int .i64 x.to, ks, .int .i64 x.place, sv, .int .i64 x.afj, .int .i64 x.res, .int .i64 x.qW]
section
variable {w0 w : World} {F : HP} {x : StM} {u z ks qs sv tv : Value} {l : List Int} {ls : List (List Int)} {us vs : List Value} {S : List (Int × ByteArray)}
end
def aib (s : bC) : StM := ⟨s.c.pt, s.c.mark, s.c.mode, s.c.over, s.given, s.minus, s.arg, s.zT, s.VA, s.VB, s.c.place, s.O5, s.c.res, s.qW⟩
end Go.Proofs.YtpdeedplgmbopaaGreatDoor
end
section
namespace Go.Proofs.YtpdeedplgmbopaaGreatDoor
open Go.RowKit
open _root_.Go.Proofs.Tryz
def aic (w0 : World) (fv : Value) : Prop := ∀ (F : HP) (W : World) (v1 v2 : Value) (l : List Int), V w0 W F → jE w0 F .i32 v1 l → jE w0 F .i32 v2 l → uq prog fv [v1, v2] W fun u W' => u = .bool true ∧ V w0 W' F
section
variable {w0 w : World} {F : HP} {e y : Nat} {s : bC} {v1 v2 fv : Value} {l : List Int} {x : StM} {u z ks qs sv tv : Value} {ls : List (List Int)} {us vs : List Value} {S : List (Int × ByteArray)} {b : Int}
end
theorem XY {w0 w : World} {F : HP} {t : TypeId} {ks : Value} {us : List Value} {s : bC} (H : V w0 w (Row t 1 ks s.c.E.length us • F)) : V w0 w (Row t 1 ks (mO s.c.E s.c.at_).length us • F) := by rw [Iz]; exact H
section
variable {w0 w : World} {F : HP} {e y : Nat} {s : bC} {l : List qN} {v : Value}
theorem Hl (H : V w0 w (fF e s • F)) : iI prog 33 #[.pointer (some ⟨e, 0, none⟩)] w fun v w' => ∃ us, V w0 w' (Row 22 1 v (mO s.c.E s.c.at_).length us • BP 21 .i32 us (mO s.c.E s.c.at_) • fF e s • F) := by
  obtain ⟨pb, pr, pw, pt, pm, ph, bl, pv, es, u0, u1, u2, u3, u4, u5, u6, u7, u8, u9, ua, ok, says, aid, H⟩ := H.Ii
  refine (yQ H.f3.f2).mono fun v w' h9 => ?_
  obtain ⟨us, H9⟩ := h9
  exact ⟨us, XY (V.iF (F := Row 22 1 v s.c.E.length us • BP 21 .i32 us (mO s.c.E s.c.at_) • F) (e := e) (s := s) (pb := pb) (pr := pr) (pw := pw) (pt := pt) (pm := pm) (ph := ph) (bl := bl) (pv := pv) (es := es) (u0 := u0) (u1 := u1) (u2 := u2) (u3 := u3) (u4 := u4) (u5 := u5) (u6 := u6) (u7 := u7) (u8 := u8) (u9 := u9) (ua := ua) ok says (H9.of_eq (by ac_rfl))).f3.f3⟩
def StE (s : bC) (u ks sv : Value) : HP := uZ fun us => jW 21 .i32 u s.c.L • Row 22 1 ks (mO s.c.E s.c.at_).length us • BP 21 .i32 us (mO s.c.E s.c.at_) • Row 133 2 sv s.saved.length (s.saved.flatMap Oc)
def StR (s : bC) (u ks sv : Value) : HP := uZ fun us => jW 21 .i32 u s.c.L • Row 22 1 ks (mO s.c.E s.c.at_).length us • Cj .i32 us (mO s.c.E s.c.at_) • Row 133 2 sv s.saved.length (s.saved.flatMap Oc)
def agP (s : bC) (b : Int) (u ks sv : Value) : List Value := [u, .int .i64 s.c.pt, .int .i64 s.c.mark, .int .i64 s.c.mode, .bool s.c.over, .bool s.given, .bool s.minus, .int .i64 s.arg, .int .i64 s.zT, .int .i64 s.VA, .int .i64 s.VB, ks, .int .i64 s.c.place, sv, .int .i64 s.O5, .int .i64 s.c.res, .int .i64 b]
end
end Go.Proofs.YtpdeedplgmbopaaGreatDoor
end
