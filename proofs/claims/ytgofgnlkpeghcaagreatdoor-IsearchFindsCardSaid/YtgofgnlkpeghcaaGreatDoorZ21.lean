import Derived.Test.YtgofgnlkpeghcaaGreatDoorZ4
import Derived.Test.YtgofgnlkpeghcaaGreatDoorZ20
import Derived.Test.YtgofgnlkpeghcaaGreatDoorZ16
set_option linter.unusedSimpArgs false
set_option linter.unusedVariables false
/- Texts of mine, joined, their names in short: REdN REdK REdU REdV REdG REdS REdS2. -/
section
namespace Go.Proofs.YtgofgnlkpeghcaaGreatDoor
open Go.RowKit
open _root_.Go.Proofs.Tryz
theorem Vu (hl : List oH) : dR hl (fun _ => none) (hl.length : Int) = .empty := by
  unfold dR vC Sj
  rw [if_neg (by omega)]; rfl
section
variable {w0 w : World} {F : HP} {y h : Nat} {s : dw} {hl : List oH} {base most : Int} {l : List Int} {v : Value}
set_option maxHeartbeats 1000000 in
theorem Jv {x0 x1 x2 x3 x4 x5 x6 x7 x8 x9 x10 x11 x12 tZ x14 x15 x16 x17 x18 x19 x20 x21 uq x23 x24 x25 uz x27 x28 x29 x30 x31 uX x34 D5 D6 D7 x38 x39 x40 x41 : Value} {b : Bool} (hb : b = false) (H : V w0 w (eF y (.cells (x0 :: x1 :: x2 :: x3 :: x4 :: x5 :: x6 :: x7 :: x8 :: x9 :: x10 :: x11 :: x12 :: tZ :: x14 :: x15 :: x16 :: x17 :: x18 :: x19 :: x20 :: x21 :: uq :: x23 :: x24 :: x25 :: uz :: x27 :: x28 :: x29 :: x30 :: x31 :: .bool b :: uX :: x34 :: D5 :: D6 :: D7 :: x38 :: x39 :: x40 :: x41 :: []).toArray 98 (0, 0)) • iW h hl base most • F)) (hr : jm w0 F .i32 v l) (hshort : l.length ≤ 1024) : iM prog 29 #[.pointer (some ⟨y, 0, none⟩), .pointer (some ⟨h, 0, none⟩), v] w fun v' w' => v' = .int .i64 0 ∧ ∃ ph pb wv nv,
    V w0 w' (eF y (.cells (.pointer (some ⟨ph, 0, none⟩) :: .pointer (some ⟨pb, 0, none⟩) :: x2 :: wv :: nv :: .int .i64 hl.length :: .string .empty :: .slice none 0 0 :: .slice none 0 0 :: x9 :: .bool false :: .int .i64 0 :: .bool false :: tZ :: x14 :: x15 :: x16 :: x17 :: x18 :: x19 :: x20 :: x21 :: uq :: x23 :: x24 :: .bool false :: .bool false :: .int .i64 (-1) :: .int .i64 0 :: .int .i64 0 :: .int .i64 0 :: x31 :: .bool b :: uX :: x34 :: D5 :: D6 :: D7 :: x38 :: x39 :: x40 :: x41 :: []).toArray 98 (0, 0)) •
      kJ pb l l.length (-1) • uQ 1 wv (hl.length + 1) (strs (nP hl)) • Row 9 1 nv (hl.length + 1) (strs (mW hl (fun _ => none))) • iW ph hl base most • iW h hl base most • F) := by
  refine NC func29 ntmps29 ?_
  refine kQ O (aO (bY O (aW (iJ oM O O) (jd (Ip O (fun h1 => ?_))))))
  (try simp only [aF] at h1)
  refine iy (aO (bY O (dO O (bn 32 aJ O aQ O (fB cZ O (H).get.2 O (jv O (fun h => by exfalso; (try simp only [aF] at h); simp [hb] at h) (fun h2 => ?_)))))))
  (try simp only [aF] at h2)
  refine iy (bY O (fE O func69 (Vj H (fun W HW => hr _ (HW.right.right)) hshort) ?_))
  rintro _ w1 ⟨p1, rfl, H1⟩
  refine bT O (sD O O (sD O O (iC O (sS O (bY O (aW (gy O O) (jd (Ip O (fun h3 => ?_)))))))))
  (try simp only [aF] at h3)
  refine iy (bY O (bT O (fE O func70 (LZ H1.f3) ?_)))
  rintro _ w2 ⟨q2, rfl, H2⟩
  refine dO O (bn 0 aJ O sizeOf63 O (aI (ni 0 H2.f4 sizeOf63) ?_))
  rintro _ w3 H3
  refine ql O (mJ O O (bn 1 aJ O dH O (bn 0 bI O pI O (aI (ni 1 H3 pI) ?_))))
  rintro _ w4 H4
  refine ql O (mJ O O (bn 0 aJ O sizeOf63 O (fB oM O (H4).get.2 O (fE O func71 (P5 H4.f2) ?_))))
  rintro _ w5 ⟨q5, ov5, nv5, rfl, H5⟩
  refine dO O (aW (dI dB O lH O O (H5).get.2) (dO O (bn 1 aJ O dH O (bn 2 bI O lH O (aI (dG 3 (l' := [_, _, _, _, _, _, _, _, _, _, _, _, _, _, _, _, _, _, _, _, _, _, _, _, _, _, _, _, _, _, _, _, _, _, _, _, _, _, _, _, _, _]) (us := [_, _, _]) H5.f5 lH O O O (aY (by first | rfl | exact Rd.one ((H5.f2).aN)) (aY (by first | rfl | exact Rd.one ((H5.f3).aN)) (aG bK))) O O) ?_)))))
  rintro _ w6 H6
  refine ql O (dO O (bn 1 aJ O dH O (bn 5 bI O kG O (aI (ni 6 H6 kG) ?_))))
  rintro _ w7 H7
  refine ql O (aW (fA (zl := [.slice none 0 0, .slice none 0 0]) (pl := [(0, 1), (1, 1)]) [_, _] mY zeroValue93 O (fun w => by kernel_rfl) O (.zero (zs := [.slice none 0 0]) O (.zero (zs := [.slice none 0 0]) O .nil)) O) (dO O (bn 1 aJ O dH O (bn 6 bI O sizeOf93 O (aI (dG 7 (l' := [_, _, _, _, _, _, _, _, _, _, _, _, _, _, _, _, _, _, _, _, _, _, _, _, _, _, _, _, _, _, _, _, _, _, _, _, _, _, _, _, _, _]) (us := [_, _]) H7 sizeOf93 O O O (aG (aG bK)) O O) ?_)))))
  rintro _ w8 H8
  refine ql O (jy O O (dO O (bn 1 aJ O dH O (bn 9 bI O aQ O (aI (ni 10 H8 aQ) ?_)))))
  rintro _ w9 H9
  refine dO O (bn 1 aJ O dH O (bn 10 bI O aj O (aI (ni 11 H9 aj) ?_)))
  rintro _ w10 sF
  refine dO O (bn 1 aJ O dH O (bn 11 bI O aQ O (aI (ni 12 sF aQ) ?_)))
  rintro _ Iq sG
  refine ql O (jy O O (dO O (bn 25 aJ O aQ O (aI (ni 25 sG aQ) ?_))))
  rintro _ w12 tN
  refine dO O (bn 26 aJ O aQ O (aI (ni 26 tN aQ) ?_))
  rintro _ Qz Ak
  refine dO O (bn 27 aJ O aj O (aI (ni 27 Ak aj) ?_))
  rintro _ TL Dh
  refine ql O (jy O O (dO O (bn 28 aJ O aj O (aI (ni 28 Dh aj) ?_))))
  rintro _ Ws CG
  refine dO O (bn 29 aJ O aj O (aI (ni 29 CG aj) ?_))
  rintro _ w16 yj
  refine dO O (bn 30 aJ O aj O (aI (ni 30 yj aj) ?_))
  rintro _ w17 EH
  refine jd (mP O (fD results29 O ?_))
  have HQ := (EH.f2.right.f5.f5.f5.f6.f5.f6).Kq
  rw [DU, ← O4] at HQ
  exact ⟨O, _, _, _, _, by rw [← O4]; exact HQ.f2.f3.f2⟩
theorem aeX (hl : List oH) (base most : Int) : iw (dw.new hl base most) [] [] 0 0 :=
  ⟨abd hl base most, ⟨⟨fun k => ⟨by show iD [] [] ≤ 16384; decide, by show ∀ g ∈ [], _; simp⟩, by show (0 : Nat) ≤ 60; decide, .inr rfl, by show ∀ e ∈ [], _; simp⟩, fun hi => absurd hi (by show ¬ false = true; decide), fun hi => absurd hi (by show ¬ false = true; decide)⟩, rfl, rfl, ⟨List.nodup_nil, by simp⟩, fun hi => absurd hi (by show ¬ false = true; decide)⟩
theorem Lh (H : V w0 w (iW h hl base most • F)) : iM prog 28 #[.pointer (some ⟨h, 0, none⟩)] w fun v' w' => ∃ y, v' = .tuple #[.pointer (some ⟨y, 0, none⟩), .int .i64 0] ∧ V w0 w' (ku y (dw.new hl base most) • iW h hl base most • F) := by
  refine iQ func28 ntmps28 ?_
  refine jw (iC O (sS O (bY O (aW (iJ oM O O) (jd (Ip O (fun h1 => ?_)))))))
  (try simp only [aF] at h1)
  refine iy (jw (aW (fA (zl := [.pointer none, .pointer none, .pointer none, .slice none 0 0, .slice none 0 0, .int .i64 0, .string .empty, .slice none 0 0, .slice none 0 0, .int .i64 0, .bool false, .int .i64 0, .bool false, .pointer none, .pointer none, .slice none 0 0, .slice none 0 0, .int .i64 0, .string .empty, .slice none 0 0, .slice none 0 0, .int .i64 0, .bool false, .int .i64 0, .bool false, .bool false, .bool false, .int .i64 0, .int .i64 0, .int .i64 0, .int .i64 0, .int .i64 0, .bool false, .int .i64 0, .int .i64 0, .int .i64 0, .bool false, .bool false, .bool false, .slice none 0 0, .bool false, .bool false]) (pl := [(0, 1), (1, 12), (13, 12), (25, 1), (26, 1), (27, 1), (28, 1), (29, 1), (30, 1), (31, 1), (32, 1), (33, 1), (34, 1), (35, 1), (36, 1), (37, 1), (38, 1), (39, 1), (40, 1), (41, 1)]) [_, _, _, _, _, _, _, _, _, _, _, _, _, _, _, _, _, _, _, _, _, _, _, _, _, _, _, _, _, _, _, _, _, _, _, _, _, _, _, _, _, _] aJ zeroValue98 O (fun w => by kernel_rfl) O (.zero (zs := [.pointer none]) O (.zero (zs := [.pointer none, .pointer none, .slice none 0 0, .slice none 0 0, .int .i64 0, .string .empty, .slice none 0 0, .slice none 0 0, .int .i64 0, .bool false, .int .i64 0, .bool false]) O (.zero (zs := [.pointer none, .pointer none, .slice none 0 0, .slice none 0 0, .int .i64 0, .string .empty, .slice none 0 0, .slice none 0 0, .int .i64 0, .bool false, .int .i64 0, .bool false]) O (.zero (zs := [.bool false]) O (.zero (zs := [.bool false]) O (.zero (zs := [.int .i64 0]) O (.zero (zs := [.int .i64 0]) O (.zero (zs := [.int .i64 0]) O (.zero (zs := [.int .i64 0]) O (.zero (zs := [.int .i64 0]) O (.zero (zs := [.bool false]) O (.zero (zs := [.int .i64 0]) O (.zero (zs := [.int .i64 0]) O (.zero (zs := [.int .i64 0]) O (.zero (zs := [.bool false]) O (.zero (zs := [.bool false]) O (.zero (zs := [.bool false]) O (.zero (zs := [.slice none 0 0]) O (.zero (zs := [.bool false]) O (.zero (zs := [.bool false]) O .nil)))))))))))))))))))) O) (iY (jo (l := [_, _, _, _, _, _, _, _, _, _, _, _, _, _, _, _, _, _, _, _, _, _, _, _, _, _, _, _, _, _, _, _, _, _, _, _, _, _, _, _, _, _]) H O O) ?_)))
  rintro _ w1 ⟨b1, rfl, H1⟩
  refine iP O (bY O (aW (fA (zl := [.slice none 0 0, .int .i64 0]) (pl := [(0, 1), (1, 1)]) [_, _] nK zeroValue138 O (fun w => by kernel_rfl) O (.zero (zs := [.slice none 0 0]) O (.zero (zs := [.int .i64 0]) O .nil)) O) (iY (jo (l := [_, _]) H1 O O) ?_)))
  rintro _ w2 ⟨b2, rfl, H2⟩
  refine dO O (bn 1 aJ O dH O (bn 1 bI O sizeOf86 O (aI (ni 2 H2.f2 sizeOf86) ?_)))
  rintro _ w3 H3
  refine ql O (bT O (fE O func29 (Jv (l := []) O H3.f2.f3.f3 (fun W _ => jP.nil W _ none 0 (by decide)) (by decide)) ?_))
  rintro _ w4 ⟨rfl, ph, pb, wv, nv, H4⟩
  refine ql O (iC O (ig O (Dw results28 O O ?_)))
  have HR := ((H4.f6.f6.f6.f6.f6.f6.f7).EX (k := .i32)).gG (e := 23) (sz := 1) none
  have HR2 := (V.OZ (E := []) (place := 0) (HR.adl (ls := [])).swap)
  have HR3 := ((HR2.Vg.Xi (sz := 1) none).Vh (k := .i64) none)
  have hT := Vu hl
  refine ⟨_, O, V.Yt (s := dw.new hl base most) (h := ph) (pb := pb) (pk := b2) (wv := wv) (nv := nv) (pv := .slice none 0 0) (gv := .slice none 0 0) (ch := false) (u0 := .pointer none) (u1 := .pointer none) (u2 := .slice none 0 0) (u3 := .slice none 0 0) (u4 := .int .i64 0) (u5 := .string .empty) (u6 := .slice none 0 0) (u7 := .slice none 0 0) (u8 := .int .i64 0) (u9 := .bool false) (ua := .int .i64 0) (ub := .bool false) (aeX hl base most) O ?_ ?_⟩
  · show V w0 _ (eF _ (.cells (_ :: _ :: _ :: _ :: _ :: _ :: .string (dR hl (fun _ => none) (hl.length : Int)) :: _).toArray _ (0, 0)) • _)
    rw [hT]
    exact HR3.f10.f10.f5.f5.f5.f10.f10.f8.f10.f10
  · rfl
theorem abV {es : List fJ} {A : List LE} {yf yt : Int} (h : iw s es A yf yt) (hi : s.inn = false) (hl : List oH) (base most : Int) (l : List Int) : iw (s.start hl base most l) es [] yf yt :=
  ⟨Vm h.ok hi _ _ _ _, ⟨⟨fun k => ⟨by show iD [] [] ≤ 16384; decide, by show ∀ g ∈ [], _; simp⟩, h.rx.1.2⟩, fun h2 => absurd (show s.inn = true from h2) (by rw [hi]; decide), fun h2 => absurd (show s.inn = true from h2) (by rw [hi]; decide)⟩, h.says, rfl, ⟨List.nodup_nil, by simp⟩, fun h2 => absurd (show s.inn = true from h2) (by rw [hi]; decide)⟩
theorem GR (H : V w0 w (ku y s • iW h hl base most • F)) (hr : jm w0 F .i32 v l) : iM prog 29 #[.pointer (some ⟨y, 0, none⟩), .pointer (some ⟨h, 0, none⟩), v] w fun v' w' =>
  v' = .int .i64 (s.tu l) ∧ V w0 w' (ku y (s.FC hl base most l) • iW h hl base most • F) := by
 by_cases hin : s.inn = true
 ·have hE : s.tu l = 1 := by unfold dw.tu; rw [if_pos hin]
  unfold dw.FC
  rw [if_neg (by rw [hE]; decide), hE]
  refine NC func29 ntmps29 ?_
  refine kQ O (aO (bY O (aW (iJ oM O O) (jd (Ip O (fun h1 => ?_))))))
  (try simp only [aF] at h1)
  refine iy (aO (aO ?_))
  obtain ⟨Js, yF, yG, yH, yI, AU, AV, Kv, AX, BR, AY, AZ, Ba, yJ, yK, yL, yM, yN, yO, yP, yQ, yR, yS, yT, yU, jO, qW, mF⟩ := (H).Ce
  refine aA (mJ O O (bn 32 aJ O aQ O (fB cZ O (mF).get.2 O (jv O (fun h2 => ?_) (fun h => by exfalso; (try simp only [aF] at h); simp [hin] at h)))))
  (try simp only [aF] at h2)
  refine mP O (aC (fD results29 O ?_))
  have PN := mF.f12.f12.f12.f12.f12.f12.f12.f12.f12.f12.f12.f12
  have LP := V.mV (s := s) jO PN
  exact ⟨O, LP.f2.f2⟩
 ·have hi : s.inn = false := by simpa using hin
  by_cases hlen : 1024 < l.length
  ·have hE : s.tu l = 3 := by unfold dw.tu; rw [if_neg hin, if_pos hlen]
   unfold dw.FC
   rw [if_neg (by rw [hE]; decide), hE]
   refine NC func29 ntmps29 ?_
   refine kQ O (aO (bY O (aW (iJ oM O O) (jd (Ip O (fun h1 => ?_))))))
   (try simp only [aF] at h1)
   refine iy (aO (aO ?_))
   obtain ⟨Js, yF, yG, yH, yI, AU, AV, Kv, AX, BR, AY, AZ, Ba, yJ, yK, yL, yM, yN, yO, yP, yQ, yR, yS, yT, yU, jO, qW, mF⟩ := (H).Ce
   refine aA (mJ O O (bn 32 aJ O aQ O (fB cZ O (mF).get.2 O ?_)))
   have PN := mF.f12.f12.f12.f12.f12.f12.f12.f12.f12.f12.f12.f12
   have LP := V.mV (s := s) jO PN
   refine jv O (fun h => by exfalso; (try simp only [aF] at h); simp [hi] at h) (fun h2 => ?_)
   (try simp only [aF] at h2)
   refine iy (bY O (fE O func69 (SV LP (fun W HW => hr W HW.right.right) hlen) ?_))
   rintro _ _ ⟨rfl, rfl⟩
   refine bT O (sD O O (sD O O (iC O (sS O (bY O (aW (gy O O) (jd (wcE O (fun h3 => ?_)))))))))
   (try simp only [aF] at h3)
   refine bY O (ig O (aC (fD results29 O ?_)))
   exact ⟨O, LP.f2.f2⟩
  ·have hE : s.tu l = 0 := by unfold dw.tu; rw [if_neg hin, if_neg hlen]
   unfold dw.FC
   rw [if_pos hE, hE]
   obtain ⟨h0, pb, pk, wv, nv, pv, gv, A, nw, es, yf, yt, ch, u0, u1, u2, u3, u4, u5, u6, u7, u8, u9, ua, ub, ok, pl, H⟩ := H.Ce
   have HI := H.f13
   refine (Jv hi (hr := fun W HW => hr W HW.right.right.right.right.right.right.right.right.right.right.right) (l := l) HI.f2 (by omega)).mono fun v' w' h9 => ?_
   obtain ⟨e9, ph, pb', wv', nv', H9⟩ := h9
   refine ⟨e9, ?_⟩
   have sF := H9.f7.right.f8.right.f8.right.f8.right.f8.right.f8.right.f8.right
   have HR3 := ((sF.Vg.Xi (sz := 1) none).Vh (k := .i64) none)
   have HX := HR3.f9.f13.f13.f13.f12.f8.f8.f8.f12.f12.f13.f13.f13
   rw [← Vu hl, show DV s.inn s.hl s.was [u0, u1, u2, u3, u4, u5, u6, u7, u8, u9, ua, ub] = DV s.inn hl s.was [u0, u1, u2, u3, u4, u5, u6, u7, u8, u9, ua, ub] from by rw [hi]; rfl] at HX
   refine V.mV (y := y) (s := s.start hl base most l) (h := ph) (pb := pb') (pk := pk) (wv := wv') (nv := nv') (pv := .slice none 0 0) (gv := .slice none 0 0) (nw := nw) (es := es) (ch := ch) (u0 := u0) (u1 := u1) (u2 := u2) (u3 := u3) (u4 := u4) (u5 := u5) (u6 := u6) (u7 := u7) (u8 := u8) (u9 := u9) (ua := ua) (ub := ub) (abV ok hi hl base most l) ?_
   rw [show (s.start hl base most l).zV = 0 from if_neg (by show ¬ s.inn = true; simp [hi]), show (s.start hl base most l).UA = 0 from if_neg (by show ¬ s.inn = true; simp [hi]), show (s.start hl base most l).UC = 0 from if_neg (by show ¬ s.inn = true; simp [hi])]
   exact HX
end
end Go.Proofs.YtgofgnlkpeghcaaGreatDoor
end
section
namespace Go.Proofs.YtgofgnlkpeghcaaGreatDoor
open Go.RowKit
theorem iw.nV {s : dw} {es : List fJ} {A : List LE} {yf yt : Int} (h : iw s es A yf yt) (E : List (List Int)) (a : Nat) (hE : E.length ≤ 60 ∧ (a < E.length ∨ a = 0) ∧ ∀ e ∈ E, e.length ≤ 1024) : iw { s.Sm E a with nV := true, cls := 1 } es A yf yt :=
  ⟨h.ok, ⟨⟨h.rx.1.1, hE⟩, h.rx.2.1, fun _ h2 => absurd h2 (by show ¬ (1 : Int) = 2; decide)⟩, h.says, h.EN, h.placed, h.L9⟩
theorem iw.lY {s : dw} {es : List fJ} {A : List LE} {yf yt : Int} (h : iw s es A yf yt) (a b : Int) : iw { s with lY := true, cls := 2, c := { s.c with fr := a, to := b } } es A a b :=
  ⟨h.ok, ⟨h.rx.1, fun hi => ⟨(h.rx.2.1 hi).1, (h.rx.2.1 hi).2.1, fun h2 => absurd h2 (by show ¬ true = false; decide)⟩, fun _ _ => rfl⟩, h.says, h.EN, h.placed, fun _ _ => ⟨rfl, rfl⟩⟩
section
variable {w0 w : World} {F : HP} {y : Nat} {s : dw} {i j x : Int} {back : Bool} {v : Value} {l : List Int}
theorem iw.ring {es : List fJ} {A : List LE} {yf yt : Int} (h : iw s es A yf yt) (E : List (List Int)) (a : Nat) (hE : E.length ≤ 60 ∧ (a < E.length ∨ a = 0) ∧ ∀ e ∈ E, e.length ≤ 1024) : iw (s.Sm E a) es A yf yt :=
  ⟨h.ok, ⟨⟨h.rx.1.1, hE⟩, h.rx.2.1, h.rx.2.2⟩, h.says, h.EN, h.placed, h.L9⟩
end
section
variable {w0 w : World} {F : HP} {y : Nat} {s : dw} {gl : Value} {Ac : List fJ}
theorem iw.I4 {es : List fJ} {A : List LE} {yf yt : Int} (h : iw s es A yf yt) : iw s.I4 es A yf yt := ⟨h.ok, h.rx, h.says, h.EN, h.placed, h.L9⟩
theorem iw.apps {es : List fJ} {A : List LE} {yf yt : Int} (h : iw s es A yf yt) (l : List kC) : iw (s.X5 l) es A yf yt := h.nC _ _ _
end
def RV (t : dw) (k : Nat) : dw := ((t.qR (t.here.take k)).X5 (((t.here.drop k).flatten).reverse.map LM)).I4
section
variable {w0 w : World} {F : HP} {y : Nat} {s : dw}
end
end Go.Proofs.YtgofgnlkpeghcaaGreatDoor
end
section
namespace Go.Proofs.YtgofgnlkpeghcaaGreatDoor
open Go.RowKit
open _root_.Go.Proofs.Tryz
theorem Jw {l : List ByteArray} {k : Nat} (hk : k < l.length) : (strs l).getD k undef = .string (l.getD k .empty) := by
  unfold strs
  simp [List.getD_eq_getElem?_getD, hk]
theorem abW (l : List ByteArray) (k : Nat) (b : ByteArray) : (strs l).set k (.string b) = strs (l.set k b) := by unfold strs; rw [List.map_set]
section
variable {w0 w : World} {F : HP} {y : Nat} {s : dw} {k x : Int} {nv : Value} {l : List ByteArray} {b : ByteArray}
theorem P8 {x0 x1 x2 x3 x5 x6 x7 x8 x9 x10 x11 x12 tZ x14 x15 x16 x17 x18 x19 x20 x21 uq x23 x24 x25 uz x27 x28 x29 x30 x31 x32 uX x34 D5 D6 D7 x38 x39 x40 x41 : Value} {n : Nat} (H : V w0 w (eF y (.cells (x0 :: x1 :: x2 :: x3 :: nv :: x5 :: x6 :: x7 :: x8 :: x9 :: x10 :: x11 :: x12 :: tZ :: x14 :: x15 :: x16 :: x17 :: x18 :: x19 :: x20 :: x21 :: uq :: x23 :: x24 :: x25 :: uz :: x27 :: x28 :: x29 :: x30 :: x31 :: x32 :: uX :: x34 :: D5 :: D6 :: D7 :: x38 :: x39 :: x40 :: x41 :: []).toArray 98 (0, 0)) • Row 9 1 nv n (strs l) • F)) (hk : 0 ≤ k ∧ k < n ∧ l.length = n) : iM prog 75 #[.pointer (some ⟨y, 3, none⟩), .int .i64 k] w fun v w' => v = .tuple #[.string (l.getD k.toNat .empty), .bool true] ∧ V w0 w' (eF y (.cells (x0 :: x1 :: x2 :: x3 :: nv :: x5 :: x6 :: x7 :: x8 :: x9 :: x10 :: x11 :: x12 :: tZ :: x14 :: x15 :: x16 :: x17 :: x18 :: x19 :: x20 :: x21 :: uq :: x23 :: x24 :: x25 :: uz :: x27 :: x28 :: x29 :: x30 :: x31 :: x32 :: uX :: x34 :: D5 :: D6 :: D7 :: x38 :: x39 :: x40 :: x41 :: []).toArray 98 (0, 0)) • Row 9 1 nv n (strs l) • F) := by
  obtain ⟨hk1, hk2, hk3⟩ := hk
  refine qI func75 ntmps75 ?_
  refine jw (iC O (sS O (bY O (aW (fG O O) (mX O (fun h => by exfalso; (try simp only [aF] at h); omega) (fun h1 => ?_))))))
  (try simp only [aF] at h1)
  refine bW (bT O (bW (bT O (bW (dO O (bW (bn 1 dB O jE O (bW (fB dJ O (H).get.2 O (bW (aW (fV ((H.f2).aN) dJ O) (bW (aW (nM O O) (kX O O (jv O (fun h => by exfalso; (try simp only [aF] at h); omega) (fun h2 => ?_))))))))))))))))
  (try simp only [aF] at h2)
  refine iy (bY O (dO O (bn 1 dB O jE O (fB dJ O (H).get.2 O (bT O ?_)))))
  obtain ⟨bnv, onv, cnv, env⟩ := Rd.nR ((H.f2).aN) (by omega)
  cases env
  refine aW (dD dJ kG O O (by omega)) ?_
  refine aW (EP (eG (dn dU O) O (by first | exact Rd.sO ((H.f2).aN) (by omega) | exact Rd.EF ((H.f2).aN) (by omega) | exact Rd.Ey ((H.f2).aN) (by omega))) (Jw (l := l) (by omega))) ?_
  refine iC O (ig O (Dw results75 O O ?_))
  exact ⟨O, H.f2.f2⟩
theorem Vw {x0 x1 x2 x3 x6 x7 x8 x9 x10 x11 x12 tZ x14 x15 x16 x17 x18 x19 x20 x21 uq x23 x24 x25 uz x27 x28 x29 x30 x31 x32 uX x34 D5 D6 D7 x38 x39 x40 x41 : Value} {n : Nat} (H : V w0 w (eF y (.cells (x0 :: x1 :: x2 :: x3 :: nv :: .int .i64 x :: x6 :: x7 :: x8 :: x9 :: x10 :: x11 :: x12 :: tZ :: x14 :: x15 :: x16 :: x17 :: x18 :: x19 :: x20 :: x21 :: uq :: x23 :: x24 :: x25 :: uz :: x27 :: x28 :: x29 :: x30 :: x31 :: x32 :: uX :: x34 :: D5 :: D6 :: D7 :: x38 :: x39 :: x40 :: x41 :: []).toArray 98 (0, 0)) • Row 9 1 nv n (strs l) • F)) (hk : 0 ≤ k ∧ k < n ∧ l.length = n) (hx : 0 ≤ x ∧ x < n) (hb : b.size ≤ 16384) : iM prog 76 #[.pointer (some ⟨y, 3, none⟩), .int .i64 k, .string b] w fun v w' =>
  v = .tuple #[.string ((l.set x.toNat b).getD k.toNat .empty), .int .i64 0] ∧ V w0 w' (eF y (.cells (x0 :: x1 :: x2 :: x3 :: nv :: .int .i64 k :: x6 :: x7 :: x8 :: x9 :: x10 :: x11 :: x12 :: tZ :: x14 :: x15 :: x16 :: x17 :: x18 :: x19 :: x20 :: x21 :: uq :: x23 :: x24 :: x25 :: uz :: x27 :: x28 :: x29 :: x30 :: x31 :: x32 :: uX :: x34 :: D5 :: D6 :: D7 :: x38 :: x39 :: x40 :: x41 :: []).toArray 98 (0, 0)) • Row 9 1 nv n (strs (l.set x.toNat b)) • F) := by
 obtain ⟨hk1, hk2, hk3⟩ := hk
 obtain ⟨hx1, hx2⟩ := hx
 have hls : (l.set x.toNat b).length = n := by rw [List.length_set]; exact hk3
 refine NC func76 ntmps76 ?_
 refine jw (iC O (sS O (bY O (aW (fG O O) (mX O (fun h => by exfalso; (try simp only [aF] at h); omega) (fun h1 => ?_))))))
 (try simp only [aF] at h1)
 refine bW (bT O (bW (bT O (bW (dO O (bW (bn 1 dB O jE O (bW (fB dJ O (H).get.2 O (bW (aW (fV ((H.f2).aN) dJ O) (bW (aW (nM O O) (kX O O (jv O (fun h => by exfalso; (try simp only [aF] at h); omega) (fun h2 => ?_))))))))))))))))
 (try simp only [aF] at h2)
 refine iy (aO (bY O (aW (JF dU O) (aW (iT O O) (jv O (fun h => by exfalso; (try simp only [aF] at h); omega) (fun h3 => ?_))))))
 (try simp only [aF] at h3)
 refine iy (aO ?_)
 have Xb := H.drew
 have sN := V.kp (Xb.f2.f2)
 refine uU [3, 7] sN O (gQ 0 O sN O (jQ 1 O sN O (fQ 2 O sN 1 dB O jE O (iO 3 O sN (fun W hW => jT dJ O ((Kp.h hW)).get.2 O) (gQ 4 O sN O (jQ 5 O sN O (fQ 6 O sN 2 dB O aj O (iO 7 O sN (fun W hW => jT aB O ((Kp.h hW)).get.2 O) (gQ 8 O sN O ?_)))))))))
 obtain ⟨bnv, onv, cnv, env⟩ := Rd.nR ((Xb.f2).aN) (by omega)
 cases env
 refine iL 9 O sN (fun _ => dD dJ kG O O (by omega)) ?_
 refine gU 10 O (by kernel_rfl) (sQ 0 Xb.f2 kG O O (by first | rfl | assumption) (by omega) (by decide)) ?_
 rintro _ w1 H1
 have Xj := V.kp (H1.f2.f2)
 refine fH Xj (by kernel_rfl) ?_
 have HS5 := H1
 rw [Nat.mul_one, Nat.add_zero, abW] at HS5
 have Ho2 := H1
 refine qj (aZ (bY O (mJ O O (bn 2 dB O aj O (aI (ni 5 HS5.f2 aj) ?_)))))
 rintro _ w3 H3
 refine ql O (dO O (bn 1 dB O jE O (fB dJ O (H3).get.2 O (bT O (aW (dD dJ kG O O (by omega)) ?_)))))
 refine aW (EP (eG (dn dU O) O (by first | exact Rd.sO ((H3.f2).aN) (by omega) | exact Rd.EF ((H3.f2).aN) (by omega) | exact Rd.Ey ((H3.f2).aN) (by omega))) (Jw (l := l.set x.toNat b) (by omega))) ?_
 refine iC O (ig O (Dw results76 O O ?_))
 exact ⟨O, H3.f2.f2⟩
theorem Tj (H : V w0 w (ku y s • F)) (hR : vP s.c.L) : iM prog 74 #[.pointer (some ⟨y, 0, none⟩)] w fun v' w' => v' = .string s.pK ∧ V w0 w' (ku y s • F) := by
 refine iQ func74 ntmps74 ?_
 obtain ⟨Js, yF, yG, yH, yI, AU, AV, Kv, AX, BR, AY, AZ, Ba, yJ, yK, yL, yM, yN, yO, yP, yQ, yR, yS, yT, yU, jO, qW, mF⟩ := (H).Ce
 obtain ⟨hv9, hk9, _⟩ := (mF.f9).CV
 have hsz : (dR s.hl s.c.tx s.c.place).size ≤ 16384 := qB hk9.2.2.2.2.2 jO.ok.1.2.2 _
 have hbz : (uP (dR s.hl s.c.tx s.c.place)).length ≤ 17179869184 := by rw [oq]; omega
 have hbi : GY (uP (dR s.hl s.c.tx s.c.place)) := vH _
 obtain ⟨ac4, ac5, Nc, Nh, Nj, ac6, ac7, Tf⟩ := (mF.f2).ref
 refine kQ O (aO (aO ?_))
 have IC := Tf.drew
 have jk := V.kp (IC.f13.f13.f13.f13.f13.f13.f13.f13.f13.f13.f13.f13.f13)
 refine uU [4, 11, 14] jk O (gQ 0 O jk O (jQ 1 O jk O (fQ 2 O jk 1 aJ O dH O (fQ 3 O jk 5 bI O kG O (iO 4 O jk (fun W hW => jT dU O ((Kp.h hW).f3).get.2 O) (gQ 7 O jk O (jQ 8 O jk O (fQ 9 O jk 1 aJ O dH O (fQ 10 O jk 0 bI O pI O (iO 11 O jk (fun W hW => jT qH O ((Kp.h hW).f3).get.2 O) (jQ 12 O jk O (fQ 13 O jk 0 bC O bF O (iO 14 O jk (fun W hW => jT ay O ((Kp.h hW)).get.2 O) (lU 5 O (rE IC dU bf bD O (by omega)) ?_))))))))))))))
 rintro l3 w3 H3
 have nT := V.kp (H3.f14.f14.f14.f14.f14.f14.f14.f14.f14.f14.f14.f14.f14.f14)
 refine dZ nT (fun W hW => (Kp.h hW).right.f13.f13.f13.f13.f13.f13.f13.f13.f13.f13.f13.f13.f13) ?_
 refine lU 6 O (wY O func41 (zG H3 (fun W HW => (HW).jh) (by assumption) (by omega))) ?_
 rintro u4 w4 H4
 have uZ := V.kp (H4.f15.f15.f15.f15.f15.f15.f15.f15.f15.f15.f15.f15.f15.f15.f15)
 refine dZ uZ (fun W hW => (Kp.h hW).right.f14.f14.f14.f14.f14.f14.f14.f14.f14.f14.f14.f14.f14.f14) ?_
 refine lU 15 O (wY O func123 (aaA _ _ _ _ _ ((H4).aN) ((H4.f4).aN))) ?_
 rintro _ w5 ⟨rfl, hD5⟩
 have HD5 := H4.Gp hD5
 have vw := V.kp (HD5.f15.f15.f15.f15.f15.f15.f15.f15.f15.f15.f15.f15.f15.f15.f15)
 refine fH vw (by kernel_rfl) ?_
 refine qj (aZ (dA O (fun h1 => ?_) (fun h1 => ?_)))
 ·(try simp only [aF] at h1)
  have hq := h1
  refine bY O (dO O (bn 1 aJ O dH O (bn 5 bI O kG O (fB dU O (HD5.f5).get.2 O (ig O (aC (fD results74 O ?_)))))))
  have RY := HD5.f4.f4
  have PS := V.qV Nc Nh Nj RY
  have Om := PS.f14.f14.f14.f14.f14.f14.f14.f14.f14.f14.f11.f14
  have LU := V.mV (s := s) jO Om
  exact ⟨by unfold dw.pK Ep; rw [if_pos hq] <;> rfl, LU.f2.right.f2.right⟩
 ·(try simp only [aF] at h1)
  have hq := h1
  refine iy (bY O (dO O (bn 1 aJ O dH O (bn 0 bI O pI O (fB qH O (HD5.f5).get.2 O (dO O (bn 0 bC O bF O (fB ay O (HD5.f3).get.2 O (fE O func124 (PV HD5 (fun W HW => (HW.f4).aN) (by assumption) (by omega)) ?_)))))))))
  rintro u12 w12 tN
  refine aW (KU bf dU bD O ((tN).aN)) (ig O (fD results74 O ?_))
  have Sv := tN.f5.f5
  have Sz := V.qV Nc Nh Nj Sv
  have WJ := Sz.f15.f15.f15.f15.f15.f15.f15.f15.f15.f15.f11.f15
  have aaV := V.mV (s := s) jO WJ
  exact ⟨by unfold dw.pK Ep; rw [if_neg hq] <;> rfl, aaV.f2.right.f2.right.f2.right⟩
theorem iw.goto {t : dw} {es : List fJ} {A : List LE} {yf yt : Int} {l : List Int} (h : iw t es A yf yt) (hp : t.put = []) (hk : ¬ (k < 0 ∨ (t.hl.length : Int) < k)) (hh : t.pK.size ≤ 16384) :
    iw { t with whole := false, c := { t.c with tx := sV t.c.tx t.c.place (some t.pK), place := k, L := l, pt := l.length, mark := -1, run := false } } es A yf yt :=
  ⟨Ym h.ok hp hk hh (h.rx.1.1 k).1, h.rx, h.says, h.EN, h.placed, h.L9⟩
theorem Tn (H : V w0 w (ku y s • F)) (hR : vP s.c.L) : iM prog 32 #[.pointer (some ⟨y, 0, none⟩), .int .i64 k] w fun v' w' => v' = .int .i64 (s.qC k) ∧ V w0 w' (ku y (s.wz k) • F) := by
 refine qI func32 ntmps32 ?_
 obtain ⟨Js, yF, yG, yH, yI, AU, AV, Kv, AX, BR, AY, AZ, Ba, yJ, yK, yL, yM, yN, yO, yP, yQ, yR, yS, yT, yU, jO, qW, mF⟩ := (H).Ce
 obtain ⟨hv9, hk9, _⟩ := (mF.f9).CV
 have hcl := hk9.1
 have hLl : s.c.L.length ≤ 1024 := by obtain ⟨a, c, h4, _⟩ := (mF.f2).ref; exact h4
 have hpl0 := jO.ok.1.1
 have ajF := jO.ok.1.2.1
 have hsz : (dR s.hl s.c.tx s.c.place).size ≤ 16384 := qB hk9.2.2.2.2.2 jO.ok.1.2.2 _
 have hsk : (dR s.hl s.c.tx k).size ≤ 16384 := qB hk9.2.2.2.2.2 jO.ok.1.2.2 _
 have VQ : s.pK.size ≤ 16384 := J7 jO.ok.1 hk9.2.2.2.2.2 hLl
 refine kQ O (aO (bY O (dO O (bn 32 aJ O aQ O (fB cZ O (mF).get.2 O (aW (mG O) (jv O (fun h1 => ?_) (fun h1 => ?_))))))))
 ·(try simp only [aF] at h1)
  have hin : s.inn = false := by simpa using h1
  refine mP O (aC (fD results32 O ?_))
  have PN := mF.f12.f12.f12.f12.f12.f12.f12.f12.f12.f12.f12.f12
  have LP := V.mV (s := s) jO PN
  exact ⟨by simp [dw.qC, dw.wz, hin], by rw [show s.wz k = s from by simp [dw.qC, dw.wz, hin]]; exact LP⟩
 ·(try simp only [aF] at h1)
  have hin : s.inn = true := by simpa using h1
  refine iy (aO (aO ?_))
  obtain ⟨Xl, Kw, BX⟩ := (mF.f9).CV
  refine aA (bT O (aW (fG O O) (mX O (fun h2 => ?_) (fun h2 => ?_))))
  ·(try simp only [aF] at h2)
   refine dF (dF (dF (dF (dF (dF (dF (dF (dF (dF (nZ O O (jd (GV (aO ?_)))))))))))))
   have RY := BX.f2.f2
   have PS := V.wB Kw RY
   refine aA (ig O (aC (fD results32 O ?_)))
   have hE : s.qC k = 6 := by unfold dw.qC; rw [if_pos hin, if_pos (by omega)]
   have Om := PS.f12.f12.f12.f4.f12.f12.f12.f12.f12.f12.f12.f12
   have LU := V.mV (s := s) jO Om
   exact ⟨by rw [hE], by unfold dw.wz; rw [if_neg (by rw [hE]; decide)]; exact LU⟩
  ·(try simp only [aF] at h2)
   refine bW (bT O (bW (bT O (bW (dO O (bW (bn 0 aJ O sizeOf63 O (bW (fB oM O (BX.f3).get.2 O (bW (dO O (bW (bn 0 gY O gW O (bW (fB bM O (BX).get.2 O (bW (aW (fV ((BX.f2).yB) bM O) (bW (aW (iT O O) (kX O O (jv O (fun h3 => ?_) (fun h3 => ?_))))))))))))))))))))))
   ·(try simp only [aF] at h3)
    refine aO ?_
    have aeO := BX.f2.f2
    have aeP := V.wB Kw aeO
    refine aA (ig O (aC (fD results32 O ?_)))
    have hE : s.qC k = 6 := by unfold dw.qC; rw [if_pos hin, if_pos (by omega)]
    have aeY := aeP.f12.f12.f12.f4.f12.f12.f12.f12.f12.f12.f12.f12
    have aeZ := V.mV (s := s) jO aeY
    exact ⟨by rw [hE], by unfold dw.wz; rw [if_neg (by rw [hE]; decide)]; exact aeZ⟩
   ·(try simp only [aF] at h3)
    refine iy (aO ?_)
    have abP := BX.f2.f2
    have abQ := V.wB Kw abP
    have hgood : ¬ (k < 0 ∨ (s.hl.length : Int) < k) := by omega
    have hkk : 0 ≤ k ∧ k < ((s.hl.length + 1 : Nat) : Int) ∧ (mW s.hl s.c.tx).length = s.hl.length + 1 := ⟨by omega, by omega, pG _ _⟩
    have hnk : (mW s.hl s.c.tx).getD k.toNat .empty = s.stands k := by rw [BQ (by omega), Int.toNat_of_nonneg hkk.1]; rfl
    have htz : (if k = s.c.place then s.pK else s.stands k).size ≤ 16384 := by split; exact VQ; exact hsk
    have hb1 := oq (if k = s.c.place then s.pK else s.stands k)
    have hb2 := vH (if k = s.c.place then s.pK else s.stands k)
    have ah1 := abQ.f12.f12.f12.f4.f12.f12.f12.f12.f12.f12.f12.f12
    have ah2 := V.mV (s := s) jO ah1
    refine aA (bT O (fE O func74 (Tj ah2 (by assumption)) ?_))
    rintro _ w24 ⟨rfl, MN⟩
    obtain ⟨Js, yF, yG, yH, yI, AU, AV, Kv, AX, BR, AY, AZ, Ba, yJ, yK, yL, yM, yN, yO, yP, yQ, yR, yS, yT, yU, jO, qW, mF⟩ := (MN).Ce
    refine iP O (bY O (dO O (bn 1 aJ O dH O (bn 2 bI O lH O (bT O (fE O func75 (P8 mF.f5.f2 (by assumption)) ?_))))))
    rintro _ w26 ⟨rfl, Gh⟩
    refine bT O (sD O O (sD O O (iC O (iP O ?_))))
    refine rU [(0, _), (1, _), (5, _)] (fun (_ : Unit) => [(6, .string (if k = s.c.place then s.pK else s.stands k))]) (fun (_ : Unit) W => V w0 W (eF y (.cells (.pointer (some ⟨Js, 0, none⟩) :: .pointer (some ⟨yF, 0, none⟩) :: .pointer (some ⟨yG, 0, none⟩) :: yH :: yI :: .int .i64 s.c.place :: .string (dR s.hl s.c.tx s.c.place) :: AU :: AV :: .int .i64 s.c.mode :: .bool s.c.over :: .int .i64 s.c.res :: .bool s.c.run :: yJ :: yK :: yL :: yM :: yN :: yO :: yP :: yQ :: yR :: yS :: yT :: yU :: .bool s.given :: .bool s.minus :: .int .i64 s.arg :: .int .i64 s.zV :: .int .i64 s.UA :: .int .i64 s.UC :: .int .i64 s.sK :: .bool s.inn :: .int .i64 s.cls :: .int .i64 AY :: .int .i64 AZ :: .bool s.argues :: .bool s.nV :: .bool s.lY :: AX :: .bool s.whole :: .bool Ba :: []).toArray 98 (0, 0)) • kJ yF s.c.L s.c.pt s.c.mark • mD yG s.c.E s.c.at_ • uQ 1 yH (s.hl.length + 1) (strs (nP s.hl)) • Row 9 1 yI (s.hl.length + 1) (strs (mW s.hl s.c.tx)) • nS .i64 AU (Kv.map (·.1)) • uQ 1 AV Kv.length (Kv.map (·.2.1)) • tq Kv • iW Js s.hl s.base s.most • Row 183 3 AX s.put.length (BR.flatMap fJ.enc) • nX BR • DV s.inn s.hl s.was [yJ, yK, yL, yM, yN, yO, yP, yQ, yR, yS, yT, yU] • F)) Du ?_ ?_
    ·rintro _ w27 HJ
     dsimp only [List.cons_append, List.nil_append]
     refine bY O (iY (rE HJ dU bf bD O (by omega)) ?_)
     rintro l28 w28 ZP
     refine fE O func41 (zG ZP (fun W HW => (HW).jh) (by assumption) (by omega)) ?_
     rintro u29 w29 JQ
     refine sS O (bY O (aW (jJ ((JQ).aN) ay O) (aW (iT O O) (jv O (fun h4 => ?_) (fun h4 => ?_)))))
     ·(try simp only [aF] at h4)
      have hE : s.qC k = 6 := by have h9 := h4; unfold dw.qC; rw [if_pos hin, if_neg hgood, if_pos (show 1024 < (s.rJ k).length by unfold dw.rJ; omega)]
      refine mP O (aC (fD results32 O ?_))
      have ah3 := JQ.f14.f14.f14.f14.f14.f14.f14.f14.f14.f14.f14.f14
      have ah4 := V.mV (s := s) jO ah3
      exact ⟨by rw [hE], by unfold dw.wz; rw [if_neg (by rw [hE]; decide)]; exact ah4.f2.right.f2.right⟩
     ·(try simp only [aF] at h4)
      have hE : s.qC k = 0 := by have h9 := h4; unfold dw.qC; rw [if_pos hin, if_neg hgood, if_neg (show ¬ 1024 < (s.rJ k).length by unfold dw.rJ; omega)]
      have hshort : (s.rJ k).length ≤ 1024 := by have h9 := h4; unfold dw.rJ; omega
      refine iy (aO ?_)
      have ah5 := JQ.f14.f14.f14.f14.f14.f14.f14.f14.f14.f14.f14.f14
      have ah6 := V.mV (s := s) jO ah5
      refine aA (bT O (fE O func73 (P6 ah6.f3.right.f2.f2) ?_))
      rintro _ w36 H36
      obtain ⟨t, ht, HT⟩ : ∃ t, s.fM false = t ∧ V w0 w36 (ku y t • jR 21 .i32 u29 (s.rJ k) • F) := ⟨_, rfl, H36⟩
      obtain ⟨hfh, hft, hfp, hfL⟩ := OT s false
      rw [ht] at hfh hft hfp hfL
      have hth : t.pK = s.pK := by unfold dw.pK; rw [hfh, hft, hfp, hfL]
      have htp : t.put = [] := by rw [← ht]; exact (P7 s false).1
      have ah7 : 0 ≤ k ∧ k < ((t.hl.length + 1 : Nat) : Int) ∧ (mW t.hl t.c.tx).length = t.hl.length + 1 := ⟨by omega, by rw [hfh]; omega, pG _ _⟩
      have ah8 : 0 ≤ t.c.place ∧ t.c.place < ((t.hl.length + 1 : Nat) : Int) := by rw [hfp, hfh]; omega
      have hset : (mW t.hl t.c.tx).set t.c.place.toNat s.pK = mW t.hl (sV t.c.tx t.c.place (some t.pK)) := by
       have := Zr t.hl t.c.tx (k := t.c.place.toNat) s.pK (by omega)
       rw [Int.toNat_of_nonneg ah8.1] at this
       rw [hth]; exact this
      have htold : (mW t.hl (sV t.c.tx t.c.place (some t.pK))).getD k.toNat .empty = dR t.hl (sV t.c.tx t.c.place (some t.pK)) k := by rw [BQ (by omega), Int.toNat_of_nonneg ah7.1]
      obtain ⟨Js, yF, yG, yH, yI, AU, AV, Kv, AX, BR, AY, AZ, Ba, yJ, yK, yL, yM, yN, yO, yP, yQ, yR, yS, yT, yU, jO, qW, mF⟩ := (HT).Ce
      refine ql O (dO O (bn 1 aJ O dH O (bn 2 bI O lH O (jy O O (fE O func76 (Vw mF.f5.f2 (by assumption) (by assumption) (by assumption)) ?_)))))
      rintro _ w38 ⟨rfl, QG⟩
      have HT3 := QG
      rw [hset] at HT3
      rw [hset, htold]
      refine bT O (sD O O (sD O O (iC O (sS O (bY O (aW (gy O O) (jd (Ip O (fun h5 => ?_)))))))))
      (try simp only [aF] at h5)
      refine iy (bY O (mJ O O (bn 1 aJ O dH O (bn 5 bI O kG O (aI (ni 6 HT3 kG) ?_)))))
      rintro _ w39 H39
      refine ql O (jy O O (aW (jJ ((H39.f13).aN) ay O) ?_))
      refine aW (fA (zl := [.slice none 0 0, .int .i64 0, .int .i64 0]) (pl := [(0, 1), (1, 1), (2, 1)]) [_, _, _] bC zeroValue150 O (fun w => by kernel_rfl) O (.one (Rd.one ((H39.f13).aN)) (.on (.on .nil))) O) ?_
      refine iY (jo (l := [_, _, _]) H39 O O) ?_
      rintro _ w40 ⟨b40, rfl, H40⟩
      refine dO O (bn 1 aJ O dH O (bn 0 bI O pI O (aI (ni 1 H40.f2 pI) ?_)))
      rintro _ w41 H41
      refine ql O (mJ O O (bn 40 aJ O aQ O (aI (ni 40 H41 aQ) ?_)))
      rintro _ w42 WT
      refine dO O (bn 1 aJ O dH O (bn 11 bI O aQ O (aI (ni 12 WT aQ) ?_)))
      rintro _ w43 WU
      refine jd (mP O (fD results32 O ?_))
      have HB := V.qV (L := s.rJ k) (pt := (s.rJ k).length) (mk := -1) hshort ⟨by omega, by omega⟩ ⟨by omega, by omega⟩ WU.f4.right.f12.f12.f12.f12.f12.f12.f12.f10.f12.f12.f11.f13.f13
      have aez : t.pK.size ≤ 16384 := by rw [hth]; exact VQ
      exact ⟨by rw [hE], by unfold dw.wz; rw [if_pos hE]; dsimp only; rw [ht]; exact V.mV (s := { t with whole := false, c := { t.c with tx := sV t.c.tx t.c.place (some t.pK), place := k, L := s.rJ k, pt := (s.rJ k).length, mark := -1, run := false } }) (jO.goto htp (by rw [hfh]; exact hgood) aez) HB.f2⟩
    ·skip
     refine bY O (mJ O O (bn 1 aJ O dH O (bn 2 bI O lH O (bn 2 dB O aj O (fB aB O (Gh).get.2 O (aW (kP O O) (jv O (fun h6 => ?_) (fun h6 => ?_))))))))
     ·(try simp only [aF] at h6)
      have hkp : k = s.c.place := h6
      refine aA (bT O (iC O (bZ ?_)))
      refine gB (()) ?_ ?_ ?_
      ·exact (Sub.qP O (by first | (rw [if_pos hkp] <;> rfl) | (rw [if_neg hkp, ← hnk] <;> rfl)) (Sub.nil _))
      ·exact Du
      ·(try dsimp only)
       first | done | exact Gh.f12.f12.f12.f12.f12.f12.f12.f9.f12.f12.f12.f12
     ·(try simp only [aF] at h6)
      have hkp : ¬ k = s.c.place := h6
      refine dS ?_
      refine gB (()) ?_ ?_ ?_
      ·exact (Sub.qP O (by first | (rw [if_pos hkp] <;> rfl) | (rw [if_neg hkp, ← hnk] <;> rfl)) (Sub.nil _))
      ·exact Du
      ·(try dsimp only)
       first | done | exact Gh.f12.f12.f12.f12.f12.f12.f12.f9.f12.f12.f12.f12
end
theorem abX {n place k : Nat} (hp : place < n) (hk : k < n) : (((place : Int) + k).tmod n).toNat = if place + k < n then place + k else place + k - n := by
  rw [Int.tmod_eq_emod_of_nonneg (by omega)]
  split
  · rw [Int.emod_eq_of_lt (by omega) (by omega)]; omega
  · have : ((place : Int) + k) % n = place + k - n := by
      rw [show ((place : Int) + k) = (place + k - n) + n from by omega, Int.add_emod_right, Int.emod_eq_of_lt (by omega) (by omega)]
      omega
    rw [this]; omega
theorem Xm {E : List (List Int)} {a k : Nat} (ha : a < E.length) (hk : k < E.length) : (uj E a).getD k [] = E.getD (if a + k < E.length then a + k else a + k - E.length) [] := by
  unfold uj
  simp only [List.getD_eq_getElem?_getD]
  by_cases h : a + k < E.length
  · rw [if_pos h, List.getElem?_append_left (by simp; omega), List.getElem?_drop]
  · rw [if_neg h, List.getElem?_append_right (by simp; omega)]
    simp only [List.length_drop]
    rw [List.getElem?_take, if_pos (by omega)]
    congr 2; omega
theorem V.Zw {w0 w : World} {F : HP} {k : IntKind} {vs : List Value} {ls : List (List Int)} {j : Nat} (H : V w0 w (o7 k vs ls • F)) (hj : j < ls.length) : V w0 w (nS k (vs.getD j undef) (ls.getD j []) • o7 k vs ls • F) := H.uD.F9 (qJ (fun I h => h.2 j hj) _)
section
variable {w0 w : World} {F : HP} {p y : Nat} {E : List (List Int)} {place : Nat} {s : dw}
theorem O9 (H : V w0 w (mD p E place • F)) (hE : E.length ≤ 60 ∧ (place < E.length ∨ place = 0) ∧ ∀ e ∈ E, e.length ≤ 1024) : iM prog 135 #[.pointer (some ⟨p, 0, none⟩)] w fun v w' => ∃ us, V w0 w' (Row 23 1 v E.length us • o7 .i32 us (uj E place) • F) := by
 obtain ⟨u, HR⟩ := H.adF
 obtain ⟨us, HR⟩ := HR.swap.ll
 obtain ⟨au, cu, rfl, -⟩ := (HR.aN).form
 have hE1 : E.length ≤ 60 := hE.1
 have hul := HR.f2.Uf
 refine iQ func135 ntmps135 ?_
 refine kQ O (kQ O (aO (kQ O (bg ?_))))
 refine gq [(0, _)] (fun (⟨k, z⟩ : Nat × Value) => [(3, z), (4, .int .i64 (k : Int))]) (fun (⟨k, z⟩ : Nat × Value) W => k ≤ E.length ∧ ∃ zs, V w0 W (Row 23 1 z k zs • o7 .i32 zs ((uj E place).take k) • Row 23 1 (.slice au E.length cu) E.length us • o7 .i32 us E • eF p (.cells #[.slice au E.length cu, .int .i64 place] 138 (0, 0)) • F)) (fun (⟨k, z⟩ : Nat × Value) => E.length - k) ((0, .slice none 0 0)) oO rP ⟨by omega, [], (HR.f3.f3.f3).EX.gG none⟩ ?_
 rintro ⟨k, z⟩ w1 ⟨hk, zs, HL⟩
 dsimp only [List.cons_append, List.nil_append]
 refine aO (bY O (mJ O O (bn 0 nK O sizeOf22 O (fB bH O (HL.f5).get.2 O (aW (fV ((HL.f3).aN) bH O) (aW (fG O O) (jv O (fun h1 => ?_) (fun h1 => ?_))))))))
 ·(try simp only [aF] at h1)
  refine iy (aO (bg ?_))
  have hkl : k < E.length := by omega
  have hpl : place < E.length := by have := hE.2.1; omega
  have acJ := abX hpl hkl
  have hrl : (((place : Int) + k).tmod E.length).toNat < E.length := by rw [acJ]; split <;> omega
  have ajG := Int.tmod_nonneg (a := (place : Int) + k) (E.length : Int) (by omega)
  have htb := MP ((place : Int) + k) (show (0 : Int) < E.length by omega)
  have Ij := HL.drew
  have nY := V.kp (Ij.f5.f5.f5.f5.f5)
  refine uU [4, 8, 14, 18] nY O (gQ 0 O nY O (gQ 1 O nY O (jQ 2 O nY O (fQ 3 O nY 0 nK O sizeOf22 O (iO 4 O nY (fun W hW => jT bH O ((Kp.h hW).f5).get.2 O) (gQ 5 O nY O (jQ 6 O nY O (fQ 7 O nY 1 nK O aj O (iO 8 O nY (fun W hW => jT aB O ((Kp.h hW).f5).get.2 O) (gQ 9 O nY O (iL 10 O nY (fun _ => fP O O (by omega)) (gQ 11 O nY O (jQ 12 O nY O (fQ 13 O nY 0 nK O sizeOf22 O (iO 14 O nY (fun W hW => jT bH O ((Kp.h hW).f5).get.2 O) (iL 15 O nY (fun _ => fV ((Ij.f3).aN) bH O) (iL 16 O nY (fun _ => Ri O O (by omega)) ?_)))))))))))))))))
  obtain ⟨bu, ou, cu, eu⟩ := Rd.nR ((Ij.f3).aN) (by omega)
  cases eu
  refine iL 17 O nY (fun _ => dD bH bF O O (by omega)) ?_
  refine iO 18 O nY (fun W hW => eG (dn ay O) O (by first | exact Rd.sO (((Kp.h hW).f3).aN) (by omega) | exact Rd.EF (((Kp.h hW).f3).aN) (by omega) | exact Rd.Ey (((Kp.h hW).f3).aN) (by omega))) ?_
  refine VZ (fun aiK Xn => ?_)
  have PN := Ij.f4
  have LP := (by have HE := PN.Zw hrl; rw [← Xn] at HE; exact HE)
  refine lU 19 O (kU (vs := [_]) LP bH bF zeroValue23 O O O (by decide) (aY (by first | rfl | exact Rd.one ((by rw [Xn]; exact (LP.f2).FU (by omega)))) bK)) ?_
  rintro l5 w5 H5
  have vw := V.kp (H5.f7.f7.f7.f7.f7.f7.f7)
  refine fH vw (by kernel_rfl) ?_
  refine lU 20 O (eX H5.f4 bH Va O O O ((H5).aN) (aY (by first | rfl | exact Rd.one ((by rw [Xn]; exact (H5.f3).FU (by omega)))) bK) (by omega) (by omega)) ?_
  rintro l6 w6 H6
  have LQ := H6.f2.right
  have BK := V.kp (LQ.f6.f6.f6.f6.f6.f6)
  refine fH BK (by kernel_rfl) ?_
  have Ho8 := LQ.f2.f4
  have VT := Ho8.FV
  have HS := VT.f5.f4.f5.f4.f5
  refine iL 21 O BK (fun _ => fU O) (qj (aP (aZ (aA (bT O (aW (fP O O (by omega)) (iC O (bZ ?_))))))))
  refine dN ((k + 1, l6)) ?_ ?_ ?_ ?_
  ·exact rP
  ·exact oO
  ·(try dsimp only)
   first | done | exact ⟨by omega, _, by rw [FB (d := []) (by rw [F5]; exact hkl), Xm hpl hkl, ← acJ]; exact HS⟩
  ·(try dsimp only); omega
 ·(try simp only [aF] at h1)
  refine eH (aT (aT (bU (aZ (bY O (ig O (fD results135 O ?_)))))))
  obtain rfl : k = E.length := by omega
  have HZ := HL.f3.right.f3.right.f3.right.f2.f2
  rw [List.take_of_length_le (by rw [F5]; exact Nat.le_refl _)] at HZ
  exact ⟨_, HZ⟩
end
def Vx (hl : List oH) (tx : Int → Option ByteArray) (k : Nat) : Bool := !((dR hl tx k).toList == (vC hl k).toList)
def BZ (hl : List oH) (tx : Int → Option ByteArray) (n : Nat) : List (Int × ByteArray) := ((List.range n).filter (Vx hl tx)).map fun (k : Nat) => ((k : Int), dR hl tx k)
theorem Zx {hl : List oH} {tx : Int → Option ByteArray} {i : Nat} (h : Vx hl tx i = true) : BZ hl tx (i + 1) = BZ hl tx i ++ [((i : Int), dR hl tx i)] := by
  unfold BZ
  rw [List.range_succ, List.filter_append, List.map_append]
  simp [h]
theorem abY {hl : List oH} {tx : Int → Option ByteArray} {i : Nat} (h : Vx hl tx i = false) : BZ hl tx (i + 1) = BZ hl tx i := by
  unfold BZ
  rw [List.range_succ, List.filter_append, List.map_append]
  simp [h]
theorem Q7 (hl : List oH) (tx : Int → Option ByteArray) (i : Nat) : (BZ hl tx i).length ≤ i := by
  unfold BZ
  rw [List.length_map]
  exact Nat.le_trans (List.length_filter_le _ _) (by simp)
theorem Vy (hl : List oH) (tx : Int → Option ByteArray) (place : Int) (n : Nat) : o9 hl tx place n = (BZ hl tx n).filter fun x => decide (x.1 ≠ place) := by
  unfold o9 BZ
  rw [List.filter_map, List.filter_filter]
  congr 2
theorem Xo {l : List (Int × ByteArray)} {k : Nat} (hk : k < l.length) : (l.flatMap BP).getD (k * 2 + 0) undef = .int .i64 (l.getD k default).1 := by
  have h := congrArg (fun x => x.getD 0 undef) (o8 J4 hk default)
  simp only [List.getD_eq_getElem?_getD, List.getElem?_take, List.getElem?_drop] at h ⊢
  exact h
theorem abZ {l : List (Int × ByteArray)} {k : Nat} (hk : k < l.length) : (l.flatMap BP).getD (k * 2 + 1) undef = .string (l.getD k default).2 := by
  have h := congrArg (fun x => x.getD 1 undef) (o8 J4 hk default)
  simp only [List.getD_eq_getElem?_getD, List.getElem?_take, List.getElem?_drop] at h ⊢
  exact h
section
variable {w0 w : World} {F : HP} {p q y h pb pk : Nat} {x place base most pnt mk : Int} {E : List (List Int)} {at_ : Nat} {L : List Int} {wv nv : Value} {hl : List oH} {tx : Int → Option ByteArray} {m : Nat} {xs ys : List Value} {l : List ByteArray}
theorem Tq {x0 x2 x3 x4 x5 x6 x7 x8 x9 x10 x11 x12 tZ x14 x15 x16 x17 x18 x19 x20 x21 uq x23 x24 x25 uz x27 x28 x29 x30 x31 x32 uX x34 D5 D6 D7 x38 x39 x40 x41 : Value} (H : V w0 w (eF y (.cells (x0 :: .pointer (some ⟨pb, 0, none⟩) :: x2 :: x3 :: x4 :: x5 :: x6 :: x7 :: x8 :: x9 :: x10 :: x11 :: x12 :: tZ :: x14 :: x15 :: x16 :: x17 :: x18 :: x19 :: x20 :: x21 :: uq :: x23 :: x24 :: x25 :: uz :: x27 :: x28 :: x29 :: x30 :: x31 :: x32 :: uX :: x34 :: D5 :: D6 :: D7 :: x38 :: x39 :: x40 :: x41 :: []).toArray 98 (0, 0)) • kJ pb L pnt mk • F)) : iM prog 88 #[.pointer (some ⟨y, 0, none⟩)] w fun v w' => ∃ u, v = .agg (qX u pnt mk) ∧ V w0 w' (jR 21 .i32 u L • eF y (.cells (x0 :: .pointer (some ⟨pb, 0, none⟩) :: x2 :: x3 :: x4 :: x5 :: x6 :: x7 :: x8 :: x9 :: x10 :: x11 :: x12 :: tZ :: x14 :: x15 :: x16 :: x17 :: x18 :: x19 :: x20 :: x21 :: uq :: x23 :: x24 :: x25 :: uz :: x27 :: x28 :: x29 :: x30 :: x31 :: x32 :: uX :: x34 :: D5 :: D6 :: D7 :: x38 :: x39 :: x40 :: x41 :: []).toArray 98 (0, 0)) • kJ pb L pnt mk • F) := by
 refine iQ func88 ntmps88 ?_
 refine jw (iY (fK (l := [_, _, _]) H sU O) ?_)
 rintro _ w1 ⟨b1, rfl, H1⟩
 refine ql O (dO O (bn 1 aJ O dH O (bn 0 bI O pI O (fB qH O (H1.f2).get.2 O (fE O func134 (Vp H1.f3) ?_)))))
 rintro _ w2 ⟨u2, rfl, H2⟩
 refine aI (dG 0 (l' := [_, _, _]) (us := [_, _, _]) H2.f3 sizeOf52 O O O (aY (by first | rfl | exact Rd.one ((H2).aN)) (aG (aG bK))) O O) ?_
 rintro _ w3 H3
 refine zkc ?_
 refine rW (.inl O) (Lr results88 O lC O (by rw [Uo]; rfl) (H3).get.2) ?_
 exact ⟨_, O, H3.right.f2.f3.f3⟩
theorem P9 {x0 x1 x3 x4 x5 x6 x7 x8 x9 x10 x11 x12 tZ x14 x15 x16 x17 x18 x19 x20 x21 uq x23 x24 x25 uz x27 x28 x29 x30 x31 x32 uX x34 D5 D6 D7 x38 x39 x40 x41 : Value} (H : V w0 w (eF y (.cells (x0 :: x1 :: .pointer (some ⟨pk, 0, none⟩) :: x3 :: x4 :: x5 :: x6 :: x7 :: x8 :: x9 :: x10 :: x11 :: x12 :: tZ :: x14 :: x15 :: x16 :: x17 :: x18 :: x19 :: x20 :: x21 :: uq :: x23 :: x24 :: x25 :: uz :: x27 :: x28 :: x29 :: x30 :: x31 :: x32 :: uX :: x34 :: D5 :: D6 :: D7 :: x38 :: x39 :: x40 :: x41 :: []).toArray 98 (0, 0)) • mD pk E at_ • F)) (hE : E.length ≤ 60 ∧ (at_ < E.length ∨ at_ = 0) ∧ ∀ e ∈ E, e.length ≤ 1024) : iM prog 89 #[.pointer (some ⟨y, 0, none⟩)] w fun v w' => ∃ us,
    V w0 w' (Row 23 1 v E.length us • o7 .i32 us (uj E at_) • eF y (.cells (x0 :: x1 :: .pointer (some ⟨pk, 0, none⟩) :: x3 :: x4 :: x5 :: x6 :: x7 :: x8 :: x9 :: x10 :: x11 :: x12 :: tZ :: x14 :: x15 :: x16 :: x17 :: x18 :: x19 :: x20 :: x21 :: uq :: x23 :: x24 :: x25 :: uz :: x27 :: x28 :: x29 :: x30 :: x31 :: x32 :: uX :: x34 :: D5 :: D6 :: D7 :: x38 :: x39 :: x40 :: x41 :: []).toArray 98 (0, 0)) • mD pk E at_ • F) := by
  refine iQ func89 ntmps89 ?_
  refine kQ O (bY O (dO O (bn 1 aJ O dH O (bn 1 bI O sizeOf86 O (fB underlying86 O (H).get.2 O (fE O func120 (FD H.f2 (by assumption)) ?_))))))
  rintro _ w1 ⟨q1, rfl, H1⟩
  refine fE O func135 (O9 H1 (by assumption)) ?_
  rintro u2 w2 ⟨us2, H2⟩
  refine ig O (fD results89 O ?_)
  exact ⟨_, H2.f3.f4.f4.f4⟩
theorem Qa {x0 x1 x2 x6 x7 x8 x9 x10 x11 x12 tZ x14 x15 x16 x17 x18 x19 x20 x21 uq x23 x24 x25 uz x27 x28 x29 x30 x31 x32 uX x34 D5 D6 D7 x38 x39 x40 x41 : Value} (H : V w0 w (eF y (.cells (x0 :: x1 :: x2 :: wv :: nv :: .int .i64 x :: x6 :: x7 :: x8 :: x9 :: x10 :: x11 :: x12 :: tZ :: x14 :: x15 :: x16 :: x17 :: x18 :: x19 :: x20 :: x21 :: uq :: x23 :: x24 :: x25 :: uz :: x27 :: x28 :: x29 :: x30 :: x31 :: x32 :: uX :: x34 :: D5 :: D6 :: D7 :: x38 :: x39 :: x40 :: x41 :: []).toArray 98 (0, 0)) • Row 9 1 nv m ys • uQ 1 wv m xs • F)) (hy : ∀ u ∈ ys, u.oneCell' = true) (hm : m ≤ 4097) : iM prog 121 #[.pointer (some ⟨y, 3, none⟩)] w fun v w' => ∃ q nv', v = .pointer (some ⟨q, 0, none⟩) ∧
  V w0 w' (eF q (.cells #[wv, nv', .int .i64 x] 89 (0, 0)) • Row 9 1 nv' m ys • eF y (.cells (x0 :: x1 :: x2 :: wv :: nv :: .int .i64 x :: x6 :: x7 :: x8 :: x9 :: x10 :: x11 :: x12 :: tZ :: x14 :: x15 :: x16 :: x17 :: x18 :: x19 :: x20 :: x21 :: uq :: x23 :: x24 :: x25 :: uz :: x27 :: x28 :: x29 :: x30 :: x31 :: x32 :: uX :: x34 :: D5 :: D6 :: D7 :: x38 :: x39 :: x40 :: x41 :: []).toArray 98 (0, 0)) • Row 9 1 nv m ys • uQ 1 wv m xs • F) := by
 refine iQ func121 ntmps121 ?_
 refine kQ O (aO ?_)
 have OB := H.drew
 have lS := V.kp (OB.f3.f3.f3)
 refine uU [3, 7, 12] lS O (gQ 0 O lS O (jQ 1 O lS O (fQ 2 O lS 0 dB O jE O (iO 3 O lS (fun W hW => jT dJ O ((Kp.h hW)).get.2 O) (gQ 4 O lS O (jQ 5 O lS O (fQ 6 O lS 1 dB O jE O (iO 7 O lS (fun W hW => jT dJ O ((Kp.h hW)).get.2 O) (gQ 9 O lS O (jQ 10 O lS O (fQ 11 O lS 2 dB O aj O (iO 12 O lS (fun W hW => jT aB O ((Kp.h hW)).get.2 O) (lU 8 O (eX (OB.gG none) dJ abJ O O O ((OB.f2).aN) (by assumption) (by omega) (by omega)) ?_)))))))))))))
 rintro l1 w1 H1
 have Xj := V.kp (H1.f4.f4.f4.f4)
 refine dZ Xj (fun W hW => (Kp.h hW).right.f3.f3.f3) ?_
 refine iL 13 O Xj (fun _ => fA (zl := [.slice none 0 0, .slice none 0 0, .int .i64 0]) (pl := [(0, 1), (1, 1), (2, 1)]) [_, _, _] dB zeroValue89 O (fun w => by kernel_rfl) O (.one (Rd.one ((H1.f4).oD)) (.one (Rd.one ((H1).aN)) (.on .nil))) O) ?_
 refine lU 14 O (jo (l := [_, _, _]) H1 O O) ?_
 rintro _ w2 ⟨b2, rfl, H2⟩
 have zT := V.kp (H2.f5.f5.f5.f5.f5)
 refine fH zT (by kernel_rfl) ?_
 refine iL 15 O zT (fun _ => fU O) (qj (aZ (mZ (fD results121 O ?_))))
 have HQ := H2.f5.f5.f5.f5.f5
 rw [Nat.zero_add, List.nil_append] at HQ
 exact ⟨_, _, O, HQ⟩
theorem Pe {k : Int} {n : Nat} (H : V w0 w (eF q (.cells #[wv, nv, .int .i64 x] 89 (0, 0)) • Row 9 1 nv n (strs l) • F)) (hk : 0 ≤ k ∧ k < n ∧ l.length = n) : iM prog 75 #[.pointer (some ⟨q, 0, none⟩), .int .i64 k] w fun v w' => v = .tuple #[.string (l.getD k.toNat .empty), .bool true] ∧
    V w0 w' (eF q (.cells #[wv, nv, .int .i64 x] 89 (0, 0)) • Row 9 1 nv n (strs l) • F) := by
  obtain ⟨hk1, hk2, hk3⟩ := hk
  refine qI func75 ntmps75 ?_
  refine jw (iC O (sS O (bY O (aW (fG O O) (mX O (fun h => by exfalso; (try simp only [aF] at h); omega) (fun h1 => ?_))))))
  (try simp only [aF] at h1)
  refine bW (bT O (bW (bT O (bW (dO O (bW (bn 1 dB O jE O (bW (fB dJ O (H).get.2 O (bW (aW (fV ((H.f2).aN) dJ O) (bW (aW (nM O O) (kX O O (jv O (fun h => by exfalso; (try simp only [aF] at h); omega) (fun h2 => ?_))))))))))))))))
  (try simp only [aF] at h2)
  refine iy (bY O (dO O (bn 1 dB O jE O (fB dJ O (H).get.2 O (bT O ?_)))))
  obtain ⟨bnv, onv, cnv, env⟩ := Rd.nR ((H.f2).aN) (by omega)
  cases env
  refine aW (dD dJ kG O O (by omega)) ?_
  refine aW (EP (eG (dn dU O) O (by first | exact Rd.sO ((H.f2).aN) (by omega) | exact Rd.EF ((H.f2).aN) (by omega) | exact Rd.Ey ((H.f2).aN) (by omega))) (Jw (l := l) (by omega))) ?_
  refine iC O (ig O (Dw results75 O O ?_))
  exact ⟨O, H.f2.f2⟩
theorem Jy (H : V w0 w (eF q (.cells #[wv, nv, .int .i64 x] 89 (0, 0)) • Row 9 1 nv (hl.length + 1) (strs (mW hl tx)) • uQ 1 wv (hl.length + 1) (strs (nP hl)) • F)) (hb : hl.length ≤ 4096) : iM prog 136 #[.pointer (some ⟨q, 0, none⟩)] w fun v w' =>
  V w0 w' (Row 207 2 v (BZ hl tx hl.length).length ((BZ hl tx hl.length).flatMap BP) • eF q (.cells #[wv, nv, .int .i64 x] 89 (0, 0)) • Row 9 1 nv (hl.length + 1) (strs (mW hl tx)) • uQ 1 wv (hl.length + 1) (strs (nP hl)) • F) := by
 have hnl := pG hl tx
 have hol := DU hl
 refine iQ func136 ntmps136 ?_
 refine kQ O (kQ O (aO (kQ O (bg ?_))))
 refine gq [(0, _)] (fun (⟨i, u⟩ : Nat × Value) => [(3, u), (4, .int .i64 (i : Int))]) (fun (⟨i, u⟩ : Nat × Value) W => i ≤ hl.length ∧ V w0 W (Row 207 2 u (BZ hl tx i).length ((BZ hl tx i).flatMap BP) • eF q (.cells #[wv, nv, .int .i64 x] 89 (0, 0)) • Row 9 1 nv (hl.length + 1) (strs (mW hl tx)) • uQ 1 wv (hl.length + 1) (strs (nP hl)) • F)) (fun (⟨i, u⟩ : Nat × Value) => hl.length - i) ((0, .slice none 0 0)) oO rP ⟨by omega, (H.f3.f3.f3).gG none⟩ ?_
 rintro ⟨i, u⟩ w1 ⟨hi, HL⟩
 dsimp only [List.cons_append, List.nil_append]
 refine aO (bY O (aW (fP O O (by omega)) (mJ O O (bn 1 dB O jE O (fB dJ O (HL.f2).get.2 O (aW (fV ((HL.f3).aN) dJ O) (aW (fG O O) (jv O (fun h1 => ?_) (fun h1 => ?_)))))))))
 ·(try simp only [aF] at h1)
  refine iy (aO (bg (aO ?_)))
  have hil : i < hl.length := by omega
  have hLen := Q7 hl tx i
  have e1 : (strs (mW hl tx)).getD i undef = .string (dR hl tx i) := by rw [Jw (by omega), BQ (by omega)]
  have e2 : (strs (nP hl)).getD i undef = .string (vC hl i) := by rw [Jw (by omega), Vl (by omega)]
  have Ij := HL.drew
  have nY := V.kp (Ij.f4.f4.f4.f4)
  refine uU [3, 6, 10, 13] nY O (gQ 0 O nY O (jQ 1 O nY O (fQ 2 O nY 1 dB O jE O (iO 3 O nY (fun W hW => jT dJ O ((Kp.h hW).f2).get.2 O) (gQ 4 O nY O ?_)))))
  obtain ⟨bnv, onv, cnv, env⟩ := Rd.nR ((Ij.f3).aN) (by omega)
  cases env
  refine iL 5 O nY (fun _ => dD dJ kG O O (by omega)) ?_
  refine iO 6 O nY (fun W hW => EP (eG (dn dU O) O (by first | exact Rd.sO (((Kp.h hW).f3).aN) (by omega) | exact Rd.EF (((Kp.h hW).f3).aN) (by omega) | exact Rd.Ey (((Kp.h hW).f3).aN) (by omega))) (e1)) ?_
  refine gQ 7 O nY O (jQ 8 O nY O (fQ 9 O nY 0 dB O jE O (iO 10 O nY (fun W hW => jT dJ O ((Kp.h hW).f2).get.2 O) (gQ 11 O nY O ?_))))
  obtain ⟨bwv, owv, cwv, ewv⟩ := Rd.nR ((Ij.f4).oD) (by omega)
  cases ewv
  refine iL 12 O nY (fun _ => dD dJ kG O O (by omega)) ?_
  refine iO 13 O nY (fun W hW => EP (eG (dn dU O) O (by first | exact Rd.sO (((Kp.h hW).f4).oD) (by omega) | exact Rd.EF (((Kp.h hW).f4).oD) (by omega) | exact Rd.Ey (((Kp.h hW).f4).oD) (by omega))) (e2)) ?_
  refine iL 14 O nY (fun _ => Qm O O) (qj (aZ (dA O (fun h2 => ?_) (fun h2 => ?_))))
  ·(try simp only [aF] at h2)
   have hsv := Zx (hl := hl) (tx := tx) (i := i) (by unfold Vx; simpa using h2)
   refine aA (jy O O (mJ O O (bn 1 dB O jE O (fB dJ O (Ij.f2).get.2 O (bT O (aW (dD dJ kG O O (by omega)) ?_))))))
   refine aW (EP (eG (dn dU O) O (by first | exact Rd.sO ((Ij.f3).aN) (by omega) | exact Rd.EF ((Ij.f3).aN) (by omega) | exact Rd.Ey ((Ij.f3).aN) (by omega))) (e1)) ?_
   refine aW (fA (zl := [.int .i64 0, .string .empty]) (pl := [(0, 1), (1, 1)]) [_, _] underlying207 zeroValue207 O (fun w => by kernel_rfl) O (.on (.on .nil)) O) ?_
   refine iY (og Ij underlying204 sizeOf207 zeroValue207 O O O (by decide) (by decide)) ?_
   rintro l2 w2 H2
   refine iY (eX H2.f2 underlying204 ae0 O O O ((H2).aN) (aG (aG bK)) (by omega) (by omega)) ?_
   rintro l3 w3 H3
   have Hd4 := H3.f2.right
   refine iC O (bZ (aP (aZ (aA (bT O (aW (fP O O (by omega)) (iC O (bZ ?_))))))))
   refine dN ((i + 1, l3)) ?_ ?_ ?_ ?_
   ·exact rP
   ·exact oO
   ·(try dsimp only)
    first | done | exact ⟨by omega, by first | (rw [hsv, List.length_append, List.flatMap_append]; exact Hd4.f4.f4.f4.f4) | (rw [hsv]; exact Hd4.f4.f4.f4.f4)⟩
   ·(try dsimp only); omega
  ·(try simp only [aF] at h2)
   have hsv := abY (hl := hl) (tx := tx) (i := i) (by unfold Vx; simpa using h2)
   refine dS (aP (aZ (aA (bT O (aW (fP O O (by omega)) (iC O (bZ ?_)))))))
   refine dN ((i + 1, u)) ?_ ?_ ?_ ?_
   ·exact rP
   ·exact oO
   ·(try dsimp only)
    first | done | exact ⟨by omega, by first | (rw [hsv, List.length_append, List.flatMap_append]; exact Ij.f4.f4.f4.f4) | (rw [hsv]; exact Ij.f4.f4.f4.f4)⟩
   ·(try dsimp only); omega
 ·(try simp only [aF] at h1)
  refine eH (aT (aT (bU (aZ (bY O (ig O (fD results136 O ?_)))))))
  obtain rfl : i = hl.length := by omega
  exact HL.f4.f4.f4.f4
end
end Go.Proofs.YtgofgnlkpeghcaaGreatDoor
end
