import Derived.Test.YtnhhmieghbfalaaGreatDoorZ4
import Derived.Test.YtnhhmieghbfalaaGreatDoorZ25
import Derived.Test.YtnhhmieghbfalaaGreatDoorZ26
import Derived.Test.YtnhhmieghbfalaaGreatDoorZ18
set_option linter.unusedSimpArgs false
set_option linter.unusedVariables false
/- Texts of mine, joined, their names in short: EAll EOutM EIs EIs2. -/
section
namespace Go.Proofs.YtnhhmieghbfalaaGreatDoor
open Go.RowKit
open _root_.Go.Proofs.Tryz
def aX.pY (s : aX) (p : D8) : aX :=
  if p.kd = 0 then s.qM p.text else
  if p.kd = 1 then s.BD p.text else
  if p.kd = 2 then s.gy p.a p.b [] else
  if p.kd = 3 then s.gy p.a p.b p.text else
  if p.kd = 4 then s.zZ p.a p.b p.back else
  if p.kd = 5 then s.uS p.a p.b p.back else
  if p.kd = 6 then s.ql else
  if p.kd = 7 then s.zF p.a else
  if p.kd = 11 then s.o7 else
  if p.kd = 12 then s.GN else
  s.zN p.a
def aX.wV (s : aX) (p : D8) : aX :=
  if p.kd = 8 then s.Aa p.a else
  if p.kd = 9 then s.BU p.a else
  if p.kd = 10 then s.BX else
  if p.kd = 14 then s.zS p.a else
  if p.kd = 15 then s.Np else
  if p.kd = 16 then s.KH p.a else
  if p.kd = 17 then s.BZ p.a else
  if p.kd = 18 then s.FP p.back else
  if p.kd = 19 then s.KI p.a else
  s.pY p
section
variable {w0 w : World} {F : HP} {e y : Nat} {s : aX} {v : Value} {p : D8}
set_option maxHeartbeats 1000000 in
theorem abg (H : V w0 w (gQ e s • dY y s • F)) (hr : jZ w0 F .i32 v p.text) (hb : p.text.length ≤ 35184372087808) (hT : MO w0) (hR : jd s.c.L) :
  iK prog 45 #[.pointer (some ⟨e, 0, none⟩), .pointer (some ⟨y, 0, none⟩), .agg #[.int .i64 p.kd, .int .i64 p.a, .int .i64 p.b, .bool p.back, v]] w fun v w' => v = .bool true ∧ V w0 w' (gQ e (s.pY p) • dY y (s.pY p) • F) := by
 refine FY func45 ntmps45 ?_
 refine kQ (jT (kZ (l := [_, _, _, _, _]) H O O) ?_)
 rintro _ w1 ⟨b1, rfl, H1⟩
 refine vI O (kQ (bg 0 dh O ah O (dQ ay O (H1).get.2 O (iR (bK (kQ (aT (fA O O) (iU O (dw O (fun h1 => ?_) (fun h1 => ?_))))))))))
 ·(try simp only [aG] at h1)
  have k0 : p.kd = 0 := h1
  refine aI ?_
  have Yz := H1.drew
  have wE := V.kp (Yz.f2.right.f2.f2)
  refine tH [2, 6] wE O (fM 0 O wE O (eP 1 O wE 4 dh O bI O (iD 2 O wE (fun W hW => jk aB O ((Kp.h hW)).get.2 O) (fM 4 O wE O (eP 5 O wE 4 dh O bI O (iD 6 O wE (fun W hW => jk aB O ((Kp.h hW)).get.2 O) (lC 3 O (qW O func20 (Px Yz.f2 (fun W HW => hr _ (HW.right.right)) (by omega))) ?_)))))))
  rintro _ w2 ⟨rfl, H2⟩
  have Bq := V.kp (H2.f3.f3.f3)
  refine dZ Bq (fun W hW => (Kp.h hW).right.f2.f2) ?_
  refine lC 7 O (qW O func90 (Xj H2.f3 (fun W HW => hr _ (HW.right.right)) (by (try simp only [List.length_nil]); omega))) ?_
  rintro _ w3 ⟨rfl, H3⟩
  have lW := V.kp (H3.f3.f3.f3)
  refine dX lW (by kernel_rfl) ?_
  refine iE 8 O lW (fun _ => fA O O) (iE 9 O lW (fun _ => eH O) (oH (aZ (kN (aY (aC (dO uU O ?_)))))))
  rw [(show s.pY p = s.qM p.text from by unfold aX.pY; rw [if_pos k0])]
  exact ⟨by simp, H3.f3.right.f2⟩
 ·(try simp only [aG] at h1)
  have n0 : ¬ p.kd = 0 := h1
  refine kQ (aT (fA O O) (iU O (dw O (fun h2 => ?_) (fun h2 => ?_))))
  ·(try simp only [aG] at h2)
   have k1 : p.kd = 1 := h2
   refine aI ?_
   have MX := H1.drew
   have qj := V.kp (MX.f2.right.f2.f2)
   refine tH [2, 6] qj O (fM 0 O qj O (eP 1 O qj 4 dh O bI O (iD 2 O qj (fun W hW => jk aB O ((Kp.h hW)).get.2 O) (fM 4 O qj O (eP 5 O qj 4 dh O bI O (iD 6 O qj (fun W hW => jk aB O ((Kp.h hW)).get.2 O) (lC 3 O (qW O func91 (Le MX.f2 (fun W HW => hr _ (HW.right.right)))) ?_)))))))
   rintro _ w4 ⟨rfl, H4⟩
   have ng := V.kp (H4.f3.f3.f3)
   refine dZ ng (fun W hW => (Kp.h hW).right.f2.f2) ?_
   refine lC 7 O (qW O func92 (TA H4.f3 (fun W HW => hr _ (HW.right.right)) (by (try simp only [List.length_nil]); omega))) ?_
   rintro _ w5 ⟨rfl, H5⟩
   have zQ := V.kp (H5.f3.f3.f3)
   refine dX zQ (by kernel_rfl) ?_
   refine iE 8 O zQ (fun _ => fA O O) (iE 9 O zQ (fun _ => eH O) (oH (aZ (kN (aY (aC (dO uU O ?_)))))))
   rw [(show s.pY p = s.BD p.text from by unfold aX.pY; rw [if_neg n0, if_pos k1])]
   exact ⟨by simp, H5.f3.right.f2⟩
  ·(try simp only [aG] at h2)
   have n1 : ¬ p.kd = 1 := h2
   refine kQ (aT (fA O O) (iU O (dw O (fun h3 => ?_) (fun h3 => ?_))))
   ·(try simp only [aG] at h3)
    have k2 : p.kd = 2 := h3
    refine aI ?_
    have akd := H1.drew
    have J6 := V.kp (akd.f2.right.f2.f2)
    refine tH [2, 4, 8, 10] J6 O (fM 0 O J6 O (eP 1 O J6 1 dh O ah O (iD 2 O J6 (fun W hW => jk ay O ((Kp.h hW)).get.2 O) (eP 3 O J6 2 dh O ah O (iD 4 O J6 (fun W hW => jk ay O ((Kp.h hW)).get.2 O) (fM 6 O J6 O (eP 7 O J6 1 dh O ah O (iD 8 O J6 (fun W hW => jk ay O ((Kp.h hW)).get.2 O) (eP 9 O J6 2 dh O ah O (iD 10 O J6 (fun W hW => jk ay O ((Kp.h hW)).get.2 O) (lC 5 O (qW O func93 (Nw akd.f2)) ?_)))))))))))
    rintro _ w6 ⟨rfl, H6⟩
    have Am := V.kp (H6.f3.f3.f3)
    refine dZ Am (fun W hW => (Kp.h hW).right.f2.f2) ?_
    refine lC 11 O (qW O func94 (Uy H6.f3)) ?_
    rintro _ w7 ⟨rfl, H7⟩
    have Ak := V.kp (H7.f3.f3.f3)
    refine dX Ak (by kernel_rfl) ?_
    refine iE 12 O Ak (fun _ => fA O O) (iE 13 O Ak (fun _ => eH O) (oH (aZ (kN (aY (aC (dO uU O ?_)))))))
    rw [(show s.pY p = s.gy p.a p.b [] from by unfold aX.pY; rw [if_neg n0, if_neg n1, if_pos k2])]
    exact ⟨by simp, H7.f3.right.f2⟩
   ·(try simp only [aG] at h3)
    have n2 : ¬ p.kd = 2 := h3
    refine kQ (aT (fA O O) (iU O (dw O (fun h4 => ?_) (fun h4 => ?_))))
    ·(try simp only [aG] at h4)
     have k3 : p.kd = 3 := h4
     refine aI ?_
     have Yi := H1.drew
     have tN := V.kp (Yi.f2.right.f2.f2)
     refine tH [2, 4, 6, 10, 12, 14] tN O (fM 0 O tN O (eP 1 O tN 1 dh O ah O (iD 2 O tN (fun W hW => jk ay O ((Kp.h hW)).get.2 O) (eP 3 O tN 2 dh O ah O (iD 4 O tN (fun W hW => jk ay O ((Kp.h hW)).get.2 O) (eP 5 O tN 4 dh O bI O (iD 6 O tN (fun W hW => jk aB O ((Kp.h hW)).get.2 O) (fM 8 O tN O (eP 9 O tN 1 dh O ah O (iD 10 O tN (fun W hW => jk ay O ((Kp.h hW)).get.2 O) (eP 11 O tN 2 dh O ah O (iD 12 O tN (fun W hW => jk ay O ((Kp.h hW)).get.2 O) (eP 13 O tN 4 dh O bI O (iD 14 O tN (fun W hW => jk aB O ((Kp.h hW)).get.2 O) (lC 7 O (qW O func74 (xW Yi.f2 (fun W HW => hr _ (HW.right.right)))) ?_)))))))))))))))
     rintro _ w8 ⟨rfl, H8⟩
     have Ip := V.kp (H8.f3.f3.f3)
     refine dZ Ip (fun W hW => (Kp.h hW).right.f2.f2) ?_
     refine lC 15 O (qW O func95 (rG H8.f3 (fun W HW => hr _ (HW.right.right)) (by (try simp only [List.length_nil]); omega))) ?_
     rintro _ w9 ⟨rfl, H9⟩
     have Dw := V.kp (H9.f3.f3.f3)
     refine dX Dw (by kernel_rfl) ?_
     refine iE 16 O Dw (fun _ => fA O O) (iE 17 O Dw (fun _ => eH O) (oH (aZ (kN (aY (aC (dO uU O ?_)))))))
     rw [(show s.pY p = s.gy p.a p.b p.text from by unfold aX.pY; rw [if_neg n0, if_neg n1, if_neg n2, if_pos k3])]
     exact ⟨by simp, H9.f3.right.f2⟩
    ·(try simp only [aG] at h4)
     have n3 : ¬ p.kd = 3 := h4
     refine kQ (aT (fA O O) (iU O (dw O (fun h5 => ?_) (fun h5 => ?_))))
     ·(try simp only [aG] at h5)
      have k4 : p.kd = 4 := h5
      refine aI ?_
      have ahj := H1.drew
      have Ar := V.kp (ahj.f2.right.f2.f2)
      refine tH [2, 4, 6, 10, 12, 14] Ar O (fM 0 O Ar O (eP 1 O Ar 1 dh O ah O (iD 2 O Ar (fun W hW => jk ay O ((Kp.h hW)).get.2 O) (eP 3 O Ar 2 dh O ah O (iD 4 O Ar (fun W hW => jk ay O ((Kp.h hW)).get.2 O) (eP 5 O Ar 3 dh O aN O (iD 6 O Ar (fun W hW => jk bn O ((Kp.h hW)).get.2 O) (fM 8 O Ar O (eP 9 O Ar 1 dh O ah O (iD 10 O Ar (fun W hW => jk ay O ((Kp.h hW)).get.2 O) (eP 11 O Ar 2 dh O ah O (iD 12 O Ar (fun W hW => jk ay O ((Kp.h hW)).get.2 O) (eP 13 O Ar 3 dh O aN O (iD 14 O Ar (fun W hW => jk bn O ((Kp.h hW)).get.2 O) (lC 7 O (qW O func96 (Y1 ahj.f2)) ?_)))))))))))))))
      rintro _ w10 ⟨rfl, rU⟩
      have D7 := V.kp (rU.f3.f3.f3)
      refine dZ D7 (fun W hW => (Kp.h hW).right.f2.f2) ?_
      refine lC 15 O (qW O func97 (Xm rU.f3)) ?_
      rintro _ Ii ⟨rfl, rE⟩
      have D5 := V.kp (rE.f3.f3.f3)
      refine dX D5 (by kernel_rfl) ?_
      refine iE 16 O D5 (fun _ => fA O O) (iE 17 O D5 (fun _ => eH O) (oH (aZ (kN (aY (aC (dO uU O ?_)))))))
      rw [(show s.pY p = s.zZ p.a p.b p.back from by unfold aX.pY; rw [if_neg n0, if_neg n1, if_neg n2, if_neg n3, if_pos k4])]
      exact ⟨by simp, rE.f3.right.f2⟩
     ·(try simp only [aG] at h5)
      have n4 : ¬ p.kd = 4 := h5
      refine kQ (aT (fA O O) (iU O (dw O (fun h6 => ?_) (fun h6 => ?_))))
      ·(try simp only [aG] at h6)
       have k5 : p.kd = 5 := h6
       refine aI ?_
       have afv := H1.drew
       have yI := V.kp (afv.f2.right.f2.f2)
       refine tH [2, 4, 6, 10, 12, 14] yI O (fM 0 O yI O (eP 1 O yI 1 dh O ah O (iD 2 O yI (fun W hW => jk ay O ((Kp.h hW)).get.2 O) (eP 3 O yI 2 dh O ah O (iD 4 O yI (fun W hW => jk ay O ((Kp.h hW)).get.2 O) (eP 5 O yI 3 dh O aN O (iD 6 O yI (fun W hW => jk bn O ((Kp.h hW)).get.2 O) (fM 8 O yI O (eP 9 O yI 1 dh O ah O (iD 10 O yI (fun W hW => jk ay O ((Kp.h hW)).get.2 O) (eP 11 O yI 2 dh O ah O (iD 12 O yI (fun W hW => jk ay O ((Kp.h hW)).get.2 O) (eP 13 O yI 3 dh O aN O (iD 14 O yI (fun W hW => jk bn O ((Kp.h hW)).get.2 O) (lC 7 O (qW O func98 (Py afv.f2)) ?_)))))))))))))))
       rintro _ w12 ⟨rfl, uP⟩
       have D6 := V.kp (uP.f3.f3.f3)
       refine dZ D6 (fun W hW => (Kp.h hW).right.f2.f2) ?_
       refine lC 15 O (qW O func99 (Xl uP.f3)) ?_
       rintro _ P7 ⟨rfl, AZ⟩
       have BQ := V.kp (AZ.f3.f3.f3)
       refine dX BQ (by kernel_rfl) ?_
       refine iE 16 O BQ (fun _ => fA O O) (iE 17 O BQ (fun _ => eH O) (oH (aZ (kN (aY (aC (dO uU O ?_)))))))
       rw [(show s.pY p = s.uS p.a p.b p.back from by unfold aX.pY; rw [if_neg n0, if_neg n1, if_neg n2, if_neg n3, if_neg n4, if_pos k5])]
       exact ⟨by simp, AZ.f3.right.f2⟩
      ·(try simp only [aG] at h6)
       have n5 : ¬ p.kd = 5 := h6
       refine kQ (aT (fA O O) (iU O (dw O (fun h7 => ?_) (fun h7 => ?_))))
       ·(try simp only [aG] at h7)
        have k6 : p.kd = 6 := h7
        refine bT O (fH O func100 (Y2 H1.f2) ?_)
        rintro _ O9 ⟨rfl, BJ⟩
        refine cO O (fH O func101 (Xn BJ.f3) ?_)
        rintro _ Ry ⟨rfl, CJ⟩
        refine aT (fA O O) (iJ O (aY (aC (dO uU O ?_))))
        rw [(show s.pY p = s.ql from by unfold aX.pY; rw [if_neg n0, if_neg n1, if_neg n2, if_neg n3, if_neg n4, if_neg n5, if_pos k6])]
        exact ⟨by simp, CJ.f3.right.f2⟩
       ·(try simp only [aG] at h7)
        have n6 : ¬ p.kd = 6 := h7
        refine kQ (aT (fA O O) (iU O (dw O (fun h8 => ?_) (fun h8 => ?_))))
        ·(try simp only [aG] at h8)
         have k7 : p.kd = 7 := h8
         refine aI ?_
         have afw := H1.drew
         have IV := V.kp (afw.f2.right.f2.f2)
         refine tH [2, 6] IV O (fM 0 O IV O (eP 1 O IV 1 dh O ah O (iD 2 O IV (fun W hW => jk ay O ((Kp.h hW)).get.2 O) (fM 4 O IV O (eP 5 O IV 1 dh O ah O (iD 6 O IV (fun W hW => jk ay O ((Kp.h hW)).get.2 O) (lC 3 O (qW O func102 (aaG afw.f2)) ?_)))))))
         rintro _ w16 ⟨rfl, yG⟩
         have GL := V.kp (yG.f3.f3.f3)
         refine dZ GL (fun W hW => (Kp.h hW).right.f2.f2) ?_
         refine lC 7 O (qW O func103 (Zi yG.f3)) ?_
         rintro _ ZI ⟨rfl, DL⟩
         have BR := V.kp (DL.f3.f3.f3)
         refine dX BR (by kernel_rfl) ?_
         refine iE 8 O BR (fun _ => fA O O) (iE 9 O BR (fun _ => eH O) (oH (aZ (kN (aY (aC (dO uU O ?_)))))))
         rw [(show s.pY p = s.zF p.a from by unfold aX.pY; rw [if_neg n0, if_neg n1, if_neg n2, if_neg n3, if_neg n4, if_neg n5, if_neg n6, if_pos k7])]
         exact ⟨by simp, DL.f3.right.f2⟩
        ·(try simp only [aG] at h8)
         have n7 : ¬ p.kd = 7 := h8
         refine kQ (aT (fA O O) (iU O (dw O (fun h9 => ?_) (fun h9 => ?_))))
         ·(try simp only [aG] at h9)
          have k11 : p.kd = 11 := h9
          refine bT O (fH O func104 (Y7 H1.f2) ?_)
          rintro _ U5 ⟨rfl, DN⟩
          refine cO O (fH O func105 (IK DN.f3) ?_)
          rintro _ X9 ⟨rfl, Df⟩
          refine aT (fA O O) (iJ O (aY (aC (dO uU O ?_))))
          rw [(show s.pY p = s.o7 from by unfold aX.pY; rw [if_neg n0, if_neg n1, if_neg n2, if_neg n3, if_neg n4, if_neg n5, if_neg n6, if_neg n7, if_pos k11])]
          exact ⟨by simp, Df.f3.right.f2⟩
         ·(try simp only [aG] at h9)
          have n11 : ¬ p.kd = 11 := h9
          refine kQ (aT (fA O O) (iU O (dw O (fun h10 => ?_) (fun h10 => ?_))))
          ·(try simp only [aG] at h10)
           have k12 : p.kd = 12 := h10
           refine bT O (fH O func106 (aaM H1.f2) ?_)
           rintro _ ZJ ⟨rfl, DR⟩
           refine cO O (fH O func107 (Zk DR.f3) ?_)
           rintro _ Ya ⟨rfl, xZ⟩
           refine aT (fA O O) (iJ O (aY (aC (dO uU O ?_))))
           rw [(show s.pY p = s.GN from by unfold aX.pY; rw [if_neg n0, if_neg n1, if_neg n2, if_neg n3, if_neg n4, if_neg n5, if_neg n6, if_neg n7, if_neg n11, if_pos k12])]
           exact ⟨by simp, xZ.f3.right.f2⟩
          ·(try simp only [aG] at h10)
           have n12 : ¬ p.kd = 12 := h10
           refine eG (aS (aZ (aI ?_)))
           have afx := H1.drew
           have IW := V.kp (afx.f2.right.f2.f2)
           refine tH [2, 6] IW O (fM 0 O IW O (eP 1 O IW 1 dh O ah O (iD 2 O IW (fun W hW => jk ay O ((Kp.h hW)).get.2 O) (fM 4 O IW O (eP 5 O IW 1 dh O ah O (iD 6 O IW (fun W hW => jk ay O ((Kp.h hW)).get.2 O) (lC 3 O (qW O func108 (Zp afx.f2 (by assumption) (by assumption))) ?_)))))))
           rintro _ w22 ⟨rfl, FI⟩
           have EX := V.kp (FI.f3.f3.f3)
           refine dZ EX (fun W hW => (Kp.h hW).right.f2.f2) ?_
           refine lC 7 O (qW O func109 (Xw FI.f3 (by assumption))) ?_
           rintro _ Yb ⟨rfl, BM⟩
           have AB := V.kp (BM.f3.f3.f3)
           refine dX AB (by kernel_rfl) ?_
           refine iE 8 O AB (fun _ => fA O O) (iE 9 O AB (fun _ => eH O) (oH (aZ (kN (dO uU O ?_)))))
           rw [(show s.pY p = s.zN p.a from by unfold aX.pY; rw [if_neg n0, if_neg n1, if_neg n2, if_neg n3, if_neg n4, if_neg n5, if_neg n6, if_neg n7, if_neg n11, if_neg n12])]
           exact ⟨by simp, BM.f3.right.f2⟩
set_option maxHeartbeats 1000000 in
theorem VI (H : V w0 w (gQ e s • dY y s • F)) (hr : jZ w0 F .i32 v p.text) (hb : p.text.length ≤ 35184372087808) (hT : MO w0) (hR : jd s.c.L) :
  iK prog 8 #[.pointer (some ⟨e, 0, none⟩), .pointer (some ⟨y, 0, none⟩), .agg #[.int .i64 p.kd, .int .i64 p.a, .int .i64 p.b, .bool p.back, v]] w fun v w' => v = .bool true ∧ V w0 w' (gQ e (s.wV p) • dY y (s.wV p) • F) := by
 refine FY func8 ntmps8 ?_
 refine kQ (jT (kZ (l := [_, _, _, _, _]) H O O) ?_)
 rintro _ w1 ⟨b1, rfl, H1⟩
 refine vI O (kQ (bg 0 dh O ah O (dQ ay O (H1).get.2 O (iR (bK (kQ (aT (fA O O) (iU O (dw O (fun h1 => ?_) (fun h1 => ?_))))))))))
 ·(try simp only [aG] at h1)
  have k8 : p.kd = 8 := h1
  refine aI ?_
  have Yz := H1.drew
  have wE := V.kp (Yz.f2.right.f2.f2)
  refine tH [2, 6] wE O (fM 0 O wE O (eP 1 O wE 1 dh O ah O (iD 2 O wE (fun W hW => jk ay O ((Kp.h hW)).get.2 O) (fM 4 O wE O (eP 5 O wE 1 dh O ah O (iD 6 O wE (fun W hW => jk ay O ((Kp.h hW)).get.2 O) (lC 3 O (qW O func25 (YP Yz.f2)) ?_)))))))
  rintro _ w2 ⟨rfl, H2⟩
  have Bq := V.kp (H2.f3.f3.f3)
  refine dZ Bq (fun W hW => (Kp.h hW).right.f2.f2) ?_
  refine lC 7 O (qW O func26 (Xa H2.f3)) ?_
  rintro _ w3 ⟨rfl, H3⟩
  have lW := V.kp (H3.f3.f3.f3)
  refine dX lW (by kernel_rfl) ?_
  refine iE 8 O lW (fun _ => fA O O) (iE 9 O lW (fun _ => eH O) (oH (aZ (kN (aY (aC (dO results8 O ?_)))))))
  rw [(show s.wV p = s.Aa p.a from by unfold aX.wV; rw [if_pos k8])]
  exact ⟨by simp, H3.f3.right.f2⟩
 ·(try simp only [aG] at h1)
  have n8 : ¬ p.kd = 8 := h1
  refine kQ (aT (fA O O) (iU O (dw O (fun h2 => ?_) (fun h2 => ?_))))
  ·(try simp only [aG] at h2)
   have k9 : p.kd = 9 := h2
   refine aI ?_
   have MX := H1.drew
   have qj := V.kp (MX.f2.right.f2.f2)
   refine tH [2, 6] qj O (fM 0 O qj O (eP 1 O qj 1 dh O ah O (iD 2 O qj (fun W hW => jk ay O ((Kp.h hW)).get.2 O) (fM 4 O qj O (eP 5 O qj 1 dh O ah O (iD 6 O qj (fun W hW => jk ay O ((Kp.h hW)).get.2 O) (lC 3 O (qW O func27 (YQ MX.f2)) ?_)))))))
   rintro _ w4 ⟨rfl, H4⟩
   have ng := V.kp (H4.f3.f3.f3)
   refine dZ ng (fun W hW => (Kp.h hW).right.f2.f2) ?_
   refine lC 7 O (qW O func28 (Xb H4.f3)) ?_
   rintro _ w5 ⟨rfl, H5⟩
   have zQ := V.kp (H5.f3.f3.f3)
   refine dX zQ (by kernel_rfl) ?_
   refine iE 8 O zQ (fun _ => fA O O) (iE 9 O zQ (fun _ => eH O) (oH (aZ (kN (aY (aC (dO results8 O ?_)))))))
   rw [(show s.wV p = s.BU p.a from by unfold aX.wV; rw [if_neg n8, if_pos k9])]
   exact ⟨by simp, H5.f3.right.f2⟩
  ·(try simp only [aG] at h2)
   have n9 : ¬ p.kd = 9 := h2
   refine kQ (aT (fA O O) (iU O (dw O (fun h3 => ?_) (fun h3 => ?_))))
   ·(try simp only [aG] at h3)
    have k10 : p.kd = 10 := h3
    refine bT O (fH O func29 (YR H1.f2) ?_)
    rintro _ w6 ⟨rfl, H6⟩
    refine cO O (fH O func30 (Xc H6.f3) ?_)
    rintro _ w7 ⟨rfl, H7⟩
    refine aT (fA O O) (iJ O (aY (aC (dO results8 O ?_))))
    rw [(show s.wV p = s.BX from by unfold aX.wV; rw [if_neg n8, if_neg n9, if_pos k10])]
    exact ⟨by simp, H7.f3.right.f2⟩
   ·(try simp only [aG] at h3)
    have n10 : ¬ p.kd = 10 := h3
    refine kQ (aT (fA O O) (iU O (dw O (fun h4 => ?_) (fun h4 => ?_))))
    ·(try simp only [aG] at h4)
     have k14 : p.kd = 14 := h4
     refine aI ?_
     have Yi := H1.drew
     have tN := V.kp (Yi.f2.right.f2.f2)
     refine tH [2, 6] tN O (fM 0 O tN O (eP 1 O tN 1 dh O ah O (iD 2 O tN (fun W hW => jk ay O ((Kp.h hW)).get.2 O) (fM 4 O tN O (eP 5 O tN 1 dh O ah O (iD 6 O tN (fun W hW => jk ay O ((Kp.h hW)).get.2 O) (lC 3 O (qW O func31 (WT Yi.f2)) ?_)))))))
     rintro _ w8 ⟨rfl, H8⟩
     have Ip := V.kp (H8.f3.f3.f3)
     refine dZ Ip (fun W hW => (Kp.h hW).right.f2.f2) ?_
     refine lC 7 O (qW O func32 (Uw H8.f3)) ?_
     rintro _ w9 ⟨rfl, H9⟩
     have Dw := V.kp (H9.f3.f3.f3)
     refine dX Dw (by kernel_rfl) ?_
     refine iE 8 O Dw (fun _ => fA O O) ?_
     refine rO 9 O O (by kernel_rfl) (by kernel_rfl) Dw (iO O) (fun h5 => ?_) (fun h => by exfalso; (try simp only [aG] at h); simp at h)
     (try simp only [aG] at h5)
     refine bQ 10 O O O (by kernel_rfl) (by kernel_rfl) Dw (fun _ => oh O) (iO O) ?_
     refine bQ 12 O O O (by kernel_rfl) (by kernel_rfl) Dw (fun _ => oh O) (iO O) ?_
     refine kJ 11 O O O (by kernel_rfl) (nM (nX O func33 O O) (Ei H9.f2)) (iO O) ?_
     rintro _ w10 ⟨rfl, rU⟩
     have D7 := V.kp (rU.f3.f3.f3)
     refine dX D7 (by kernel_rfl) ?_
     refine kJ 13 O O O (by kernel_rfl) (nM (nX O func34 O O) (Di rU.f2)) (iO O) ?_
     rintro _ Ii ⟨rfl, rE⟩
     have D5 := V.kp (rE.f3.f3.f3)
     refine dX D5 (by kernel_rfl) ?_
     refine bQ 14 O O O (by kernel_rfl) (by kernel_rfl) D5 (fun _ => fA O O) (iO O) ?_
     refine iE 15 O D5 (fun _ => oP O O) (iE 16 O D5 (fun _ => eH O) (oH (aZ (kN (aY (aC (dO results8 O ?_)))))))
     rw [(show s.wV p = s.zS p.a from by unfold aX.wV; rw [if_neg n8, if_neg n9, if_neg n10, if_pos k14])]
     exact ⟨by simp, rE.f3.right.f2⟩
    ·(try simp only [aG] at h4)
     have n14 : ¬ p.kd = 14 := h4
     refine kQ (aT (fA O O) (iU O (dw O (fun h6 => ?_) (fun h6 => ?_))))
     ·(try simp only [aG] at h6)
      have k15 : p.kd = 15 := h6
      refine bT O (fH O func35 (aaD H1.f2) ?_)
      rintro _ w12 ⟨rfl, uP⟩
      refine cO O (fH O func36 (Y9 uP.f3) ?_)
      rintro _ P7 ⟨rfl, AZ⟩
      refine aT (fA O O) (Z8 O (fun h7 => ?_))
      (try simp only [aG] at h7)
      refine bJ (cO O (bJ (fH O func33 (Ei AZ.f2) ?_)))
      rintro _ O9 ⟨rfl, BJ⟩
      refine bJ (cO O (bJ (fH O func34 (Di BJ.f2) ?_)))
      rintro _ Ry ⟨rfl, CJ⟩
      refine bJ (aT (fA O O) (mQ O O (iJ O (aY (aC (dO results8 O ?_))))))
      rw [(show s.wV p = s.Np from by unfold aX.wV; rw [if_neg n8, if_neg n9, if_neg n10, if_neg n14, if_pos k15])]
      exact ⟨by simp, CJ.f3.right.f2⟩
     ·(try simp only [aG] at h6)
      have n15 : ¬ p.kd = 15 := h6
      refine kQ (aT (fA O O) (iU O (dw O (fun h8 => ?_) (fun h8 => ?_))))
      ·(try simp only [aG] at h8)
       have k16 : p.kd = 16 := h8
       refine aI ?_
       have afy := H1.drew
       have IX := V.kp (afy.f2.right.f2.f2)
       refine tH [2, 6] IX O (fM 0 O IX O (eP 1 O IX 1 dh O ah O (iD 2 O IX (fun W hW => jk ay O ((Kp.h hW)).get.2 O) (fM 4 O IX O (eP 5 O IX 1 dh O ah O (iD 6 O IX (fun W hW => jk ay O ((Kp.h hW)).get.2 O) (lC 3 O (qW O func37 (aaE afy.f2)) ?_)))))))
       rintro _ w16 ⟨rfl, yG⟩
       have GL := V.kp (yG.f3.f3.f3)
       refine dZ GL (fun W hW => (Kp.h hW).right.f2.f2) ?_
       refine lC 7 O (qW O func38 (Za yG.f3)) ?_
       rintro _ ZI ⟨rfl, DL⟩
       have BR := V.kp (DL.f3.f3.f3)
       refine dX BR (by kernel_rfl) ?_
       refine iE 8 O BR (fun _ => fA O O) ?_
       refine rO 9 O O (by kernel_rfl) (by kernel_rfl) BR (iO O) (fun h9 => ?_) (fun h => by exfalso; (try simp only [aG] at h); simp at h)
       (try simp only [aG] at h9)
       refine bQ 10 O O O (by kernel_rfl) (by kernel_rfl) BR (fun _ => oh O) (iO O) ?_
       refine bQ 12 O O O (by kernel_rfl) (by kernel_rfl) BR (fun _ => oh O) (iO O) ?_
       refine kJ 11 O O O (by kernel_rfl) (nM (nX O func33 O O) (Ei DL.f2)) (iO O) ?_
       rintro _ U5 ⟨rfl, DN⟩
       have Bz := V.kp (DN.f3.f3.f3)
       refine dX Bz (by kernel_rfl) ?_
       refine kJ 13 O O O (by kernel_rfl) (nM (nX O func34 O O) (Di DN.f2)) (iO O) ?_
       rintro _ X9 ⟨rfl, Df⟩
       have EW := V.kp (Df.f3.f3.f3)
       refine dX EW (by kernel_rfl) ?_
       refine bQ 14 O O O (by kernel_rfl) (by kernel_rfl) EW (fun _ => fA O O) (iO O) ?_
       refine iE 15 O EW (fun _ => oP O O) (iE 16 O EW (fun _ => eH O) (oH (aZ (kN (aY (aC (dO results8 O ?_)))))))
       rw [(show s.wV p = s.KH p.a from by unfold aX.wV; rw [if_neg n8, if_neg n9, if_neg n10, if_neg n14, if_neg n15, if_pos k16])]
       exact ⟨by simp, Df.f3.right.f2⟩
      ·(try simp only [aG] at h8)
       have n16 : ¬ p.kd = 16 := h8
       refine kQ (aT (fA O O) (iU O (dw O (fun h10 => ?_) (fun h10 => ?_))))
       ·(try simp only [aG] at h10)
        have k17 : p.kd = 17 := h10
        refine aI ?_
        have afz := H1.drew
        have IY := V.kp (afz.f2.right.f2.f2)
        refine tH [2, 6] IY O (fM 0 O IY O (eP 1 O IY 1 dh O ah O (iD 2 O IY (fun W hW => jk ay O ((Kp.h hW)).get.2 O) (fM 4 O IY O (eP 5 O IY 1 dh O ah O (iD 6 O IY (fun W hW => jk ay O ((Kp.h hW)).get.2 O) (lC 3 O (qW O func39 (YS afz.f2)) ?_)))))))
        rintro _ ZJ ⟨rfl, DR⟩
        have GX := V.kp (DR.f3.f3.f3)
        refine dZ GX (fun W hW => (Kp.h hW).right.f2.f2) ?_
        refine lC 7 O (qW O func40 (Xd DR.f3)) ?_
        rintro _ Ya ⟨rfl, xZ⟩
        have Hg := V.kp (xZ.f3.f3.f3)
        refine dX Hg (by kernel_rfl) ?_
        refine iE 8 O Hg (fun _ => fA O O) (iE 9 O Hg (fun _ => eH O) (oH (aZ (kN (aY (aC (dO results8 O ?_)))))))
        rw [(show s.wV p = s.BZ p.a from by unfold aX.wV; rw [if_neg n8, if_neg n9, if_neg n10, if_neg n14, if_neg n15, if_neg n16, if_pos k17])]
        exact ⟨by simp, xZ.f3.right.f2⟩
       ·(try simp only [aG] at h10)
        have n17 : ¬ p.kd = 17 := h10
        refine kQ (aT (fA O O) (iU O (dw O (fun h11 => ?_) (fun h11 => ?_))))
        ·(try simp only [aG] at h11)
         have k18 : p.kd = 18 := h11
         refine aI ?_
         have afA := H1.drew
         have IZ := V.kp (afA.f2.right.f2.f2)
         refine tH [2, 6] IZ O (fM 0 O IZ O (eP 1 O IZ 3 dh O aN O (iD 2 O IZ (fun W hW => jk bn O ((Kp.h hW)).get.2 O) (fM 4 O IZ O (eP 5 O IZ 3 dh O aN O (iD 6 O IZ (fun W hW => jk bn O ((Kp.h hW)).get.2 O) (lC 3 O (qW O func41 (YT afA.f2)) ?_)))))))
         rintro _ w22 ⟨rfl, FI⟩
         have EX := V.kp (FI.f3.f3.f3)
         refine dZ EX (fun W hW => (Kp.h hW).right.f2.f2) ?_
         refine lC 7 O (qW O func42 (Xf FI.f3)) ?_
         rintro _ Yb ⟨rfl, BM⟩
         have AB := V.kp (BM.f3.f3.f3)
         refine dX AB (by kernel_rfl) ?_
         refine iE 8 O AB (fun _ => fA O O) (iE 9 O AB (fun _ => eH O) (oH (aZ (kN (aY (aC (dO results8 O ?_)))))))
         rw [(show s.wV p = s.FP p.back from by unfold aX.wV; rw [if_neg n8, if_neg n9, if_neg n10, if_neg n14, if_neg n15, if_neg n16, if_neg n17, if_pos k18])]
         exact ⟨by simp, BM.f3.right.f2⟩
        ·(try simp only [aG] at h11)
         have n18 : ¬ p.kd = 18 := h11
         refine kQ (aT (fA O O) (iU O (dw O (fun h12 => ?_) (fun h12 => ?_))))
         ·(try simp only [aG] at h12)
          have k19 : p.kd = 19 := h12
          refine aI ?_
          have afB := H1.drew
          have I4 := V.kp (afB.f2.right.f2.f2)
          refine tH [2, 6] I4 O (fM 0 O I4 O (eP 1 O I4 1 dh O ah O (iD 2 O I4 (fun W hW => jk ay O ((Kp.h hW)).get.2 O) (fM 4 O I4 O (eP 5 O I4 1 dh O ah O (iD 6 O I4 (fun W hW => jk ay O ((Kp.h hW)).get.2 O) (lC 3 O (qW O func43 (aaF afB.f2)) ?_)))))))
          rintro _ w24 ⟨rfl, Hw⟩
          have GY := V.kp (Hw.f3.f3.f3)
          refine dZ GY (fun W hW => (Kp.h hW).right.f2.f2) ?_
          refine lC 7 O (qW O func44 (Zb Hw.f3)) ?_
          rintro _ w25 ⟨rfl, Jo⟩
          have Cc := V.kp (Jo.f3.f3.f3)
          refine dX Cc (by kernel_rfl) ?_
          refine iE 8 O Cc (fun _ => fA O O) (iE 9 O Cc (fun _ => eH O) (oH (aZ (kN (aY (aC (dO results8 O ?_)))))))
          rw [(show s.wV p = s.KI p.a from by unfold aX.wV; rw [if_neg n8, if_neg n9, if_neg n10, if_neg n14, if_neg n15, if_neg n16, if_neg n17, if_neg n18, if_pos k19])]
          exact ⟨by simp, Jo.f3.right.f2⟩
         ·(try simp only [aG] at h12)
          have n19 : ¬ p.kd = 19 := h12
          refine eG (aS (aZ (bT O (cO O (aT (dU dh O sizeOf26 O O (H1).get.2) (fH O func45 (abg H1.f3.f3 (fun W HW => hr _ (HW.right)) (by omega) (by assumption) (by assumption)) ?_))))))
          rintro _ w26 ⟨rfl, FK⟩
          refine iJ O (dO results8 O ?_)
          rw [(show s.wV p = s.pY p from by unfold aX.wV; rw [if_neg n8, if_neg n9, if_neg n10, if_neg n14, if_neg n15, if_neg n16, if_neg n17, if_neg n18, if_neg n19])]
          exact ⟨O, FK.f3.right.f2.f2⟩
end
theorem ake {s : aX} (h : RS s) : Kept s s.GN := by
  unfold aX.GN
  by_cases hin : s.inn = true
  · rw [if_pos hin]
    dsimp only
    obtain ⟨a, b⟩ := QI h false
    by_cases h0 : (s.dH false).here = []
    · rw [if_pos h0]; exact ⟨a, b⟩
    · rw [if_neg h0]
      refine ⟨⟨⟨?_, a.c.E, XA a.c.un fun g hg => absurd hg (by simp)⟩, a.put, a.was⟩, ⟨b.inn, b.was, b.hl, b.nR⟩⟩
      show jd (aX.apps ((s.dH false).c.L, (s.dH false).c.pt, (s.dH false).c.mark) ((s.dH false).here.flatten.reverse.map xP)).1
      rw [TQ]
      refine aj5 a.c.L fun e he => ?_
      obtain ⟨g, hg, hq⟩ := List.mem_flatten.1 he
      exact a.c.un (s.dH false).c.place g hg e hq
  · rw [if_neg hin]; exact ⟨h, Fr.refl s⟩
theorem afC {s : aX} {p : D8} (h : RS s) (g : jd p.text) : Kept s (s.pY p) := by
  have hs : Kept s s := ⟨h, Fr.refl s⟩
  have K : ∀ k : Int, k ≠ 13 → Kept s (s.edit { p with kd := k }) := fun k _ => afs (p := { p with kd := k }) h g
  unfold aX.pY
  by_cases k0 : p.kd = 0
  · rw [if_pos k0]; exact K 0 (by decide)
  rw [if_neg k0]
  by_cases k1 : p.kd = 1
  · rw [if_pos k1]; exact K 1 (by decide)
  rw [if_neg k1]
  by_cases k2 : p.kd = 2
  · rw [if_pos k2]; exact K 2 (by decide)
  rw [if_neg k2]
  by_cases k3 : p.kd = 3
  · rw [if_pos k3]; exact K 3 (by decide)
  rw [if_neg k3]
  by_cases k4 : p.kd = 4
  · rw [if_pos k4]; exact K 4 (by decide)
  rw [if_neg k4]
  by_cases k5 : p.kd = 5
  · rw [if_pos k5]; exact K 5 (by decide)
  rw [if_neg k5]
  by_cases k6 : p.kd = 6
  · rw [if_pos k6]; exact K 6 (by decide)
  rw [if_neg k6]
  by_cases k7 : p.kd = 7
  · rw [if_pos k7]; exact K 7 (by decide)
  rw [if_neg k7]
  by_cases k11 : p.kd = 11
  · rw [if_pos k11]; exact afr h
  rw [if_neg k11]
  by_cases k12 : p.kd = 12
  · rw [if_pos k12]; exact ake h
  rw [if_neg k12]
  exact aiK h _
theorem RS.same {s t : aX} (h : RS s) (hc : t.c.L = s.c.L ∧ t.c.E = s.c.E ∧ t.c.un = s.c.un) (hp : t.put = s.put) (hw : t.was = s.was) (hi : t.inn = s.inn) : RS t :=
  ⟨⟨hc.1 ▸ h.c.L, hc.2.1 ▸ h.c.E, hc.2.2 ▸ h.c.un⟩, hp ▸ h.put, fun q => hw ▸ h.was (hi ▸ q)⟩
theorem agI {s : aX} {p : D8} (h : RS s) (g : jd p.text) : Kept s (s.wV p) := by
  have hs : Kept s s := ⟨h, Fr.refl s⟩
  have K : ∀ k : Int, k ≠ 13 → Kept s (s.edit { p with kd := k }) := fun k _ => afs (p := { p with kd := k }) h g
  unfold aX.wV
  by_cases k0 : p.kd = 8
  · rw [if_pos k0]; exact K 8 (by decide)
  rw [if_neg k0]
  by_cases k1 : p.kd = 9
  · rw [if_pos k1]; exact K 9 (by decide)
  rw [if_neg k1]
  by_cases k2 : p.kd = 10
  · rw [if_pos k2]; exact K 10 (by decide)
  rw [if_neg k2]
  by_cases k3 : p.kd = 14
  · rw [if_pos k3]; unfold aX.zS; split
    · exact ⟨h.same ⟨rfl, rfl, rfl⟩ rfl rfl rfl, ⟨rfl, rfl, rfl, rfl⟩⟩
    · exact hs
  rw [if_neg k3]
  by_cases k4 : p.kd = 15
  · rw [if_pos k4]; unfold aX.Np; split
    · exact ⟨h.same ⟨rfl, rfl, rfl⟩ rfl rfl rfl, ⟨rfl, rfl, rfl, rfl⟩⟩
    · exact hs
  rw [if_neg k4]
  by_cases k5 : p.kd = 16
  · rw [if_pos k5]; unfold aX.KH; split
    · exact ⟨h.same ⟨rfl, rfl, rfl⟩ rfl rfl rfl, ⟨rfl, rfl, rfl, rfl⟩⟩
    · exact hs
  rw [if_neg k5]
  by_cases k6 : p.kd = 17
  · rw [if_pos k6]; exact K 17 (by decide)
  rw [if_neg k6]
  by_cases k7 : p.kd = 18
  · rw [if_pos k7]; unfold aX.FP; split
    · exact ⟨h.same ⟨rfl, rfl, rfl⟩ rfl rfl rfl, ⟨rfl, rfl, rfl, rfl⟩⟩
    · exact hs
  rw [if_neg k7]
  by_cases k8 : p.kd = 19
  · rw [if_pos k8]; unfold aX.KI; split
    · exact ⟨h.same ⟨rfl, rfl, rfl⟩ rfl rfl rfl, ⟨rfl, rfl, rfl, rfl⟩⟩
    · exact hs
  rw [if_neg k8]
  exact afC h g
end Go.Proofs.YtnhhmieghbfalaaGreatDoor
end
section
namespace Go.Proofs.YtnhhmieghbfalaaGreatDoor
open Go.RowKit
def aX.Jj (s : aX) (p : yB) : aX := if p.kd < 20 then s.wV p.m else s
def aX.Qp (s : aX) (c : CZ) : aX := (c.parts.foldl aX.Jj s.dA).nZ c.err
section
variable {s t : aX} {ps : List yB} {cs : List CZ} {p : D8}
theorem XC (h : RS s) (ps : List yB) (g : Gm ps) : Kept s (ps.foldl aX.Jj s) := by
  induction ps generalizing s with
  | nil => exact ⟨h, Fr.refl s⟩
  | cons p ps ih =>
    have h1 : Kept s (s.Jj p) := by
      unfold aX.Jj; split
      · exact agI (p := p.m) h (g p List.mem_cons_self)
      · exact ⟨h, Fr.refl s⟩
    obtain ⟨c, d⟩ := ih h1.1 fun q hq => g q (List.mem_cons_of_mem _ hq)
    exact ⟨c, h1.2.trans d⟩
theorem abh (s : aX) (b : Bool) : (s.dH b).put = [] := by
  unfold aX.dH
  split
  · assumption
  · rfl
theorem ab7 (h : t.inn = true) (err : Int) : (t.nZ err).put = [] := by
  unfold aX.nZ
  rw [if_pos h]
  split
  · unfold aX.nY
    dsimp only
    exact abh _ _
  · rfl
theorem afD (h : RS s) (c : CZ) (g : Gm c.parts) : RS (s.Qp c) := aj6 (XC (XB h) c.parts g).1 _
theorem VJ (h : RS s) (ps : List yB) (g : Gm ps) : (ps.foldl aX.Jj s.dA).inn = true := ((XC (XB h) ps g).2.inn).trans (IU s)
theorem ZF (h : RS s) (c : CZ) (g : Gm c.parts) : (s.Qp c).inn = false := PS (VJ h c.parts g) _
theorem XD (h : RS s) (hi : s.inn = false) (cs : List CZ) (g : ∀ c ∈ cs, Gm c.parts) : RS (cs.foldl aX.Qp s) ∧ (cs.foldl aX.Qp s).inn = false := by
  induction cs generalizing s with
  | nil => exact ⟨h, hi⟩
  | cons c cs ih => exact ih (afD h c (g c List.mem_cons_self)) (ZF h c (g c List.mem_cons_self)) fun q hq => g q (List.mem_cons_of_mem _ hq)
theorem adf (hi : s.inn = false) : s.wV p = s := by
  have hr : ∀ i j l, s.gy i j l = s := fun i j l => by unfold aX.gy; rw [if_neg (by simp [hi])]
  have hc : ∀ i j b, s.oZ i j b = 1 := fun i j b => by unfold aX.oZ; rw [if_neg (by simp [hi])]
  unfold aX.wV
  split; · unfold aX.Aa; rw [if_neg (by simp [hi])]
  split; · unfold aX.BU; rw [if_neg (by simp [hi])]
  split; · unfold aX.BX; rw [if_neg (by simp [hi])]
  split; · unfold aX.zS aX.xR; rw [if_neg (by simp [hi])]
  split; · unfold aX.Np; rw [if_neg (by simp [hi])]
  split; · unfold aX.KH aX.GR; rw [if_neg (by simp [hi])]
  split; · unfold aX.BZ aX.Ac; rw [if_neg (by simp [hi])]
  split; · unfold aX.FP; rw [if_neg (by simp [hi])]
  split; · unfold aX.KI aX.GU; rw [if_neg (by simp [hi])]
  unfold aX.pY
  split; · unfold aX.qM; rw [if_neg (by simp [hi])]
  split; · exact hr _ _ _
  split; · exact hr _ _ _
  split; · exact hr _ _ _
  split; · unfold aX.zZ; rw [if_neg (by rw [hc]; decide)]
  split; · unfold aX.uS; rw [if_neg (by rw [hc]; decide)]
  split; · unfold aX.ql aX.yN; rw [if_neg (by simp [hi])]
  split; · unfold aX.zF aX.EU; rw [if_neg (by simp [hi])]
  split; · unfold aX.o7; rw [if_neg (by simp [hi])]
  split; · unfold aX.GN; rw [if_neg (by simp [hi])]
  unfold aX.zN aX.yY; rw [if_neg (by simp [hi])]
theorem NZ (hi : s.inn = false) (err : Int) : s.nZ err = s := by unfold aX.nZ; rw [if_neg (by simp [hi])]
theorem N7 (hi : s.inn = false) (err : Int) : s.Gg err = 1 := by unfold aX.Gg; rw [if_neg (by simp [hi])]
theorem adg (hi : s.inn = true) : s.dA = s := by unfold aX.dA; rw [if_pos hi]
theorem adh (hi : s.inn = true) : s.DU = 1 := by unfold aX.DU; rw [if_pos hi]
theorem abj (hi : s.inn = false) : s.DU = 0 := by unfold aX.DU; rw [if_neg (by simp [hi])]
theorem agJ (hi : s.inn = true) (err : Int) : s.Gg err = err := by unfold aX.Gg; rw [if_pos hi]
theorem abk {hl : List rM} {base most : Int} {l : List Int} (h : s.put = []) : (s.II hl base most l).put = [] := by unfold aX.II; split <;> exact h
end
end Go.Proofs.YtnhhmieghbfalaaGreatDoor
end
section
namespace Go.Proofs.YtnhhmieghbfalaaGreatDoor
open Go.RowKit
open _root_.Go.Proofs.Tryz
def aiO (w0 : World) (fv : Value) : Prop := ∀ (F : HP) (W : World) (v1 v2 : Value) (l : List Int), V w0 W F → jZ w0 F .i32 v1 l → jZ w0 F .i32 v2 l → abt prog fv [v1, v2] W fun u W' => u = .bool true ∧ V w0 W' F
theorem adi (w0 : World) : aiO w0 (.func (.func 62) #[] #[]) := fun F W v1 v2 l H h1 h2 =>
  ⟨62, [], [], _, _, rfl, func62, rfl, rfl, (Gx W v1 v2 l l (h1 W H) (h2 W H)).mono fun u W' h => ⟨by rw [h.1]; simp, H.yg h.2⟩⟩
section
variable {w0 w : World} {F : HP} {e y : Nat} {s : aX} {v1 v2 fv : Value} {l : List Int} {x : StM} {u z ks qs sv tv : Value} {ls : List (List Int)} {us vs : List Value} {S : List (Int × ByteArray)} {b : Int}
theorem agK (H : V w0 w F) (h1 : jZ w0 F .i32 v1 l) (h2 : jZ w0 F .i32 v2 l) : iK prog 61 #[v1, v2] w fun v w' => v = .bool true ∧ V w0 w' F := by
  refine nO func61 ntmps61 ?_
  refine kG O (bT O (cO O (fH O func62 (Gx _ _ _ _ _ (h1 _ (H)) (h2 _ (H))) ?_)))
  rintro _ w1 ⟨rfl, hD1⟩
  have HD1 := H.yg hD1
  refine iJ O (dO results61 O ?_)
  exact ⟨by simp, HD1⟩
theorem akf (w0 : World) : aiO w0 (.func (.func 61) #[] #[]) := fun F W v1 v2 l H h1 h2 =>
  ⟨61, [], [], _, _, rfl, func61, rfl, rfl, agK H h1 h2⟩
theorem TT (H : V w0 w F) (hf : aiO w0 fv) (k1 : Ht w0 F 1 ks ls.length us) (k2 : Ht w0 F 1 qs ls.length vs)
  (e1 : ∀ k, k < ls.length → jZ w0 F .i32 (us.getD k undef) (ls.getD k [])) (e2 : ∀ k, k < ls.length → jZ w0 F .i32 (vs.getD k undef) (ls.getD k [])) :
  iK prog 58 #[ks, qs, fv] w fun v' w' => v' = .bool true ∧ V w0 w' F := by
 have hb1 : (ls.length : Int) ≤ 9223372036854775807 := by obtain ⟨_, a, c, _, h1, h2, _⟩ := k1 w H; omega
 refine FY func58 ntmps58 ?_
 refine kG O (aI (bT O (aT (fV (k1 _ (H)) bF O) (cO O (aT (fV (k2 _ (H)) bF O) (aT (fF O O) (iR (Kq O (fun h1 => ?_)))))))))
 (try simp only [aG] at h1)
 refine gX (aI (bT O (aT (fV (k1 _ (H)) bF O) (cO O (iR (bK ?_))))))
 refine jh [(1, _), (2, _), (15, _), (16, _)] (fun (k : Nat) => [(17, .int .i64 (k : Int))]) (fun (k : Nat) W => k ≤ ls.length ∧ V w0 W F) (fun (k : Nat) => ls.length - k) (0) sb4 rJ ⟨by omega, H⟩ ?_
 rintro k w1 ⟨hk, HL⟩
 dsimp only [List.cons_append, List.nil_append]
 refine kQ (aT (fJ O O) (uV (dw O (fun h2 => ?_) (fun h2 => ?_))))
 ·(try simp only [aG] at h2)
  refine gX (aI (bK (aI ?_)))
  have hkl : k < ls.length := by omega
  refine aF (cO O ?_)
  obtain ⟨bks, oks, cks, eks⟩ := Rd.qX (k1 _ (HL)) (by omega)
  cases eks
  refine aT (dP bF bI O O (by omega)) ?_
  refine aT (fB (dG aB O) O (by first | exact Rd.yc (k1 _ (HL)) (by omega) | exact Rd.I8 (k1 _ (HL)) (by omega) | exact Rd.Ib (k1 _ (HL)) (by omega))) ?_
  refine Ob (fun ajH aaO => ?_)
  refine lg O (iU O (bT O (cO O ?_)))
  obtain ⟨bqs, oqs, cqs, eqs⟩ := Rd.qX (k2 _ (HL)) (by omega)
  cases eqs
  refine aT (dP bF bI O O (by omega)) ?_
  refine aT (fB (dG aB O) O (by first | exact Rd.yc (k2 _ (HL)) (by omega) | exact Rd.I8 (k2 _ (HL)) (by omega) | exact Rd.Ib (k2 _ (HL)) (by omega))) ?_
  refine Ob (fun al7 aiP => ?_)
  refine iU O (bT O (ku O O (jT (acg O O (hf _ _ _ _ (ls.getD k []) HL (fun W HW => by rw [aaO]; exact e1 k hkl W HW) (fun W HW => by rw [aiP]; exact e2 k hkl W HW))) ?_)))
  rintro _ w4 ⟨rfl, H4⟩
  refine aT (jG O) (iR (Kq O (fun h3 => ?_)))
  (try simp only [aG] at h3)
  refine eG (aS (aZ (aF (aT (gY O O (by omega)) (cO O (dJ ?_))))))
  refine fG (k + 1) ?_ ?_ ?_ ?_
  ·exact rJ
  ·exact sb4
  ·(try dsimp only)
   first | done | exact ⟨by omega, H4⟩
  ·(try dsimp only); omega
 ·(try simp only [aG] at h2)
  refine iZ (bC (bC (dK (aZ (jE O (dO results58 O ?_))))))
  exact ⟨O, HL⟩
theorem ZG (H : V w0 w F) (s1 : Ht w0 F 2 sv S.length (S.flatMap pF)) (s2 : Ht w0 F 2 tv S.length (S.flatMap pF)) : iK prog 120 #[sv, tv] w fun v' w' => v' = .bool true ∧ V w0 w' F := by
 have hb2 : (S.length : Int) ≤ 9223372036854775807 := by obtain ⟨_, a, c, _, h1, h2, _⟩ := s1 w H; omega
 refine nO func120 ntmps120 ?_
 refine kG O (aI (bT O (aT (fV (s1 _ (H)) iy O) (cO O (aT (fV (s2 _ (H)) iy O) (aT (fF O O) (iR (Kq O (fun h1 => ?_)))))))))
 (try simp only [aG] at h1)
 refine gX (aI (bT O (aT (fV (s1 _ (H)) iy O) (cO O (iR (bK ?_))))))
 refine jh [(0, _), (1, _), (12, _)] (fun (k : Nat) => [(13, .int .i64 (k : Int))]) (fun (k : Nat) W => k ≤ S.length ∧ V w0 W F) (fun (k : Nat) => S.length - k) (0) DK rJ ⟨by omega, H⟩ ?_
 rintro k w1 ⟨hk, HL⟩
 dsimp only [List.cons_append, List.nil_append]
 refine kQ (aT (fJ O O) (uV (dw O (fun h2 => ?_) (fun h2 => ?_))))
 ·(try simp only [aG] at h2)
  refine gX (aI (bK (aI ?_)))
  have hkl : k < S.length := by omega
  refine aF (cO O (vI O ?_))
  have agL := HL.drew
  have Lu := V.kp (agL)
  refine tH [3, 7] Lu O (fM 0 O Lu O (fM 1 O Lu O ?_))
  obtain ⟨bsv, osv, csv, esv⟩ := Rd.qX (s1 _ (agL)) (by omega)
  cases esv
  refine iE 2 O Lu (fun _ => dP iy rH O O (by omega)) (iD 3 O Lu (fun W hW => mF (ys := [_, _]) (s1 _ ((Kp.h hW))) (by omega) qV O rH O (mY QJ (by omega) default) O) (fM 4 O Lu O (fM 5 O Lu O ?_)))
  obtain ⟨btv, otv, ctv, etv⟩ := Rd.qX (s2 _ (agL)) (by omega)
  cases etv
  refine iE 6 O Lu (fun _ => dP iy rH O O (by omega)) (iD 7 O Lu (fun W hW => mF (ys := [_, _]) (s2 _ ((Kp.h hW))) (by omega) qV O rH O (mY QJ (by omega) default) O) (iE 8 O Lu (fun _ => NY O O) (oH (aZ (Kq O (fun h3 => ?_))))))
  (try simp only [aG] at h3)
  refine eG (aS (aZ (aF (aT (gY O O (by omega)) (cO O (dJ ?_))))))
  refine fG (k + 1) ?_ ?_ ?_ ?_
  ·exact rJ
  ·exact DK
  ·(try dsimp only)
   first | done | exact ⟨by omega, agL⟩
  ·(try dsimp only); omega
 ·(try simp only [aG] at h2)
  refine iZ (bC (bC (dK (aZ (jE O (dO results120 O ?_))))))
  exact ⟨O, HL⟩
theorem UG (H : V w0 w F) (g1 : jZ w0 F .i32 u l) (g2 : jZ w0 F .i32 z l) (k1 : Ht w0 F 1 ks ls.length us) (k2 : Ht w0 F 1 qs ls.length vs)
    (e1 : ∀ k, k < ls.length → jZ w0 F .i32 (us.getD k undef) (ls.getD k [])) (e2 : ∀ k, k < ls.length → jZ w0 F .i32 (vs.getD k undef) (ls.getD k []))
    (s1 : Ht w0 F 2 sv S.length (S.flatMap pF)) (s2 : Ht w0 F 2 tv S.length (S.flatMap pF)) :
    iK prog 50 #[.agg (stL x u ks sv).toArray, .agg (stL { x with nR := b } z qs tv).toArray] w fun v' w' => v' = .bool (decide (x.nR = b)) ∧ V w0 w' F := by
  unfold stL
  refine nO func50 ntmps50 ?_
  refine kQ (jT (kZ (l := [_, _, _, _, _, _, _, _, _, _, _, _, _, _, _, _, _]) H O O) ?_)
  rintro _ w1 ⟨b1, rfl, H1⟩
  refine jT (kZ (l := [_, _, _, _, _, _, _, _, _, _, _, _, _, _, _, _, _]) H1 O O) ?_
  rintro _ w2 ⟨b2, rfl, H2⟩
  refine vI O (kQ (bg 0 aW O oV O (bg 0 iM O bI O (dQ aB O (H2.f2).get.2 O (bg 0 aW O oV O (bg 0 iM O bI O (dQ aB O (H2).get.2 O (fH O func62 (Gx _ _ _ _ _ (g1 _ (H2.right.right)) (g2 _ (H2.right.right))) ?_))))))))
  rintro _ w3 ⟨rfl, hD3⟩
  have HD3 := H2.yg hD3
  rw [show (l == l) = true from by simp]
  refine aT (jG O) (cO O (bJ (bg 0 aW O oV O (bJ (bg 1 iM O ah O (bJ (dQ ay O (HD3.f2).get.2 O (bJ (bg 0 aW O oV O (bJ (bg 1 iM O ah O (bJ (dQ ay O (HD3).get.2 O (bJ (aT (fF O O) (kP O O (QW O (fun h1 => ?_))))))))))))))))))
  (try simp only [aG] at h1)
  refine bJ (bg 0 aW O oV O (bJ (bg 2 iM O ah O (bJ (dQ ay O (HD3.f2).get.2 O (bJ (bg 0 aW O oV O (bJ (bg 2 iM O ah O (bJ (dQ ay O (HD3).get.2 O (bJ (aT (fF O O) (kP O O (QW O (fun h2 => ?_))))))))))))))))
  (try simp only [aG] at h2)
  refine bJ (bg 13 aW O sizeOf73 O (bJ (dQ iy O (HD3.f2).get.2 O (bJ (bg 13 aW O sizeOf73 O (bJ (dQ iy O (HD3).get.2 O (bJ (fH O func120 (ZG HD3 (fun W HW => s1 _ (HW.right.right)) (fun W HW => s2 _ (HW.right.right))) ?_)))))))))
  rintro _ w4 ⟨rfl, H4⟩
  refine bJ (aT (jG O) (kP O O (QW O (fun h3 => ?_))))
  (try simp only [aG] at h3)
  refine bJ (bg 11 aW O gV O (bJ (dQ bF O (H4.f2).get.2 O (bJ (bg 11 aW O gV O (bJ (dQ bF O (H4).get.2 O (bJ (fH O func58 (TT (ls := ls) H4 (adi _) (fun W HW => k1 _ (HW.right.right)) (fun W HW => k2 _ (HW.right.right)) (fun k hk W HW => e1 k hk _ (HW.right.right)) (fun k hk W HW => e2 k hk _ (HW.right.right))) ?_)))))))))
  rintro _ w5 ⟨rfl, H5⟩
  refine bJ (aT (jG O) (kP O O (iR (Kq O (fun h4 => ?_)))))
  (try simp only [aG] at h4)
  refine gX (kQ (bg 3 aW O ah O (dQ ay O (H5.f2).get.2 O (bg 3 aW O ah O (dQ ay O (H5).get.2 O (aT (fA O O) (Z8 O (fun h5 => ?_))))))))
  (try simp only [aG] at h5)
  refine bJ (bg 4 aW O aN O (bJ (dQ bn O (H5.f2).get.2 O (bJ (bg 4 aW O aN O (bJ (dQ bn O (H5).get.2 O (bJ (aT (Hy bn O O) (mQ O O (Z8 O (fun h6 => ?_))))))))))))
  (try simp only [aG] at h6)
  refine bJ (bg 5 aW O aN O (bJ (dQ bn O (H5.f2).get.2 O (bJ (bg 5 aW O aN O (bJ (dQ bn O (H5).get.2 O (bJ (aT (Hy bn O O) (mQ O O (Z8 O (fun h7 => ?_))))))))))))
  (try simp only [aG] at h7)
  refine bJ (bg 6 aW O aN O (bJ (dQ bn O (H5.f2).get.2 O (bJ (bg 6 aW O aN O (bJ (dQ bn O (H5).get.2 O (bJ (aT (Hy bn O O) (mQ O O (Z8 O (fun h8 => ?_))))))))))))
  (try simp only [aG] at h8)
  refine bJ (bg 7 aW O ah O (bJ (dQ ay O (H5.f2).get.2 O (bJ (bg 7 aW O ah O (bJ (dQ ay O (H5).get.2 O (bJ (aT (fA O O) (mQ O O (Z8 O (fun h9 => ?_))))))))))))
  (try simp only [aG] at h9)
  refine bJ (bg 8 aW O ah O (bJ (dQ ay O (H5.f2).get.2 O (bJ (bg 8 aW O ah O (bJ (dQ ay O (H5).get.2 O (bJ (aT (fA O O) (mQ O O (Z8 O (fun h10 => ?_))))))))))))
  (try simp only [aG] at h10)
  refine bJ (bg 9 aW O ah O (bJ (dQ ay O (H5.f2).get.2 O (bJ (bg 9 aW O ah O (bJ (dQ ay O (H5).get.2 O (bJ (aT (fA O O) (mQ O O (Z8 O (fun h11 => ?_))))))))))))
  (try simp only [aG] at h11)
  refine bJ (bg 10 aW O ah O (bJ (dQ ay O (H5.f2).get.2 O (bJ (bg 10 aW O ah O (bJ (dQ ay O (H5).get.2 O (bJ (aT (fA O O) (mQ O O (Z8 O (fun h12 => ?_))))))))))))
  (try simp only [aG] at h12)
  refine bJ (bg 12 aW O ah O (bJ (dQ ay O (H5.f2).get.2 O (bJ (bg 12 aW O ah O (bJ (dQ ay O (H5).get.2 O (bJ (aT (fA O O) (mQ O O (Z8 O (fun h13 => ?_))))))))))))
  (try simp only [aG] at h13)
  refine bJ (bg 14 aW O ah O (bJ (dQ ay O (H5.f2).get.2 O (bJ (bg 14 aW O ah O (bJ (dQ ay O (H5).get.2 O (bJ (aT (fA O O) (mQ O O (Z8 O (fun h14 => ?_))))))))))))
  (try simp only [aG] at h14)
  refine bJ (bg 15 aW O ah O (bJ (dQ ay O (H5.f2).get.2 O (bJ (bg 15 aW O ah O (bJ (dQ ay O (H5).get.2 O (bJ (aT (fA O O) (mQ O O (Z8 O (fun h15 => ?_))))))))))))
  (try simp only [aG] at h15)
  refine bJ (bg 16 aW O nC O (bJ (dQ nD O (H5.f2).get.2 O (bJ (bg 16 aW O nC O (bJ (dQ nD O (H5).get.2 O (bJ (aT (fA O O) (mQ O O (iJ O (dO results50 O ?_))))))))))))
  exact ⟨O, H5.right.right⟩
end
theorem OV (b : Int) : ¬ b = IntKind.i64.wrap (b + 1) := by rw [IntKind.wrap_i64]; omega
theorem KC {w0 w : World} {F : HP} {t : TypeId} {ks : Value} {us : List Value} {s : aX} (H : V w0 w (Row t 1 ks s.c.E.length us • F)) : V w0 w (Row t 1 ks (kR s.c.E s.c.at_).length us • F) := by rw [Hl]; exact H
section
variable {w0 w : World} {F : HP} {e y : Nat} {s : aX} {l : List rM} {v : Value}
theorem XE (H : V w0 w (gQ e s • F)) : iK prog 59 #[.pointer (some ⟨e, 0, none⟩)] w fun v w' => ∃ us, V w0 w' (Row 24 1 v (kR s.c.E s.c.at_).length us • Gl 21 .i32 us (kR s.c.E s.c.at_) • gQ e s • F) := by
  obtain ⟨pb, pr, pw, pt, pm, ph, bl, pv, es, u0, u1, u2, u3, u4, u5, u6, u7, u8, u9, ua, ok, says, anc, H⟩ := H.Gs
  refine (Eo H.f3.f2).mono fun v w' h9 => ?_
  obtain ⟨us, H9⟩ := h9
  exact ⟨us, KC (V.iC (F := Row 24 1 v s.c.E.length us • Gl 21 .i32 us (kR s.c.E s.c.at_) • F) (e := e) (s := s) (pb := pb) (pr := pr) (pw := pw) (pt := pt) (pm := pm) (ph := ph) (bl := bl) (pv := pv) (es := es) (u0 := u0) (u1 := u1) (u2 := u2) (u3 := u3) (u4 := u4) (u5 := u5) (u6 := u6) (u7 := u7) (u8 := u8) (u9 := u9) (ua := ua) ok says (H9.of_eq (by ac_rfl))).f3.f3⟩
theorem UH (H : V w0 w (dY y s • F)) : iK prog 60 #[.pointer (some ⟨y, 0, none⟩)] w fun v w' => ∃ us, V w0 w' (Row 24 1 v (kR s.c.E s.c.at_).length us • vH .i32 us (kR s.c.E s.c.at_) • dY y s • F) := by
  obtain ⟨h, pb, pk, wv, nv, pv, gv, A, nw, es, yf, yt, ch, u0, u1, u2, u3, u4, u5, u6, u7, u8, u9, ua, ub, ok, pl, H⟩ := H.xq
  refine (Ls H.f3.f2 ok.rx.1.2).mono fun v w' h9 => ?_
  obtain ⟨us, H9⟩ := h9
  exact ⟨us, KC (V.fE (F := Row 24 1 v s.c.E.length us • vH .i32 us (kR s.c.E s.c.at_) • F) (y := y) (s := s) (h := h) (pb := pb) (pk := pk) (wv := wv) (nv := nv) (pv := pv) (gv := gv) (A := A) (nw := nw) (es := es) (yf := yf) (yt := yt) (ch := ch) (u0 := u0) (u1 := u1) (u2 := u2) (u3 := u3) (u4 := u4) (u5 := u5) (u6 := u6) (u7 := u7) (u8 := u8) (u9 := u9) (ua := ua) (ub := ub) ok (H9.of_eq (by ac_rfl))).f3.f3⟩
def StE (s : aX) (u ks sv : Value) : HP := BK fun us => kF 21 .i32 u s.c.L • Row 24 1 ks (kR s.c.E s.c.at_).length us • Gl 21 .i32 us (kR s.c.E s.c.at_) • Row 152 2 sv s.saved.length (s.saved.flatMap pF)
def StR (s : aX) (u ks sv : Value) : HP := BK fun us => kF 21 .i32 u s.c.L • Row 24 1 ks (kR s.c.E s.c.at_).length us • vH .i32 us (kR s.c.E s.c.at_) • Row 152 2 sv s.saved.length (s.saved.flatMap pF)
theorem V.ste {u ks sv : Value} (H : V w0 w (StE s u ks sv • F)) : ∃ us, V w0 w (kF 21 .i32 u s.c.L • Row 24 1 ks (kR s.c.E s.c.at_).length us • Gl 21 .i32 us (kR s.c.E s.c.at_) • Row 152 2 sv s.saved.length (s.saved.flatMap pF) • F) := by
  obtain ⟨us, H⟩ := H.sS; exact ⟨us, H.of_eq (by simp only [eX])⟩
theorem V.XF {u ks sv : Value} {us : List Value} (H : V w0 w (kF 21 .i32 u s.c.L • Row 24 1 ks (kR s.c.E s.c.at_).length us • Gl 21 .i32 us (kR s.c.E s.c.at_) • Row 152 2 sv s.saved.length (s.saved.flatMap pF) • F)) : V w0 w (StE s u ks sv • F) := V.lK us (H.of_eq (by simp only [eX]))
theorem V.str {u ks sv : Value} (H : V w0 w (StR s u ks sv • F)) : ∃ us, V w0 w (kF 21 .i32 u s.c.L • Row 24 1 ks (kR s.c.E s.c.at_).length us • vH .i32 us (kR s.c.E s.c.at_) • Row 152 2 sv s.saved.length (s.saved.flatMap pF) • F) := by
  obtain ⟨us, H⟩ := H.sS; exact ⟨us, H.of_eq (by simp only [eX])⟩
theorem V.afE {u ks sv : Value} {us : List Value} (H : V w0 w (kF 21 .i32 u s.c.L • Row 24 1 ks (kR s.c.E s.c.at_).length us • vH .i32 us (kR s.c.E s.c.at_) • Row 152 2 sv s.saved.length (s.saved.flatMap pF) • F)) : V w0 w (StR s u ks sv • F) := V.lK us (H.of_eq (by simp only [eX]))
theorem J7 (H : V w0 w (gQ e s • F)) : iK prog 21 #[.pointer (some ⟨e, 0, none⟩)] w fun v w' => ∃ u ks sv, u.oneCell' = true ∧ ks.oneCell' = true ∧ sv.oneCell' = true ∧ v = .agg (IL s u ks sv).toArray ∧ V w0 w' (StE s u ks sv • gQ e s • F) :=
  (NR H).mono fun v w' h => by
    obtain ⟨u, ks, us, sv, h1, h2⟩ := h
    exact ⟨u, ks, sv, (h2.aJ).one, (h2.f2.aJ).one, (h2.f4.aJ).one, h1, V.XF (KC h2.f2).f2⟩
theorem XG (H : V w0 w (dY y s • F)) (hpi : s.inn = false → s.put = []) : iK prog 52 #[.pointer (some ⟨y, 0, none⟩)] w fun v w' => ∃ u ks sv, u.oneCell' = true ∧ ks.oneCell' = true ∧ sv.oneCell' = true ∧ v = .agg (IL s u ks sv).toArray ∧ V w0 w' (StR s u ks sv • dY y s • F) :=
  (UF H hpi).mono fun v w' h => by
    obtain ⟨u, ks, us, sv, h1, h2⟩ := h
    exact ⟨u, ks, sv, (h2.aJ).one, (h2.f2.aJ).one, (h2.f4.aJ).one, h1, V.afE (KC h2.f2).f2⟩
def aiQ (s : aX) (b : Int) (u ks sv : Value) : List Value := [u, .int .i64 s.c.pt, .int .i64 s.c.mark, .int .i64 s.c.mode, .bool s.c.over, .bool s.given, .bool s.minus, .int .i64 s.arg, .int .i64 s.yx, .int .i64 s.Ox, .int .i64 s.Qi, ks, .int .i64 s.c.place, sv, .int .i64 s.JG, .int .i64 s.c.res, .int .i64 b]
theorem N8 {u ks sv z qs tv : Value} {b : Int} (H : V w0 w (StE s u ks sv • StE s z qs tv • F)) : iK prog 50 #[.agg (IL s u ks sv).toArray, .agg (aiQ s b z qs tv).toArray] w fun v' w' => v' = .bool (decide (s.nR = b)) ∧ V w0 w' (StE s u ks sv • StE s z qs tv • F) := by
  obtain ⟨us, H1⟩ := H.ste
  obtain ⟨vs, H2⟩ := (H1.f5).ste
  refine (UG (x := akc s) (b := b) (l := s.c.L) (ls := kR s.c.E s.c.at_) (S := s.saved) (us := us) (vs := vs) H2 (fun W HW => HW.f5.aJ) (fun W HW => HW.aJ) (fun W HW => HW.f6.aJ) (fun W HW => HW.f2.aJ) (fun k hk W HW => HW.f7.QF hk) (fun k hk W HW => HW.f3.QF hk) (fun W HW => HW.f8.aJ) (fun W HW => HW.f4.aJ)).mono fun v w' h => ⟨h.1, ?_⟩
  exact V.XF ((V.XF h.2).f5.f5.f5.f5)
theorem UJ {u ks sv z qs tv : Value} (H : V w0 w (StE s u ks sv • StR s z qs tv • F)) : iK prog 51 #[.agg (IL s u ks sv).toArray, .agg (IL s z qs tv).toArray] w fun v' w' => v' = .bool true ∧ V w0 w' (StE s u ks sv • StR s z qs tv • F) := by
  obtain ⟨us, H1⟩ := H.ste
  obtain ⟨vs, H2⟩ := (H1.f5).str
  refine (TS (x := akc s) (l := s.c.L) (ls := kR s.c.E s.c.at_) (S := s.saved) (us := us) (vs := vs) H2 (fun W HW => HW.f5.aJ) (fun W HW => HW.aJ) (fun W HW => HW.f6.aJ) (fun W HW => HW.f2.aJ) (fun k hk W HW => HW.f7.QF hk) (fun k hk W HW => HW.f3.Dc hk) (fun W HW => HW.f8.aJ) (fun W HW => HW.f4.aJ)).mono fun v w' h => ⟨h.1, ?_⟩
  exact V.XF ((V.afE h.2).f5.f5.f5.f5)
theorem OW (H : V w0 w (gQ e s • dY y s • F)) (hpi : s.inn = false → s.put = []) : iK prog 11 #[.pointer (some ⟨e, 0, none⟩), .pointer (some ⟨y, 0, none⟩)] w fun v w' => v = .bool true ∧ V w0 w' (gQ e s • dY y s • F) := by
 refine nO func11 ntmps11 ?_
 refine kG O (bT O (fH O func21 (J7 H) ?_))
 rintro _ w1 ⟨u1, ks1, sv1, ou1, ok1, os1, rfl, H1⟩
 refine jT (iI (l := [_, _, _, _, _, _, _, _, _, _, _, _, _, _, _, _, _]) H1 kL O) ?_
 rintro _ w2 ⟨b2, rfl, H2⟩
 refine aH (dR 0 (l' := [_, _, _, _, _, _, _, _, _, _, _, _, _, _, _, _, _]) (us := [_, _, _, _, _, _, _, _, _, _, _, _, _, _, _, _, _]) H2 oI O O O (aP (aP (aP (aP (aP (aP (aP (aP (aP (aP (aP (aP (aP (aP (aP (aP (aP bW))))))))))))))))) O O) ?_
 rintro _ w3 H3
 refine qG O (fH O func21 (J7 H3.f3) ?_)
 rintro _ w4 ⟨u4, ks4, sv4, ou4, ok4, os4, rfl, H4⟩
 refine jT (iI (l := [_, _, _, _, _, _, _, _, _, _, _, _, _, _, _, _, _]) H4 kL O) ?_
 rintro _ w5 ⟨b5, rfl, H5⟩
 refine aH (dR 0 (l' := [_, _, _, _, _, _, _, _, _, _, _, _, _, _, _, _, _]) (us := [_, _, _, _, _, _, _, _, _, _, _, _, _, _, _, _, _]) H5 oI O O O (aP (aP (aP (aP (aP (aP (aP (aP (aP (aP (aP (aP (aP (aP (aP (aP (aP bW))))))))))))))))) O O) ?_
 rintro _ w6 H6
 refine zk7 (bg 16 aW O nC O (dQ nD O (H6).get.2 O (aT (ads O O) (bg 16 aW O nC O (aH (afU 16 H6 nC) ?_)))))
 rintro _ w7 H7
 refine uV ?_
 have akg := H7.drew
 have afF := V.kp (akg.f3.right.f5.right.f4.f4.f4.f4)
 refine tH [0, 5, 6, 11] afF O (iD 0 O afF (fun W hW => dU aW O oI O O ((Kp.h hW).f3).get.2) (fM 1 O afF O (lC 2 O (qW O func21 (J7 akg.f3)) ?_)))
 rintro _ w8 ⟨u8, ks8, sv8, ou8, ok8, os8, rfl, H8⟩
 have Ip := V.kp (H8.f7.right.f6.f6.f6.f6.f6.f6)
 refine dZ Ip (fun W hW => (Kp.h hW).right.right.f4.f4.f4.f4) ?_
 refine lC 3 O (qW O func50 (N8 H8.f6)) ?_
 rintro _ w9 ⟨rfl, H9⟩
 have aaf := H9.f2.right
 have D7 := V.kp (aaf.f6.right.f5.f5.f5.f5.f5)
 refine dX D7 (by kernel_rfl) ?_
 refine rO 4 O O (by kernel_rfl) (by kernel_rfl) D7 (iO O) (fun h1 => ?_) (fun h => by exfalso; (try simp only [aG] at h); first | exact h O | simp at h)
 (try simp only [aG] at h1)
 refine jW 5 O O O (by kernel_rfl) (by kernel_rfl) D7 (by decide) (fun W hW => dU aW O oI O O ((Kp.h hW).f5).get.2) (iO O) ?_
 refine jW 6 O O O (by kernel_rfl) (by kernel_rfl) D7 (by decide) (fun W hW => dU aW O oI O O ((Kp.h hW).f3).get.2) (iO O) ?_
 refine kJ 7 O O O (by kernel_rfl) (nM (nX O func50 O O) (N8 aaf.f4.f2)) (iO O) ?_
 rintro _ Ii ⟨rfl, rE⟩
 have Qc := rE.f4.right
 have aeJ := Qc.f2.right
 have BQ := V.kp (aeJ.f4.right.f3.f3.f3)
 refine dX BQ (by kernel_rfl) ?_
 refine bQ 8 O O O (by kernel_rfl) (by kernel_rfl) BQ (fun _ => jG O) (iO O) ?_
 refine iE 9 O BQ (fun _ => oP O O) ?_
 refine rO 10 O O (by kernel_rfl) (by kernel_rfl) BQ (iO O) (fun h2 => ?_) (fun h => by exfalso; (try simp only [aG] at h); first | exact OV _ h | exact h (OV _) | exact absurd (OV s.nR) (by simpa using h))
 (try simp only [aG] at h2)
 refine jW 11 O O O (by kernel_rfl) (by kernel_rfl) BQ (by decide) (fun W hW => dU aW O oI O O ((Kp.h hW).f3).get.2) (iO O) ?_
 refine bQ 12 O O O (by kernel_rfl) (by kernel_rfl) BQ (fun _ => oh O) (iO O) ?_
 refine kJ 13 O O O (by kernel_rfl) (nM (nX O func52 O O) (XG aeJ.f4 (by assumption))) (iO O) ?_
 rintro _ O9 ⟨u14, ane, anf, ang, anh, ani, rfl, BJ⟩
 have JD := V.kp (BJ.f5.f5.f5.f5.f5)
 refine dZ JD (fun W hW => (Kp.h hW).right.right.f3.f3.f3) ?_
 refine kJ 14 O O O (by kernel_rfl) (nM (nX O func51 O O) (UJ BJ.f3)) (iO O) ?_
 rintro _ Ry ⟨rfl, CJ⟩
 have ah4 := CJ.f5.right
 have aaq := ah4.right
 have YZ := aaq.right
 have Bz := V.kp (YZ.f2.f2)
 refine dX Bz (by kernel_rfl) ?_
 refine iE 15 O Bz (fun _ => oP O O) (fM 16 O Bz O ?_)
 refine bQ 17 O O O (by kernel_rfl) (by kernel_rfl) Bz (fun _ => oh O) (iO O) ?_
 refine bQ 19 O O O (by kernel_rfl) (by kernel_rfl) Bz (fun _ => oh O) (iO O) ?_
 refine kJ 18 O O O (by kernel_rfl) (nM (nX O func54 O O) (YU YZ.f2)) (iO O) ?_
 rintro _ X9 ⟨u19, rfl, Df⟩
 have EW := V.kp (Df.f3.f3.f3)
 refine dX EW (by kernel_rfl) ?_
 refine kJ 20 O O O (by kernel_rfl) (nM (nX O func55 O O) (Xg Df.f3)) (iO O) ?_
 rintro _ ZJ ⟨u20, rfl, DR⟩
 have GX := V.kp (DR.f4.f4.f4.f4)
 refine dX GX (by kernel_rfl) ?_
 refine kJ 21 O O O (by kernel_rfl) (nM (nX O func53 O O) (KX DR (fun W HW => (HW.f3).aJ) (fun W HW => (HW).aJ))) (iO O) ?_
 rintro _ Ya ⟨rfl, xZ⟩
 have Hg := V.kp (xZ.f4.f4.f4.f4)
 refine dX Hg (by kernel_rfl) ?_
 have SK := xZ.f3.right
 have aeN := SK.right
 refine iE 22 O Hg (fun _ => oP O O) (fM 23 O Hg O ?_)
 refine bQ 24 O O O (by kernel_rfl) (by kernel_rfl) Hg (fun _ => oh O) (iO O) ?_
 refine bQ 26 O O O (by kernel_rfl) (by kernel_rfl) Hg (fun _ => oh O) (iO O) ?_
 refine kJ 25 O O O (by kernel_rfl) (nM (nX O func33 O O) (Ei aeN.f2)) (iO O) ?_
 rintro _ w24 ⟨rfl, Hw⟩
 have GY := V.kp (Hw.f2.f2)
 refine dX GY (by kernel_rfl) ?_
 refine kJ 27 O O O (by kernel_rfl) (nM (nX O func34 O O) (Di Hw.f2)) (iO O) ?_
 rintro _ w25 ⟨rfl, Jo⟩
 have Cc := V.kp (Jo.f2.f2)
 refine dX Cc (by kernel_rfl) ?_
 refine bQ 28 O O O (by kernel_rfl) (by kernel_rfl) Cc (fun _ => fA O O) (iO O) ?_
 refine iE 29 O Cc (fun _ => oP O O) ?_
 refine rO 30 O O (by kernel_rfl) (by kernel_rfl) Cc (iO O) (fun h3 => ?_) (fun h => by exfalso; (try simp only [aG] at h); simp at h)
 (try simp only [aG] at h3)
 refine bQ 31 O O O (by kernel_rfl) (by kernel_rfl) Cc (fun _ => oh O) (iO O) ?_
 refine bQ 33 O O O (by kernel_rfl) (by kernel_rfl) Cc (fun _ => oh O) (iO O) ?_
 refine kJ 32 O O O (by kernel_rfl) (nM (nX O func56 O O) (WW Jo.f2)) (iO O) ?_
 rintro _ w26 ⟨rfl, FK⟩
 have ND := V.kp (FK.f2.f2)
 refine dZ ND (fun W hW => (Kp.h hW).f2) ?_
 refine kJ 34 O O O (by kernel_rfl) (nM (nX O func57 O O) (Ux FK.f2)) (iO O) ?_
 rintro _ w27 ⟨rfl, KT⟩
 have Ji := V.kp (KT.f2.f2)
 refine dZ Ji (fun W hW => (Kp.h hW).f2) ?_
 refine bQ 35 O O O (by kernel_rfl) (by kernel_rfl) Ji (fun _ => Hy bn O O) (iO O) ?_
 refine iE 36 O Ji (fun _ => oP O O) ?_
 refine rO 37 O O (by kernel_rfl) (by kernel_rfl) Ji (iO O) (fun h4 => ?_) (fun h => by exfalso; (try simp only [aG] at h); simp at h)
 (try simp only [aG] at h4)
 refine bQ 38 O O O (by kernel_rfl) (by kernel_rfl) Ji (fun _ => oh O) (iO O) ?_
 refine bQ 40 O O O (by kernel_rfl) (by kernel_rfl) Ji (fun _ => oh O) (iO O) ?_
 refine kJ 39 O O O (by kernel_rfl) (nM (nX O func59 O O) (XE KT.f2)) (iO O) ?_
 rintro u28 w28 ⟨anj, Rz⟩
 have Jh := V.kp (Rz.f4.f4.f4.f4)
 refine dZ Jh (fun W hW => (Kp.h hW).right.right.f2) ?_
 refine kJ 41 O O O (by kernel_rfl) (nM (nX O func60 O O) (UH Rz.f4)) (iO O) ?_
 rintro u29 w29 ⟨ank, N9⟩
 have Tz := V.kp (N9.f6.f6.f6.f6.f6.f6)
 refine dZ Tz (fun W hW => (Kp.h hW).right.right.f4.f4.f4) ?_
 refine kJ 42 O O O (by kernel_rfl) (nM (nX O func58 O O) (TT (ls := kR s.c.E s.c.at_) N9 (akf _) (fun W HW => (HW.f4).aJ) (fun W HW => (HW).aJ) (fun k hk W HW => (HW.f5).QF hk) (fun k hk W HW => (HW.f2).Dc hk))) (iO O) ?_
 rintro _ w30 ⟨rfl, P9⟩
 have JV := V.kp (P9.f6.f6.f6.f6.f6.f6)
 refine dZ JV (fun W hW => (Kp.h hW).f6.f6.f6.f6.f6.f6) ?_
 refine iE 43 O JV (fun _ => oP O O) (iE 44 O JV (fun _ => eH O) (oH (aZ (kN (dO results11 O ?_)))))
 exact ⟨by simp, P9.right.right.f2.right.f2.right.f2⟩
end
end Go.Proofs.YtnhhmieghbfalaaGreatDoor
end
