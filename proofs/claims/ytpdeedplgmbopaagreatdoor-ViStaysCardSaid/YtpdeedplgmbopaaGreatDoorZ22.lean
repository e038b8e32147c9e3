import Derived.Test.YtpdeedplgmbopaaGreatDoorZ4
import Derived.Test.YtpdeedplgmbopaaGreatDoorZ21
import Derived.Test.YtpdeedplgmbopaaGreatDoorZ13
set_option linter.unusedSimpArgs false
set_option linter.unusedVariables false
/- Texts of mine, joined, their names in short: VWk. -/
section
namespace Go.Proofs.YtpdeedplgmbopaaGreatDoor
open Go.RowKit
open _root_.Go.Proofs.Tryz
section
variable {w0 w : World} {F : HP} {c m e : Nat} {s t : bQ} {name : ByteArray} {kv lv : Value} {n p i j q a r x : Int} {g : Bool} {keys l L : List Int} {k : Nat} {M : VM}
theorem xq (H : V w0 w (VC c m e name kv n g lv p • jW m M • dZ e s • F)) : jf prog 165 #[.pointer (some ⟨c, 0, none⟩)] w fun v w' => v = .int .i64 (s.yw 1) ∧ V w0 w' (VC c m e name kv n g lv p • jW m { M with Ze := s.c.pt } • dZ e (s.zH 1) • F) := by
 refine jE func165 ntmps165 ?_
 refine kH O (aI ?_)
 obtain ⟨Io, GH, F9, oK, rP⟩ := (H.f2).vm
 have Rl := rP.drew
 have oP := V.kp (Rl.f6.right.f5.f5.f5.f5.f5)
 refine nG [3, 7] oP O (fD 0 O oP O (iG 1 O oP O (dJ 2 O oP 0 aB O qH O (fM 3 O oP (fun W hW => fQ jG O ((Kp.h hW).f5).get.2 O) (fD 4 O oP O (iG 5 O oP O (dJ 6 O oP 1 aB O fA O (fM 7 O oP (fun W hW => fQ bY O ((Kp.h hW).f5).get.2 O) (ny 8 O (wM O func28 (pU Rl.f6)) ?_)))))))))
 rintro _ w2 ⟨u2, rfl, H2⟩
 have zB := V.kp (H2.f7.f7.f7.f7.f7.f7.f7)
 refine dK zB (fun W hW => (Kp.h hW).right.right.f5.f5.f5.f5.f5) ?_
 refine dS 9 O zB (fun _ => pY 1 fK O O (bV aA O) O O) (iG 10 O zB O (dJ 11 O zB 7 fZ O aj O ?_))
 refine dF 12 O (by kernel_rfl) (ig 7 (l' := [_, _, _, _, _, _, _, _]) H2.f3 aj O O (by first | rfl | assumption) O O) ?_
 rintro _ w3 H3
 have uQ := V.kp (H3.f7.f7.f7.f7.f7.f7.f7)
 refine gU uQ (by kernel_rfl) ?_
 have Uu := H3.f6.f6.f6.f4
 have Rj := V.zW (M := { M with Ze := s.c.pt }) oK Uu
 refine lJ (aU (bI O (dV O (bM 1 aB O fA O (eH bY O (Rj.f4).get.2 O (dX O func62 (A8 Rj.f3) ?_))))))
 rintro _ w6 ⟨rfl, H6⟩
 refine fP O (dL results165 O ?_)
 exact ⟨O, H6.f3.right.f2.f3⟩
theorem ad6 (H : V w0 w (VC c m e name kv n g lv p • dZ e s • F)) (hk : jO w0 F .i32 kv keys) (hk1 : 1 ≤ keys.length) : jf prog 161 #[.pointer (some ⟨c, 0, none⟩)] w fun v w' => ∃ x t, Fr s t ∧ v = .int .i64 x ∧ V w0 w' (VC c m e name kv n g lv p • dZ e t • F) := by
 refine jE func161 ntmps161 ?_
 refine kH O (bI O (dV O (bM 3 aB O bD O (eH ah O (H).get.2 O ?_))))
 obtain ⟨Xx, Xy, Xz, ekv⟩ := gB.qN (hk _ (H.right.right)) (by omega)
 cases ekv
 refine aV (dI ah bP O O (by omega)) (aV (dW (bV bC O) O (gB.atC 0 (hk _ (H.right.right)) (by omega))) (tX O (bf (bI O (aV (gG O O) (jY O (fun h1 => ?_) (fun h1 => ?_)))))))
 ·(try simp only [Z] at h1)
  refine bK (bK (jQ O O (fO O (ET (jS O (aN (aC (dL results161 O ?_))))))))
  exact ⟨_, _, Fr.refl s, O, H.f2.f2⟩
 ·(try simp only [Z] at h1)
  refine bF (bW O (bF (aV (gK O O) (iH O O (fO O (bg O (fun h2 => ?_) (fun h2 => ?_)))))))
  ·(try simp only [Z] at h2)
   refine jS O (aN (aC (dL results161 O ?_)))
   exact ⟨_, _, Fr.refl s, O, H.f2.f2⟩
  ·(try simp only [Z] at h2)
   refine bI O (aV (fB O O) (jY O (fun h3 => ?_) (fun h3 => ?_)))
   ·(try simp only [Z] at h3)
    refine bF (bW O (bF (dV O (bF (bM 5 aB O aT O (bF (eH bJ O (H).get.2 O (bF (aV (jR O) (jQ O O (fO O (bg O (fun h4 => ?_) (fun h4 => ?_)))))))))))))
    ·(try simp only [Z] at h4)
     refine bI O (dV O (bM 1 aB O fA O (eH bY O (H).get.2 O (dX O func30 (kD H.f2) ?_))))
     rintro _ w1 ⟨rfl, H1⟩
     refine fP O (aN (aC (dL results161 O ?_)))
     exact ⟨_, _, qI _ _, O, H1.f2⟩
    ·(try simp only [Z] at h4)
     refine bU (aH (aU (bI O (dV O (bM 1 aB O fA O (eH bY O (H).get.2 O (bW O (aV (NG (Bo O O) (congrArg (Value.int .i32) (Ej (by omega)))) ?_))))))))
     refine aV (sV O (by rw [underlying21]; rfl) aA (IY (by omega))) ?_
     refine dX O func182 (KO H.f2) ?_
     rintro _ w2 ⟨rfl, H2⟩
     refine fP O (dL results161 O ?_)
     exact ⟨_, _, XF _ _, O, H2.f2⟩
   ·(try simp only [Z] at h3)
    refine bK (bK (bK (bK (bK (iH O O (fO O (oL (bU (aH (aU (bI O (dV O (bM 1 aB O fA O (eH bY O (H).get.2 O (bW O (aV (NG (Bo O O) (congrArg (Value.int .i32) (Ej (by omega)))) ?_))))))))))))))))
    refine aV (sV O (by rw [underlying21]; rfl) aA (IY (by omega))) ?_
    refine dX O func182 (KO H.f2) ?_
    rintro _ w3 ⟨rfl, H3⟩
    refine fP O (dL results161 O ?_)
    exact ⟨_, _, XF _ _, O, H3.f2⟩
theorem age (H : V w0 w (VC c m e name kv n g lv p • dZ e s • F)) (hk : jO w0 F .i32 kv keys) (hk1 : 1 ≤ keys.length) (hn : 1 ≤ n ∧ n ≤ 1000000) : jf prog 170 #[.pointer (some ⟨c, 0, none⟩)] w fun v w' => ∃ x t, Fr s t ∧ v = .int .i64 x ∧ V w0 w' (VC c m e name kv n g lv p • dZ e t • F) := by
 refine jE func170 ntmps170 ?_
 refine kH O (aI (bI O (dV O (bM 3 aB O bD O (eH ah O (H).get.2 O ?_)))))
 obtain ⟨Xx, Xy, Xz, ekv⟩ := gB.qN (hk _ (H.right.right)) (by omega)
 cases ekv
 refine aV (dI ah bP O O (by omega)) ?_
 refine aV (dW (bV bC O) O (by first | exact gB.lN (hk _ (H.right.right)) (by omega) | exact gB.uP (hk _ (H.right.right)) (by omega) | exact gB.wO (hk _ (H.right.right)) (by omega))) ?_
 refine aV (fB O O) (iW O (fun h1 => ?_) (fun h1 => ?_))
 ·(try simp only [Z] at h1)
  refine bI O (dV O (bM 1 aB O fA O (eH bY O (H).get.2 O (dX O func193 (YZ H.f2) ?_))))
  rintro _ w1 ⟨rfl, H1⟩
  refine fP O (aC (dL results170 O ?_))
  exact ⟨_, _, air s, O, H1.f2⟩
 ·(try simp only [Z] at h1)
  refine gy (aI (bI O (dV O (bM 4 aB O aj O (eH aA O (H).get.2 O (bW O (iR (bf ?_))))))))
  refine iy [(0, _), (20, _)] (fun (⟨t, i⟩ : bQ × Nat) => [(21, .int .i64 (i : Int))]) (fun (⟨t, i⟩ : bQ × Nat) W => (i : Int) ≤ n ∧ Fr s t ∧ V w0 W (dZ e t • VC c m e name (.slice (some ⟨Xx, Xy, none⟩) (keys.length) Xz) n g lv p • F)) (fun (⟨t, i⟩ : bQ × Nat) => n.toNat - i) ((s, 0)) sG lH ⟨by omega, Fr.refl s, H.f2⟩ ?_
  rintro ⟨t, i⟩ w2 ⟨hi, hfr, HL⟩
  dsimp only [List.cons_append, List.nil_append]
  refine jg (aV (gG O O) (rW (bg O (fun h2 => ?_) (fun h2 => ?_))))
  ·(try simp only [Z] at h2)
   refine gy (aI (bf (bI O (fO O (bI O (dV O (bM 1 aB O fA O (eH bY O (HL.f2).get.2 O (dX O func194 (WV HL) ?_)))))))))
   rintro _ w3 ⟨rfl, H3⟩
   refine fO O (bI O (aV (fF O O) (iW O (fun h3 => ?_) (fun h3 => ?_))))
   ·(try simp only [Z] at h3)
    refine aI (bI O (aV (fB O O) (iW O (fun h4 => ?_) (fun h4 => ?_))))
    ·(try simp only [Z] at h4)
     refine bI O (fP O (aC (aN (aC (aC (aN (aC (dL results170 O ?_))))))))
     exact ⟨_, _, hfr.trans (Om _), O, H3.f2⟩
    ·(try simp only [Z] at h4)
     refine gy (dR ?_)
     refine Ew (by decide) ?_
     refine aP (aP (bH (aU (jS O (dL results170 O ?_)))))
     first | exact ⟨_, _, hfr.trans (Om _), rfl, H3.f2⟩ | exact ⟨_, _, hfr, rfl, H3.f2⟩
   ·(try simp only [Z] at h3)
    refine bU (aH (aU (aF (aV (fH O O (by omega)) (bW O (bT ?_))))))
    refine dN ((t.vK, i + 1)) ?_ ?_ ?_ ?_
    ·exact lH
    ·exact sG
    ·(try dsimp only)
     first | done | exact ⟨by omega, hfr.trans (Om _), H3.f2.f2⟩
    ·(try dsimp only); omega
  ·(try simp only [Z] at h2)
   refine dR (aP (aP (bH (aU (jS O (dL results170 O ?_))))))
   first | exact ⟨_, _, hfr.trans (Om _), rfl, HL.f2⟩ | exact ⟨_, _, hfr, rfl, HL.f2⟩
theorem abV (H : V w0 w (VC c m e name kv n g lv s.c.pt • je 21 .i32 lv s.c.L • jW m M • dZ e s • F)) (hk : jO w0 F .i32 kv keys) (hT : Bq w0) (hk1 : 1 ≤ keys.length) : jf prog 168 #[.pointer (some ⟨c, 0, none⟩)] w fun v w' => ∃ x t M', Fr s t ∧ v = .int .i64 x ∧ V w0 w' (VC c m e name kv n g lv s.c.pt • je 21 .i32 lv s.c.L • jW m M' • dZ e t • F) := by
 obtain ⟨hln, hpt⟩ := xH H.f4
 refine jE func168 ntmps168 ?_
 refine kH O (bI O (dV O (bM 7 aB O aj O (eH aA O (H).get.2 O (tX O (bI O (dV O (bM 2 aB O kM O (eH iD O (H).get.2 O (aV (eP O O) (iW O (fun h1 => ?_) (fun h1 => ?_))))))))))))
 ·(try simp only [Z] at h1)
  refine bI O (dV O (bM 1 aB O fA O (eH bY O (H).get.2 O (dX O func192 (Ei H.f4) ?_))))
  rintro _ w1 ⟨rfl, H1⟩
  refine uS O (dX O func165 (xq H1.f4.f3) ?_)
  rintro _ w2 ⟨rfl, H2⟩
  refine fP O (aC (dL sS O ?_))
  exact ⟨_, _, _, (Oo _ _).trans (zO _ _), O, H2.f3.f3.f4.f4⟩
 ·(try simp only [Z] at h1)
  refine gy (aI (bI O (dV O (bM 3 aB O bD O (eH ah O (H).get.2 O ?_)))))
  obtain ⟨Xx, Xy, Xz, ekv⟩ := gB.qN (hk _ (H.right.right.right.right)) (by omega)
  cases ekv
  refine aV (dI ah bP O O (by omega)) ?_
  refine aV (dW (bV bC O) O (by first | exact gB.lN (hk _ (H.right.right.right.right)) (by omega) | exact gB.uP (hk _ (H.right.right.right.right)) (by omega) | exact gB.wO (hk _ (H.right.right.right.right)) (by omega))) ?_
  refine iR (bf (jg (aV (fB O O) (fO O (bg O (fun h2 => ?_) (fun h2 => ?_))))))
  ·(try simp only [Z] at h2)
   refine aF (bW O (aV (fH O O (by omega)) (mX O O (bM 6 aB O bD O (eH ah O (H).get.2 O (aV (gZ ((H.f2).aO) ah O) (aV (mW O O) (gW O (bT (aH (aU (aI (bI O (dV O (bM 1 aB O fA O (eH bY O (H).get.2 O (bW O (dX O func30 (kD H.f4) ?_))))))))))))))))))
   rintro _ w3 ⟨rfl, H3⟩
   refine fO O (bI O (aV (fF O O) (iW O (fun h3 => ?_) (fun h3 => ?_))))
   ·(try simp only [Z] at h3)
    refine bI O (fP O (aC (dL sS O ?_)))
    exact ⟨_, _, _, qI _ _, O, H3.f4.f4.f4⟩
   ·(try simp only [Z] at h3)
    refine gy (bI O (dX O func165 (xq H3.f4.f3) ?_))
    rintro _ w4 ⟨rfl, H4⟩
    refine fP O (dL sS O ?_)
    exact ⟨_, _, _, (qI _ _).trans (zO _ _), O, H4.f3.f3.f4.f4⟩
  ·(try simp only [Z] at h2)
   refine jg (aV (fB O O) (fO O (bg O (fun h4 => ?_) (fun h4 => ?_))))
   ·(try simp only [Z] at h4)
    refine aF (mX O O (bM 6 aB O bD O (eH ah O (H).get.2 O (aV (gZ ((H.f2).aO) ah O) (gW O (bT (aH (aU (aI (bI O (dV O (bM 1 aB O fA O (eH bY O (H).get.2 O (bW O (dX O func30 (kD H.f4) ?_)))))))))))))))
    rintro _ w5 ⟨rfl, H5⟩
    refine fO O (bI O (aV (fF O O) (iW O (fun h5 => ?_) (fun h5 => ?_))))
    ·(try simp only [Z] at h5)
     refine bI O (fP O (aC (dL sS O ?_)))
     exact ⟨_, _, _, qI _ _, O, H5.f4.f4.f4⟩
    ·(try simp only [Z] at h5)
     refine gy (bI O (dX O func165 (xq H5.f4.f3) ?_))
     rintro _ w6 ⟨rfl, H6⟩
     refine fP O (dL sS O ?_)
     exact ⟨_, _, _, (qI _ _).trans (zO _ _), O, H6.f3.f3.f4.f4⟩
   ·(try simp only [Z] at h4)
    refine jg (aV (fB O O) (fO O (bg O (fun h6 => ?_) (fun h6 => ?_))))
    ·(try simp only [Z] at h6)
     refine aF (mX O O (bM 6 aB O bD O (eH ah O (H).get.2 O (dX O func11 (Es H (fun W HW => (HW.f2).aO) hT (by omega) (by omega)) ?_))))
     rintro _ w7 ⟨rfl, H7⟩
     refine bW O (oZ O O (oZ O O (oZ O O (gW O (bT (aH (aU (aI (bI O (dV O (bM 1 aB O fA O (eH bY O (H7).get.2 O (bW O (dX O func30 (kD H7.f4) ?_))))))))))))))
     rintro _ w8 ⟨rfl, H8⟩
     refine fO O (bI O (aV (fF O O) (iW O (fun h7 => ?_) (fun h7 => ?_))))
     ·(try simp only [Z] at h7)
      refine bI O (fP O (aC (dL sS O ?_)))
      exact ⟨_, _, _, qI _ _, O, H8.f4.f4.f4⟩
     ·(try simp only [Z] at h7)
      refine gy (bI O (dX O func165 (xq H8.f4.f3) ?_))
      rintro _ w9 ⟨rfl, H9⟩
      refine fP O (dL sS O ?_)
      exact ⟨_, _, _, (qI _ _).trans (zO _ _), O, H9.f3.f3.f4.f4⟩
    ·(try simp only [Z] at h6)
     refine bU (aH (aU (aI (bI O (dV O (bM 1 aB O fA O (eH bY O (H).get.2 O (bW O (dX O func30 (kD H.f4) ?_)))))))))
     rintro _ w10 ⟨rfl, pG⟩
     refine fO O (bI O (aV (fF O O) (iW O (fun h8 => ?_) (fun h8 => ?_))))
     ·(try simp only [Z] at h8)
      refine bI O (fP O (aC (dL sS O ?_)))
      exact ⟨_, _, _, qI _ _, O, pG.f4.f4.f4⟩
     ·(try simp only [Z] at h8)
      refine gy (bI O (dX O func165 (xq pG.f4.f3) ?_))
      rintro _ FK ⟨rfl, ru⟩
      refine fP O (dL sS O ?_)
      exact ⟨_, _, _, (qI _ _).trans (zO _ _), O, ru.f3.f3.f4.f4⟩
theorem XH (H : V w0 w (VC c m e name kv n g lv s.c.pt • je 21 .i32 lv s.c.L • jW m M • dZ e s • F)) : jf prog 169 #[.pointer (some ⟨c, 0, none⟩)] w fun v w' => ∃ x t M', Fr s t ∧ v = .int .i64 x ∧ V w0 w' (VC c m e name kv n g lv s.c.pt • je 21 .i32 lv s.c.L • jW m M' • dZ e t • F) := by
 obtain ⟨hln, hpt⟩ := xH H.f4
 refine jE func169 ntmps169 ?_
 refine kH O (bI O (dV O (bM 1 aB O fA O (eH bY O (H).get.2 O (dX O func23 (CG H.f4) ?_)))))
 rintro _ w1 ⟨u1, ks1, us1, sv1, rfl, H1⟩
 refine aV (pY 3 aG O O (bV aA O) O O) (tX O (bI O (aV (fB O O) (iW O (fun h1 => ?_) (fun h1 => ?_)))))
 ·(try simp only [Z] at h1)
  refine aI (bI O (dV O (bM 5 aB O aT O (eH bJ O (H1.f6).get.2 O (iW O (fun h2 => ?_) (fun h2 => ?_))))))
  ·(try simp only [Z] at h2)
   refine jS O (aC (aC (dL results169 O ?_)))
   exact ⟨_, _, _, Fr.refl s, O, H1.right.right.right.right.f4.f4.f4⟩
  ·(try simp only [Z] at h2)
   refine gy (jS O (aC (dL results169 O ?_)))
   exact ⟨_, _, _, Fr.refl s, O, H1.right.right.right.right.f4.f4.f4⟩
 ·(try simp only [Z] at h1)
  refine gy ?_
  refine kE [(0, _)] (fun (_ : Unit) => []) (fun (_ : Unit) W => ∃ M1, V w0 W (jW m M1 • VC c m e name kv n g lv s.c.pt • je 21 .i32 lv s.c.L • dZ e s • F)) lH ?_ ?_
  ·rintro _ w2 ⟨M1, HJ⟩
   dsimp only [List.cons_append, List.nil_append]
   refine aI ?_
   obtain ⟨Io, GH, F9, oK, rP⟩ := (HJ).vm
   refine aF (mX O O (bM 0 aB O qH O (eH jG O (rP.f5).get.2 O (dV O (bM 7 fZ O aj O (aQ (ig 7 (l' := [_, _, _, _, _, _, _, _]) rP aj O O (by first | rfl | assumption) O O) ?_))))))
   rintro _ w4 H4
   have Ho5 := H4.f4.f4.f4.f4
   have Hc6 := V.zW (M := { M1 with Ze := -1 }) oK Ho5
   refine uS O (dV O (bM 1 aB O fA O (eH bY O (Hc6.f2).get.2 O (dX O func192 (Ei Hc6.f4) ?_))))
   rintro _ w7 ⟨rfl, H7⟩
   refine uS O (dV O (bM 1 aB O fA O (eH bY O (H7.f3).get.2 O (dX O func62 (A8 H7) ?_))))
   rintro _ w8 ⟨rfl, H8⟩
   refine rW ?_
   have ag2 := H8.drew
   have D7 := V.kp (ag2.f4.f4.f4.f4)
   refine nG [3, 7] D7 O (fD 0 O D7 O (iG 1 O D7 O (dJ 2 O D7 1 aB O fA O (fM 3 O D7 (fun W hW => fQ bY O ((Kp.h hW).f3).get.2 O) (fD 4 O D7 O (iG 5 O D7 O (dJ 6 O D7 7 aB O aj O (fM 7 O D7 (fun W hW => fQ aA O ((Kp.h hW).f3).get.2 O) (dS 8 O D7 (fun _ => jJ O O (by omega)) (dS 9 O D7 (fun _ => Ov O O) (ny 10 O (wM O func30 (kD ag2)) ?_)))))))))))
   rintro _ w9 ⟨rfl, H9⟩
   have Rk := V.kp (H9.f4.f4.f4.f4)
   refine gU Rk (by kernel_rfl) ?_
   refine dS 11 O Rk (fun _ => aW O) (lJ (aU (iL (dL results169 O ?_))))
   exact ⟨_, _, _, ((Oo _ _).trans (zO _ _)).trans (qI _ _), O, H9.f2.f4.f4⟩
  ·skip
   refine bI O (aV (fB O O) (iW O (fun h3 => ?_) (fun h3 => ?_)))
   ·(try simp only [Z] at h3)
    refine aI ?_
    obtain ⟨Io, GH, F9, oK, rP⟩ := (H1.f8).vm
    refine aF (mX O O (bM 0 aB O qH O (eH jG O (rP.f10).get.2 O (dV O (bM 3 fZ O rG O (bM 3 jl O bD O (aQ (ig 6 (l' := [_, _, _, _, _, _, _, _]) rP bD O O (by first | rfl | assumption) O O) ?_)))))))
    rintro _ FK ru
    have NQ := ru.f4.right
    have YH := NQ.f3.f3.f3
    have YI := V.adI (M := { M with typed := [] }) ⟨oK.1, by show ([] : List Int).length ≤ 1024; decide, oK.2.2⟩ rfl YH
    obtain ⟨M0, hM0⟩ : ∃ M0 : VM, M0 = { M with typed := [] } := ⟨_, rfl⟩
    have HX := YI
    rw [← hM0] at HX
    refine rW ?_
    obtain ⟨Io, GH, F9, oK, rP⟩ := (HX).vm
    refine aF (mX O O (bM 0 aB O qH O (eH jG O (rP.f10).get.2 O (dV O (bM 7 fZ O aj O (eH aA O (rP).get.2 O (gW O ?_)))))))
    have UK := rP.f4.f4.f4.f4
    have NU := V.zW (M := _) oK UK
    refine uS O (aV (mJ O O) (jY O (fun h4 => ?_) (fun h4 => ?_)))
    ·(try simp only [Z] at h4)
     refine bF (bW O (bF (bW O (bF (dV O (bF (bM 7 aB O aj O (bF (eH aA O (NU.f7).get.2 O (bF (aV (gG O O) (jQ O O (iW O (fun h5 => ?_) (fun h5 => ?_))))))))))))))
     ·(try simp only [Z] at h5)
      obtain ⟨Io, GH, F9, oK, rP⟩ := (NU).vm
      have htl : ((s.c.L.drop M0.Ze.toNat).take (s.c.pt.toNat - M0.Ze.toNat)).length ≤ 1024 := by simp; omega
      have Ip := rP.drew
      have nU := V.kp (Ip.f11.f11.f11.f11.f11.f11.f11.f11.f11.f11.f11)
      refine nG [3, 7, 12] nU O (fD 0 O nU O (iG 1 O nU O (dJ 2 O nU 0 aB O qH O (fM 3 O nU (fun W hW => fQ jG O ((Kp.h hW).f10).get.2 O) (fD 4 O nU O (iG 5 O nU O (dJ 6 O nU 6 aB O bD O (fM 7 O nU (fun W hW => fQ ah O ((Kp.h hW).f10).get.2 O) (fD 8 O nU O (fD 9 O nU O (iG 10 O nU O (dJ 11 O nU 7 aB O aj O (fM 12 O nU (fun W hW => fQ aA O ((Kp.h hW).f10).get.2 O) (dS 13 O nU (fun _ => pF ((Ip.f11).aO) ah bP O O O (by omega)) ?_))))))))))))))
      refine ny 14 O (wM O func71 (qy Ip (fun W HW => gB.cut ((HW.f11).aO) (by omega) (by omega)) (by omega))) ?_
      rintro u20 ZP BL
      have zI := V.kp (BL.f12.f12.f12.f12.f12.f12.f12.f12.f12.f12.f12.f12)
      refine dK zI (fun W hW => (Kp.h hW).right.f11.f11.f11.f11.f11.f11.f11.f11.f11.f11.f11) ?_
      refine iG 15 O zI O (dJ 16 O zI 3 fZ O rG O (dJ 17 O zI 3 jl O bD O ?_))
      refine dF 18 O (by kernel_rfl) (ig 6 (l' := [_, _, _, _, _, _, _, _]) BL.f2 bD O O (by first | rfl | exact Rd.one ((BL).aO)) O O) ?_
      rintro _ w21 wP
      have PU := V.kp (wP.f12.f12.f12.f12.f12.f12.f12.f12.f12.f12.f12.f12)
      refine gU PU (by kernel_rfl) ?_
      have aii := wP.f2
      have abO := aii.oC
      have aiv := abO.f5.right
      have ad7 := aiv.f4.f4.f4
      have ad8 := V.zW (M := { M0 with typed := (s.c.L.drop M0.Ze.toNat).take (s.c.pt.toNat - M0.Ze.toNat) }) ⟨oK.1, by simp; omega, oK.2.2⟩ ad7
      refine lJ ?_
      refine dG (()) ?_ ?_ ?_
      ·exact (Sub.nil _)
      ·exact lH
      ·(try dsimp only)
       first | done | exact ⟨_, ad8.f2.right.f2.right.f2.right.f2.right.f2.f4.f4.f4⟩
     ·(try simp only [Z] at h5)
      refine bU ?_
      refine dG (()) ?_ ?_ ?_
      ·exact (Sub.nil _)
      ·exact lH
      ·(try dsimp only)
       first | done | exact ⟨_, NU.f2.right.f2.right.f2.right.f2.right.f2.f4.f4.f4⟩
    ·(try simp only [Z] at h4)
     refine bK (bK (bK (bK (bK (bK (iH O O (iR (oL (bU ?_)))))))))
     refine dG (()) ?_ ?_ ?_
     ·exact (Sub.nil _)
     ·exact lH
     ·(try dsimp only)
      first | done | exact ⟨_, NU.f2.right.f2.right.f2.right.f2.right.f2.f4.f4.f4⟩
   ·(try simp only [Z] at h3)
    refine bU ?_
    refine dG (()) ?_ ?_ ?_
    ·exact (Sub.nil _)
    ·exact lH
    ·(try dsimp only)
     first | done | exact ⟨_, H1.right.right.right.right.f3.f3.f4⟩
theorem ad9 (H : V w0 w (VC c m e name kv n g lv p • je 21 .i32 lv L • jW m M • F)) (hk : jO w0 F .i32 kv keys) (hT : Bq w0) (hk1 : 1 ≤ keys.length) (hl9 : L.length ≤ 1024) (hp : 0 ≤ p ∧ p ≤ L.length) (hn : 1 ≤ n ∧ n ≤ 1000000) :
  jf prog 184 #[.pointer (some ⟨c, 0, none⟩)] w fun v w' => ∃ (a b : Int) (ok : Bool) (M' : VM), v = .tuple #[.int .i64 a, .int .i64 b, .bool ok] ∧ V w0 w' (VC c m e name kv n g lv p • je 21 .i32 lv L • jW m M' • F) := by
 refine jE func184 ntmps184 ?_
 refine jg (gW O (gW O (fO O (bI O (dV O (bM 3 aB O bD O (eH ah O (H).get.2 O ?_)))))))
 obtain ⟨Xx, Xy, Xz, ekv⟩ := gB.qN (hk _ (H.right.right.right)) (by omega)
 cases ekv
 refine aV (dI ah bP O O (by omega)) ?_
 refine aV (dW (bV bC O) O (by first | exact gB.lN (hk _ (H.right.right.right)) (by omega) | exact gB.uP (hk _ (H.right.right.right)) (by omega) | exact gB.wO (hk _ (H.right.right.right)) (by omega))) ?_
 refine tX O (bI O (dX O func50 (AO (by decide)) ?_))
 rintro _ _ ⟨rfl, rfl⟩
 refine iW O (fun h1 => ?_) (fun h1 => ?_)
 ·(try simp only [Z] at h1)
  refine aI ?_
  have aiw := H.drew
  have Fz := V.kp (aiw.f3.f3.f3)
  refine nG [3, 7] Fz O (fD 0 O Fz O (iG 1 O Fz O (dJ 2 O Fz 7 aB O aj O (fM 3 O Fz (fun W hW => fQ aA O ((Kp.h hW)).get.2 O) (fD 4 O Fz O (iG 5 O Fz O (dJ 6 O Fz 6 aB O bD O (fM 7 O Fz (fun W hW => fQ ah O ((Kp.h hW)).get.2 O) (dS 8 O Fz (fun _ => gZ ((aiw.f2).aO) ah O) (dS 9 O Fz (fun _ => aW O) (dS 10 O Fz (fun _ => aW O) (dS 11 O Fz (fun _ => aW O) (lJ (aU (iL (aC ?_))))))))))))))))
  refine dU (.inl O) dO O O O ?_
  exact ⟨_, _, _, _, O, aiw.f3.f3.f3⟩
 ·(try simp only [Z] at h1)
  refine gy (bI O (dV O (bM 3 aB O bD O (eH ah O (H).get.2 O (aV (pF (hk _ (H.right.right.right)) ah bP O O O (by omega)) ?_)))))
  refine dX O func51 (XG (l := keys.drop 1) (X := VC c m e name (.slice (some ⟨Xx, Xy, none⟩) (keys.length) Xz) n g lv p • je 21 .i32 lv L • jW m M) (H.of_eq (by simp only [dY])) (fun W HW => gB.from (hk W HW) (by omega))) ?_
  rintro _ w2 ⟨k2, rfl, hk2, HX⟩
  have HY := HX.of_eq (show _ = VC c m e name (.slice (some ⟨Xx, Xy, none⟩) (keys.length) Xz) n g lv p • je 21 .i32 lv L • jW m M • F from by simp only [dY])
  refine bW O (oZ O O (oZ O O (gW O (gW O ?_))))
  obtain ⟨r, hr0⟩ : ∃ r, r = mP (keys.drop 1) := ⟨_, rfl⟩
  obtain ⟨q, hq0⟩ : ∃ q, q = abG (keys.drop 1) := ⟨_, rfl⟩
  rw [← hr0] at hk2
  have hrn : rnM n q ≤ 1000000 := aiu hn.2
  try rw [← hq0]
  refine uS O (dV O (bM 4 aB O aj O (eH aA O (HY).get.2 O (fO O ?_))))
  refine kE [(0, _), (5, _), (6, _)] (fun (_ : Unit) => [(8, .int .i64 (rnM n q))]) (fun (_ : Unit) W => V w0 W (VC c m e name (.slice (some ⟨Xx, Xy, none⟩) (keys.length) Xz) n g lv p • je 21 .i32 lv L • jW m M • F)) wW ?_ ?_
  ·rintro _ w3 HJ
   dsimp only [List.cons_append, List.nil_append]
   refine kE [(0, _), (5, _), (6, _), (8, _)] (fun (_ : Unit) => []) (fun (_ : Unit) W => V w0 W (VC c m e name (.slice (some ⟨Xx, Xy, none⟩) (keys.length) Xz) n g lv p • je 21 .i32 lv L • jW m M • F)) FC ?_ ?_
   ·rintro _ w4 HK
    dsimp only [List.cons_append, List.nil_append]
    refine aI (bI O (aV (gZ (hk2 _ (HK.right.right.right)) ah O) (aV (fB O O) (jY O (fun h2 => ?_) (fun h2 => ?_)))))
    ·(try simp only [Z] at h2)
     refine bK (bK (bK (jQ O O (iR (ET (jg (gW O (gW O (fP O (aC ?_))))))))))
     refine dU (.inl O) dO O O O ?_
     exact ⟨_, _, _, _, O, HK.f3.f3.f3⟩
    ·(try simp only [Z] at h2)
     refine bF (bW O (bF (dX O func50 (AO (by decide)) ?_)))
     rintro _ _ ⟨rfl, rfl⟩
     refine bF (aV (jR O) (iH O O (iW O (fun h3 => ?_) (fun h3 => ?_))))
     ·(try simp only [Z] at h3)
      refine jg (gW O (gW O (fP O (aC ?_))))
      refine dU (.inl O) dO O O O ?_
      exact ⟨_, _, _, _, O, HK.f3.f3.f3⟩
     ·(try simp only [Z] at h3)
      refine gy (aI (aI ?_))
      have Lm := HK.drew
      have kN := V.kp (Lm.f3.f3.f3)
      refine nG [3, 8, 15, 19, 27, 31, 33] kN O (fD 0 O kN O (iG 1 O kN O (dJ 2 O kN 2 aB O kM O (fM 3 O kN (fun W hW => fQ iD O ((Kp.h hW)).get.2 O) (dS 4 O kN (fun _ => eP O O) ?_)))))
      refine zn 5 O O (by kernel_rfl) (by kernel_rfl) kN (gV O) (fun h4 => ?_) (fun h4 => ?_)
      ·(try simp only [Z] at h4)
       refine dh 6 O O O (by kernel_rfl) (by kernel_rfl) kN (fun _ => uy O) (gV O) ?_
       obtain ⟨bk2, ok2, ck2, ek2⟩ := gB.qN (hk2 _ (Lm.right.right.right)) (by omega)
       cases ek2
       refine dh 7 O O O (by kernel_rfl) (by kernel_rfl) kN (fun _ => dI ah bP O O (by omega)) (gV O) ?_
       refine jP 8 O O O (by kernel_rfl) (by kernel_rfl) kN (by decide) (fun W hW => dW (bV bC O) O (by first | exact gB.lN (hk2 _ ((Kp.h hW).right.right.right)) (by omega) | exact gB.uP (hk2 _ ((Kp.h hW).right.right.right)) (by omega) | exact gB.wO (hk2 _ ((Kp.h hW).right.right.right)) (by omega))) (gV O) ?_
       refine yN 9 O O O (by kernel_rfl) (uU (wF O func50 O O) (AO (by decide))) (gV O) ?_
       rintro _ _ ⟨rfl, rfl⟩
       have jV := V.kp (Lm.f3.f3.f3)
       refine gU jV (by kernel_rfl) ?_
       refine dS 10 O jV (fun _ => xY O O) ?_
       refine zn 11 O O (by kernel_rfl) (by kernel_rfl) jV (gV O) (fun h5 => ?_) (fun h5 => ?_)
       ·(try simp only [Z] at h5)
        refine dh 12 O O O (by kernel_rfl) (by kernel_rfl) jV (fun _ => uy O) (gV O) ?_
        refine dh 13 O O O (by kernel_rfl) (by kernel_rfl) jV (fun _ => ES O) (gV O) ?_
        refine dh 14 O O O (by kernel_rfl) (by kernel_rfl) jV (fun _ => pq 7 aB O O aj (by decide) O rfl) (gV O) ?_
        refine jP 15 O O O (by kernel_rfl) (by kernel_rfl) jV (by decide) (fun W hW => dW (bV aA O) O (iI ((Kp.h hW)).get.2 O)) (gV O) ?_
        refine dh 16 O O O (by kernel_rfl) (by kernel_rfl) jV (fun _ => uy O) (gV O) ?_
        refine dh 17 O O O (by kernel_rfl) (by kernel_rfl) jV (fun _ => ES O) (gV O) ?_
        refine dh 18 O O O (by kernel_rfl) (by kernel_rfl) jV (fun _ => pq 6 aB O O bD (by decide) O rfl) (gV O) ?_
        refine jP 19 O O O (by kernel_rfl) (by kernel_rfl) jV (by decide) (fun W hW => dW (bV ah O) O (iI ((Kp.h hW)).get.2 O)) (gV O) ?_
        refine dh 20 O O O (by kernel_rfl) (by kernel_rfl) jV (fun _ => gZ ((Lm.f2).aO) ah O) (gV O) ?_
        refine dh 21 O O O (by kernel_rfl) (by kernel_rfl) jV (fun _ => gG O O) (gV O) ?_
        refine dS 22 O jV (fun _ => xY O O) ?_
        refine zn 23 O O (by kernel_rfl) (by kernel_rfl) jV (gV O) (fun h6 => ?_) (fun h6 => ?_)
        ·(try simp only [Z] at h6)
         refine dh 24 O O O (by kernel_rfl) (by kernel_rfl) jV (fun _ => uy O) (gV O) ?_
         refine dh 25 O O O (by kernel_rfl) (by kernel_rfl) jV (fun _ => ES O) (gV O) ?_
         refine dh 26 O O O (by kernel_rfl) (by kernel_rfl) jV (fun _ => pq 6 aB O O bD (by decide) O rfl) (gV O) ?_
         refine jP 27 O O O (by kernel_rfl) (by kernel_rfl) jV (by decide) (fun W hW => dW (bV ah O) O (iI ((Kp.h hW)).get.2 O)) (gV O) ?_
         refine dh 28 O O O (by kernel_rfl) (by kernel_rfl) jV (fun _ => uy O) (gV O) ?_
         refine dh 29 O O O (by kernel_rfl) (by kernel_rfl) jV (fun _ => ES O) (gV O) ?_
         refine dh 30 O O O (by kernel_rfl) (by kernel_rfl) jV (fun _ => pq 7 aB O O aj (by decide) O rfl) (gV O) ?_
         refine jP 31 O O O (by kernel_rfl) (by kernel_rfl) jV (by decide) (fun W hW => dW (bV aA O) O (iI ((Kp.h hW)).get.2 O)) (gV O) ?_
         obtain ⟨blv, olv, clv, elv⟩ := gB.qN ((Lm.f2).aO) (by omega)
         cases elv
         refine dh 32 O O O (by kernel_rfl) (by kernel_rfl) jV (fun _ => dI ah bP O O (by omega)) (gV O) ?_
         refine jP 33 O O O (by kernel_rfl) (by kernel_rfl) jV (by decide) (fun W hW => dW (bV bC O) O (by first | exact gB.lN (((Kp.h hW).f2).aO) (by omega) | exact gB.uP (((Kp.h hW).f2).aO) (by omega) | exact gB.wO (((Kp.h hW).f2).aO) (by omega))) (gV O) ?_
         refine yN 34 O O O (by kernel_rfl) (uU (wF O func14 O O) (tu Lm hT)) (gV O) ?_
         rintro _ w7 ⟨rfl, H7⟩
         have Ae := V.kp (H7.f3.f3.f3)
         refine gU Ae (by kernel_rfl) ?_
         refine dh 35 O O O (by kernel_rfl) (by kernel_rfl) Ae (fun _ => fF O O) (gV O) ?_
         refine dS 36 O Ae (fun _ => xY O O) (lJ (aU (bg O (fun h7 => ?_) (fun h7 => ?_))))
         ·(try simp only [Z] at h7)
          refine bI O (aV (dI ah bP O O (by omega)) ?_)
          refine aV (dW (bV bC O) O (by first | exact gB.lN (hk2 _ (H7.right.right.right)) (by omega) | exact gB.uP (hk2 _ (H7.right.right.right)) (by omega) | exact gB.wO (hk2 _ (H7.right.right.right)) (by omega))) ?_
          refine aV (fB O O) (tX O ?_)
          have Qu := H7.drew
          have iE := V.kp (Qu.f3.f3.f3)
          refine nG [3, 8, 15, 19, 22, 28, 32, 34] iE O (fD 0 O iE O (iG 1 O iE O (dJ 2 O iE 7 aB O aj O (fM 3 O iE (fun W hW => fQ aA O ((Kp.h hW)).get.2 O) (dS 4 O iE (fun _ => fH O O (by omega)) (fD 5 O iE O (iG 6 O iE O (dJ 7 O iE 6 aB O bD O (fM 8 O iE (fun W hW => fQ ah O ((Kp.h hW)).get.2 O) (dS 9 O iE (fun _ => jd ah O) (dS 10 O iE (fun _ => fB O O) ?_)))))))))))
          refine zn 11 O O (by kernel_rfl) (by kernel_rfl) iE (gV O) (fun h8 => ?_) (fun h8 => ?_)
          ·(try simp only [Z] at h8)
           refine eG 12 O O O O (by kernel_rfl) (by kernel_rfl) iE (gV O) ?_
           refine eG 13 O O O O (by kernel_rfl) (by kernel_rfl) iE (gV O) ?_
           refine eG 14 O O O O (by kernel_rfl) (by kernel_rfl) iE (gV O) ?_
           refine eG 15 O O O O (by kernel_rfl) (by kernel_rfl) iE (gV O) ?_
           refine eG 16 O O O O (by kernel_rfl) (by kernel_rfl) iE (gV O) ?_
           refine eG 17 O O O O (by kernel_rfl) (by kernel_rfl) iE (gV O) ?_
           refine eG 18 O O O O (by kernel_rfl) (by kernel_rfl) iE (gV O) ?_
           refine eG 19 O O O O (by kernel_rfl) (by kernel_rfl) iE (gV O) ?_
           refine eG 20 O O O O (by kernel_rfl) (by kernel_rfl) iE (gV O) ?_
           refine eG 21 O O O O (by kernel_rfl) (by kernel_rfl) iE (gV O) ?_
           refine eG 22 O O O O (by kernel_rfl) (by kernel_rfl) iE (gV O) ?_
           refine eG 23 O O O O (by kernel_rfl) (by kernel_rfl) iE (gV O) ?_
           refine eG 24 O O O O (by kernel_rfl) (by kernel_rfl) iE (gV O) ?_
           refine eG 25 O O O O (by kernel_rfl) (by kernel_rfl) iE (gV O) ?_
           refine eG 26 O O O O (by kernel_rfl) (by kernel_rfl) iE (gV O) ?_
           refine eG 27 O O O O (by kernel_rfl) (by kernel_rfl) iE (gV O) ?_
           refine eG 28 O O O O (by kernel_rfl) (by kernel_rfl) iE (gV O) ?_
           refine eG 29 O O O O (by kernel_rfl) (by kernel_rfl) iE (gV O) ?_
           refine eG 30 O O O O (by kernel_rfl) (by kernel_rfl) iE (gV O) ?_
           refine eG 31 O O O O (by kernel_rfl) (by kernel_rfl) iE (gV O) ?_
           refine eG 32 O O O O (by kernel_rfl) (by kernel_rfl) iE (gV O) ?_
           refine eG 33 O O O O (by kernel_rfl) (by kernel_rfl) iE (gV O) ?_
           refine eG 34 O O O O (by kernel_rfl) (by kernel_rfl) iE (gV O) ?_
           refine eG 35 O O O O (by kernel_rfl) (by kernel_rfl) iE (gV O) ?_
           refine eG 36 O O O O (by kernel_rfl) (by kernel_rfl) iE (gV O) ?_
           refine eG 37 O O O O (by kernel_rfl) (by kernel_rfl) iE (gV O) ?_
           refine dS 38 O iE (fun _ => xY O O) (dS 39 O iE (fun _ => aW O) (lJ (aU (aI (bI O (aV (fB O O) (jY O (fun h9 => ?_) (fun h9 => ?_))))))))
           ·(try simp only [Z] at h9)
            refine bF (bW O (jQ O O (iR (ET (aI ?_)))))
            have ag3 := Qu.drew
            have Ap := V.kp (ag3.f3.f3.f3)
            refine nG [3, 7] Ap O (fD 0 O Ap O (iG 1 O Ap O (dJ 2 O Ap 7 aB O aj O (fM 3 O Ap (fun W hW => fQ aA O ((Kp.h hW)).get.2 O) (fD 4 O Ap O (iG 5 O Ap O (dJ 6 O Ap 7 aB O aj O (fM 7 O Ap (fun W hW => fQ aA O ((Kp.h hW)).get.2 O) (dS 8 O Ap (fun _ => fH O O (by omega)) (dS 9 O Ap (fun _ => aW O) (dS 10 O Ap (fun _ => aW O) (dS 11 O Ap (fun _ => aW O) (lJ (aU (iL (aC (aC ?_)))))))))))))))))
            refine dU (.inl O) dO O O O ?_
            exact ⟨_, _, _, _, O, ag3.f3.f3.f3⟩
           ·(try simp only [Z] at h9)
            refine bK (iH O O (iR (oL (gy (bI O (aV (dI ah bP O O (by omega)) ?_))))))
            refine aV (dW (bV bC O) O (by first | exact gB.lN (hk2 _ (Qu.right.right.right)) (by omega) | exact gB.uP (hk2 _ (Qu.right.right.right)) (by omega) | exact gB.wO (hk2 _ (Qu.right.right.right)) (by omega))) ?_
            refine aV (Bo O O) (aV (rV O O) (kV (nN (k := .i32) (l := [_]) Qu ah bP lW O O O (by decide)) ?_))
            rintro l8 w8 H8
            refine fO O (bI O (iW O (fun h10 => ?_) (fun h10 => ?_)))
            ·(try simp only [Z] at h10)
             refine aF (kV (nN (k := .i32) (l := [69]) H8 ah bP lW O O O (by decide)) ?_)
             rintro l9 w9 H9
             refine fO O (bI O (jU O O (dX O func162 (wu H9.f5.f5.f5 (fun W HW => (HW).aO) hT (by omega) (by omega)) ?_)))
             rintro _ w10 ⟨rfl, pG⟩
             refine bW O (oZ O O (oZ O O (oZ O O (gW O (gW O (tX O (bf (bI O (aV (jR O) (fO O (bg O (fun h11 => ?_) (fun h11 => ?_))))))))))))
             ·(try simp only [Z] at h11)
              refine jg (gW O (gW O (fP O (aN (aC ?_)))))
              refine dU (.inl O) dO O O O ?_
              exact ⟨_, _, _, _, O, pG.f4.right.f4.right.f3.f3.f3⟩
             ·(try simp only [Z] at h11)
              refine bI O (mX O O (bM 7 aB O aj O (eH aA O (pG).get.2 O (aV (gG O O) (fO O (bg O (fun h12 => ?_) (fun h12 => ?_)))))))
              ·(try simp only [Z] at h12)
               refine aI ?_
               have aea := pG.drew
               have CS := V.kp (aea.f5.f5.f5.f5.f5)
               refine nG [4] CS O (fD 0 O CS O (fD 1 O CS O (iG 2 O CS O (dJ 3 O CS 7 aB O aj O (fM 4 O CS (fun W hW => fQ aA O ((Kp.h hW)).get.2 O) (dS 5 O CS (fun _ => aW O) (dS 6 O CS (fun _ => aW O) (dS 7 O CS (fun _ => aW O) (lJ (aU (iL (aN (aC ?_)))))))))))))
               refine dU (.inl O) dO O O O ?_
               exact ⟨_, _, _, _, O, aea.f4.right.f4.right.f3.f3.f3⟩
              ·(try simp only [Z] at h12)
               refine bI O (fO O (bg O (fun h13 => ?_) (fun h13 => ?_)))
               ·(try simp only [Z] at h13)
                refine aF (bW O (aV (rV O O) (gW O (bT (aH (aU (aI ?_)))))))
                have Qv := pG.drew
                have kX := V.kp (Qv.f5.f5.f5.f5.f5)
                refine nG [3, 8] kX O (fD 0 O kX O (iG 1 O kX O (dJ 2 O kX 7 aB O aj O (fM 3 O kX (fun W hW => fQ aA O ((Kp.h hW)).get.2 O) (fD 4 O kX O (fD 5 O kX O (iG 6 O kX O (dJ 7 O kX 6 aB O bD O (fM 8 O kX (fun W hW => fQ ah O ((Kp.h hW)).get.2 O) (dS 9 O kX (fun _ => jd ah O) (dS 10 O kX (fun _ => mW O O) (dS 11 O kX (fun _ => aW O) (dS 12 O kX (fun _ => aW O) (dS 13 O kX (fun _ => aW O) (lJ (aU (iL ?_)))))))))))))))))
                refine dU (.inl O) dO O O O ?_
                exact ⟨_, _, _, _, O, Qv.f4.right.f4.right.f3.f3.f3⟩
               ·(try simp only [Z] at h13)
                refine bU (aH (aU (aI ?_)))
                have Qv := pG.drew
                have kX := V.kp (Qv.f5.f5.f5.f5.f5)
                refine nG [3, 8] kX O (fD 0 O kX O (iG 1 O kX O (dJ 2 O kX 7 aB O aj O (fM 3 O kX (fun W hW => fQ aA O ((Kp.h hW)).get.2 O) (fD 4 O kX O (fD 5 O kX O (iG 6 O kX O (dJ 7 O kX 6 aB O bD O (fM 8 O kX (fun W hW => fQ ah O ((Kp.h hW)).get.2 O) (dS 9 O kX (fun _ => jd ah O) (dS 10 O kX (fun _ => mW O O) (dS 11 O kX (fun _ => aW O) (dS 12 O kX (fun _ => aW O) (dS 13 O kX (fun _ => aW O) (lJ (aU (iL ?_)))))))))))))))))
                refine dU (.inl O) dO O O O ?_
                exact ⟨_, _, _, _, O, Qv.f4.right.f4.right.f3.f3.f3⟩
            ·(try simp only [Z] at h10)
             refine gy (bI O (jU O O (dX O func162 (wu H8.f4.f4.f4 (fun W HW => (HW).aO) hT (by omega) (by omega)) ?_)))
             rintro _ FK ⟨rfl, ru⟩
             refine bW O (oZ O O (oZ O O (oZ O O (gW O (gW O (tX O (bf (bI O (aV (jR O) (fO O (bg O (fun h14 => ?_) (fun h14 => ?_))))))))))))
             ·(try simp only [Z] at h14)
              refine jg (gW O (gW O (fP O (aN (aC ?_)))))
              refine dU (.inl O) dO O O O ?_
              exact ⟨_, _, _, _, O, ru.f4.right.f3.f3.f3⟩
             ·(try simp only [Z] at h14)
              refine bI O (mX O O (bM 7 aB O aj O (eH aA O (ru).get.2 O (aV (gG O O) (fO O (bg O (fun h15 => ?_) (fun h15 => ?_)))))))
              ·(try simp only [Z] at h15)
               refine aI ?_
               have aeb := ru.drew
               have CU := V.kp (aeb.f4.f4.f4.f4)
               refine nG [4] CU O (fD 0 O CU O (fD 1 O CU O (iG 2 O CU O (dJ 3 O CU 7 aB O aj O (fM 4 O CU (fun W hW => fQ aA O ((Kp.h hW)).get.2 O) (dS 5 O CU (fun _ => aW O) (dS 6 O CU (fun _ => aW O) (dS 7 O CU (fun _ => aW O) (lJ (aU (iL (aN (aC ?_)))))))))))))
               refine dU (.inl O) dO O O O ?_
               exact ⟨_, _, _, _, O, aeb.f4.right.f3.f3.f3⟩
              ·(try simp only [Z] at h15)
               refine bI O (fO O (bg O (fun h16 => ?_) (fun h16 => ?_)))
               ·(try simp only [Z] at h16)
                refine aF (bW O (aV (rV O O) (gW O (bT (aH (aU (aI ?_)))))))
                have Qw := ru.drew
                have kY := V.kp (Qw.f4.f4.f4.f4)
                refine nG [3, 8] kY O (fD 0 O kY O (iG 1 O kY O (dJ 2 O kY 7 aB O aj O (fM 3 O kY (fun W hW => fQ aA O ((Kp.h hW)).get.2 O) (fD 4 O kY O (fD 5 O kY O (iG 6 O kY O (dJ 7 O kY 6 aB O bD O (fM 8 O kY (fun W hW => fQ ah O ((Kp.h hW)).get.2 O) (dS 9 O kY (fun _ => jd ah O) (dS 10 O kY (fun _ => mW O O) (dS 11 O kY (fun _ => aW O) (dS 12 O kY (fun _ => aW O) (dS 13 O kY (fun _ => aW O) (lJ (aU (iL ?_)))))))))))))))))
                refine dU (.inl O) dO O O O ?_
                exact ⟨_, _, _, _, O, Qw.f4.right.f3.f3.f3⟩
               ·(try simp only [Z] at h16)
                refine bU (aH (aU (aI ?_)))
                have Qw := ru.drew
                have kY := V.kp (Qw.f4.f4.f4.f4)
                refine nG [3, 8] kY O (fD 0 O kY O (iG 1 O kY O (dJ 2 O kY 7 aB O aj O (fM 3 O kY (fun W hW => fQ aA O ((Kp.h hW)).get.2 O) (fD 4 O kY O (fD 5 O kY O (iG 6 O kY O (dJ 7 O kY 6 aB O bD O (fM 8 O kY (fun W hW => fQ ah O ((Kp.h hW)).get.2 O) (dS 9 O kY (fun _ => jd ah O) (dS 10 O kY (fun _ => mW O O) (dS 11 O kY (fun _ => aW O) (dS 12 O kY (fun _ => aW O) (dS 13 O kY (fun _ => aW O) (lJ (aU (iL ?_)))))))))))))))))
                refine dU (.inl O) dO O O O ?_
                exact ⟨_, _, _, _, O, Qw.f4.right.f3.f3.f3⟩
          ·(try simp only [Z] at h8)
           refine dh 12 O O O (by kernel_rfl) (by kernel_rfl) iE (fun _ => uy O) (gV O) ?_
           refine dh 13 O O O (by kernel_rfl) (by kernel_rfl) iE (fun _ => ES O) (gV O) ?_
           refine dh 14 O O O (by kernel_rfl) (by kernel_rfl) iE (fun _ => pq 6 aB O O bD (by decide) O rfl) (gV O) ?_
           refine jP 15 O O O (by kernel_rfl) (by kernel_rfl) iE (by decide) (fun W hW => dW (bV ah O) O (iI ((Kp.h hW)).get.2 O)) (gV O) ?_
           refine dh 16 O O O (by kernel_rfl) (by kernel_rfl) iE (fun _ => uy O) (gV O) ?_
           refine dh 17 O O O (by kernel_rfl) (by kernel_rfl) iE (fun _ => ES O) (gV O) ?_
           refine dh 18 O O O (by kernel_rfl) (by kernel_rfl) iE (fun _ => pq 7 aB O O aj (by decide) O rfl) (gV O) ?_
           refine jP 19 O O O (by kernel_rfl) (by kernel_rfl) iE (by decide) (fun W hW => dW (bV aA O) O (iI ((Kp.h hW)).get.2 O)) (gV O) ?_
           refine dh 20 O O O (by kernel_rfl) (by kernel_rfl) iE (fun _ => fH O O (by omega)) (gV O) ?_
           refine dh 21 O O O (by kernel_rfl) (by kernel_rfl) iE (fun _ => dI ah bP O O (by omega)) (gV O) ?_
           refine jP 22 O O O (by kernel_rfl) (by kernel_rfl) iE (by decide) (fun W hW => dW (bV bC O) O (by first | exact gB.lN (((Kp.h hW).f2).aO) (by omega) | exact gB.uP (((Kp.h hW).f2).aO) (by omega) | exact gB.wO (((Kp.h hW).f2).aO) (by omega))) (gV O) ?_
           refine dh 23 O O O (by kernel_rfl) (by kernel_rfl) iE (fun _ => uy O) (gV O) ?_
           refine dh 25 O O O (by kernel_rfl) (by kernel_rfl) iE (fun _ => uy O) (gV O) ?_
           refine dh 26 O O O (by kernel_rfl) (by kernel_rfl) iE (fun _ => ES O) (gV O) ?_
           refine dh 27 O O O (by kernel_rfl) (by kernel_rfl) iE (fun _ => pq 6 aB O O bD (by decide) O rfl) (gV O) ?_
           refine jP 28 O O O (by kernel_rfl) (by kernel_rfl) iE (by decide) (fun W hW => dW (bV ah O) O (iI ((Kp.h hW)).get.2 O)) (gV O) ?_
           refine dh 29 O O O (by kernel_rfl) (by kernel_rfl) iE (fun _ => uy O) (gV O) ?_
           refine dh 30 O O O (by kernel_rfl) (by kernel_rfl) iE (fun _ => ES O) (gV O) ?_
           refine dh 31 O O O (by kernel_rfl) (by kernel_rfl) iE (fun _ => pq 7 aB O O aj (by decide) O rfl) (gV O) ?_
           refine jP 32 O O O (by kernel_rfl) (by kernel_rfl) iE (by decide) (fun W hW => dW (bV aA O) O (iI ((Kp.h hW)).get.2 O)) (gV O) ?_
           refine dh 33 O O O (by kernel_rfl) (by kernel_rfl) iE (fun _ => dI ah bP O O (by omega)) (gV O) ?_
           refine jP 34 O O O (by kernel_rfl) (by kernel_rfl) iE (by decide) (fun W hW => dW (bV bC O) O (by first | exact gB.lN (((Kp.h hW).f2).aO) (by omega) | exact gB.uP (((Kp.h hW).f2).aO) (by omega) | exact gB.wO (((Kp.h hW).f2).aO) (by omega))) (gV O) ?_
           refine dh 35 O O O (by kernel_rfl) (by kernel_rfl) iE (fun _ => uy O) (gV O) ?_
           refine yN 24 O O O (by kernel_rfl) (uU (wF O func142 O O) (nZ Qu hT)) (gV O) ?_
           rintro _ w12 ⟨rfl, wQ⟩
           have Gn := V.kp (wQ.f3.f3.f3)
           refine dK Gn (fun W hW => (Kp.h hW).f3.f3.f3) ?_
           refine yN 36 O O O (by kernel_rfl) (uU (wF O func142 O O) (nZ wQ hT)) (gV O) ?_
           rintro _ OL ⟨rfl, wB⟩
           have yh := V.kp (wB.f3.f3.f3)
           refine gU yh (by kernel_rfl) ?_
           refine dh 37 O O O (by kernel_rfl) (by kernel_rfl) yh (fun _ => fF O O) (gV O) ?_
           refine dS 38 O yh (fun _ => uz O O) (dS 39 O yh (fun _ => aW O) (lJ (aU (aI (bI O (aV (fB O O) (jY O (fun h17 => ?_) (fun h17 => ?_))))))))
           ·(try simp only [Z] at h17)
            refine bF (bW O (jQ O O (iW O (fun h18 => ?_) (fun h18 => ?_))))
            ·(try simp only [Z] at h18)
             refine aI ?_
             have aec := wB.drew
             have xI := V.kp (aec.f3.f3.f3)
             refine nG [3, 7] xI O (fD 0 O xI O (iG 1 O xI O (dJ 2 O xI 7 aB O aj O (fM 3 O xI (fun W hW => fQ aA O ((Kp.h hW)).get.2 O) (fD 4 O xI O (iG 5 O xI O (dJ 6 O xI 7 aB O aj O (fM 7 O xI (fun W hW => fQ aA O ((Kp.h hW)).get.2 O) (dS 8 O xI (fun _ => fH O O (by omega)) (dS 9 O xI (fun _ => aW O) (dS 10 O xI (fun _ => aW O) (dS 11 O xI (fun _ => aW O) (lJ (aU (iL (aC (aC ?_)))))))))))))))))
             refine dU (.inl O) dO O O O ?_
             exact ⟨_, _, _, _, O, aec.f3.f3.f3⟩
            ·(try simp only [Z] at h18)
             refine gy (bI O (aV (dI ah bP O O (by omega)) ?_))
             refine aV (dW (bV bC O) O (by first | exact gB.lN (hk2 _ (wB.right.right.right)) (by omega) | exact gB.uP (hk2 _ (wB.right.right.right)) (by omega) | exact gB.wO (hk2 _ (wB.right.right.right)) (by omega))) ?_
             refine aV (Bo O O) (aV (rV O O) (kV (nN (k := .i32) (l := [_]) wB ah bP lW O O O (by decide)) ?_))
             rintro l14 OG rU
             refine fO O (bI O (iW O (fun h19 => ?_) (fun h19 => ?_)))
             ·(try simp only [Z] at h19)
              refine aF (kV (nN (k := .i32) (l := [69]) rU ah bP lW O O O (by decide)) ?_)
              rintro l15 OM zV
              refine fO O (bI O (jU O O (dX O func162 (wu zV.f5.f5.f5 (fun W HW => (HW).aO) hT (by omega) (by omega)) ?_)))
              rintro _ w16 ⟨rfl, uT⟩
              refine bW O (oZ O O (oZ O O (oZ O O (gW O (gW O (tX O (bf (bI O (aV (jR O) (fO O (bg O (fun h20 => ?_) (fun h20 => ?_))))))))))))
              ·(try simp only [Z] at h20)
               refine jg (gW O (gW O (fP O (aN (aC ?_)))))
               refine dU (.inl O) dO O O O ?_
               exact ⟨_, _, _, _, O, uT.f4.right.f4.right.f3.f3.f3⟩
              ·(try simp only [Z] at h20)
               refine bI O (mX O O (bM 7 aB O aj O (eH aA O (uT).get.2 O (aV (gG O O) (fO O (bg O (fun h21 => ?_) (fun h21 => ?_)))))))
               ·(try simp only [Z] at h21)
                refine aI ?_
                have aed := uT.drew
                have CV := V.kp (aed.f5.f5.f5.f5.f5)
                refine nG [4] CV O (fD 0 O CV O (fD 1 O CV O (iG 2 O CV O (dJ 3 O CV 7 aB O aj O (fM 4 O CV (fun W hW => fQ aA O ((Kp.h hW)).get.2 O) (dS 5 O CV (fun _ => aW O) (dS 6 O CV (fun _ => aW O) (dS 7 O CV (fun _ => aW O) (lJ (aU (iL (aN (aC ?_)))))))))))))
                refine dU (.inl O) dO O O O ?_
                exact ⟨_, _, _, _, O, aed.f4.right.f4.right.f3.f3.f3⟩
               ·(try simp only [Z] at h21)
                refine bI O (fO O (bg O (fun h22 => ?_) (fun h22 => ?_)))
                ·(try simp only [Z] at h22)
                 refine aF (bW O (aV (rV O O) (gW O (bT (aH (aU (aI ?_)))))))
                 have Qx := uT.drew
                 have kZ := V.kp (Qx.f5.f5.f5.f5.f5)
                 refine nG [3, 8] kZ O (fD 0 O kZ O (iG 1 O kZ O (dJ 2 O kZ 7 aB O aj O (fM 3 O kZ (fun W hW => fQ aA O ((Kp.h hW)).get.2 O) (fD 4 O kZ O (fD 5 O kZ O (iG 6 O kZ O (dJ 7 O kZ 6 aB O bD O (fM 8 O kZ (fun W hW => fQ ah O ((Kp.h hW)).get.2 O) (dS 9 O kZ (fun _ => jd ah O) (dS 10 O kZ (fun _ => mW O O) (dS 11 O kZ (fun _ => aW O) (dS 12 O kZ (fun _ => aW O) (dS 13 O kZ (fun _ => aW O) (lJ (aU (iL ?_)))))))))))))))))
                 refine dU (.inl O) dO O O O ?_
                 exact ⟨_, _, _, _, O, Qx.f4.right.f4.right.f3.f3.f3⟩
                ·(try simp only [Z] at h22)
                 refine bU (aH (aU (aI ?_)))
                 have Qx := uT.drew
                 have kZ := V.kp (Qx.f5.f5.f5.f5.f5)
                 refine nG [3, 8] kZ O (fD 0 O kZ O (iG 1 O kZ O (dJ 2 O kZ 7 aB O aj O (fM 3 O kZ (fun W hW => fQ aA O ((Kp.h hW)).get.2 O) (fD 4 O kZ O (fD 5 O kZ O (iG 6 O kZ O (dJ 7 O kZ 6 aB O bD O (fM 8 O kZ (fun W hW => fQ ah O ((Kp.h hW)).get.2 O) (dS 9 O kZ (fun _ => jd ah O) (dS 10 O kZ (fun _ => mW O O) (dS 11 O kZ (fun _ => aW O) (dS 12 O kZ (fun _ => aW O) (dS 13 O kZ (fun _ => aW O) (lJ (aU (iL ?_)))))))))))))))))
                 refine dU (.inl O) dO O O O ?_
                 exact ⟨_, _, _, _, O, Qx.f4.right.f4.right.f3.f3.f3⟩
             ·(try simp only [Z] at h19)
              refine gy (bI O (jU O O (dX O func162 (wu rU.f4.f4.f4 (fun W HW => (HW).aO) hT (by omega) (by omega)) ?_)))
              rintro _ Yp ⟨rfl, BX⟩
              refine bW O (oZ O O (oZ O O (oZ O O (gW O (gW O (tX O (bf (bI O (aV (jR O) (fO O (bg O (fun h23 => ?_) (fun h23 => ?_))))))))))))
              ·(try simp only [Z] at h23)
               refine jg (gW O (gW O (fP O (aN (aC ?_)))))
               refine dU (.inl O) dO O O O ?_
               exact ⟨_, _, _, _, O, BX.f4.right.f3.f3.f3⟩
              ·(try simp only [Z] at h23)
               refine bI O (mX O O (bM 7 aB O aj O (eH aA O (BX).get.2 O (aV (gG O O) (fO O (bg O (fun h24 => ?_) (fun h24 => ?_)))))))
               ·(try simp only [Z] at h24)
                refine aI ?_
                have aee := BX.drew
                have CW := V.kp (aee.f4.f4.f4.f4)
                refine nG [4] CW O (fD 0 O CW O (fD 1 O CW O (iG 2 O CW O (dJ 3 O CW 7 aB O aj O (fM 4 O CW (fun W hW => fQ aA O ((Kp.h hW)).get.2 O) (dS 5 O CW (fun _ => aW O) (dS 6 O CW (fun _ => aW O) (dS 7 O CW (fun _ => aW O) (lJ (aU (iL (aN (aC ?_)))))))))))))
                refine dU (.inl O) dO O O O ?_
                exact ⟨_, _, _, _, O, aee.f4.right.f3.f3.f3⟩
               ·(try simp only [Z] at h24)
                refine bI O (fO O (bg O (fun h25 => ?_) (fun h25 => ?_)))
                ·(try simp only [Z] at h25)
                 refine aF (bW O (aV (rV O O) (gW O (bT (aH (aU (aI ?_)))))))
                 have Qy := BX.drew
                 have lg := V.kp (Qy.f4.f4.f4.f4)
                 refine nG [3, 8] lg O (fD 0 O lg O (iG 1 O lg O (dJ 2 O lg 7 aB O aj O (fM 3 O lg (fun W hW => fQ aA O ((Kp.h hW)).get.2 O) (fD 4 O lg O (fD 5 O lg O (iG 6 O lg O (dJ 7 O lg 6 aB O bD O (fM 8 O lg (fun W hW => fQ ah O ((Kp.h hW)).get.2 O) (dS 9 O lg (fun _ => jd ah O) (dS 10 O lg (fun _ => mW O O) (dS 11 O lg (fun _ => aW O) (dS 12 O lg (fun _ => aW O) (dS 13 O lg (fun _ => aW O) (lJ (aU (iL ?_)))))))))))))))))
                 refine dU (.inl O) dO O O O ?_
                 exact ⟨_, _, _, _, O, Qy.f4.right.f3.f3.f3⟩
                ·(try simp only [Z] at h25)
                 refine bU (aH (aU (aI ?_)))
                 have Qy := BX.drew
                 have lg := V.kp (Qy.f4.f4.f4.f4)
                 refine nG [3, 8] lg O (fD 0 O lg O (iG 1 O lg O (dJ 2 O lg 7 aB O aj O (fM 3 O lg (fun W hW => fQ aA O ((Kp.h hW)).get.2 O) (fD 4 O lg O (fD 5 O lg O (iG 6 O lg O (dJ 7 O lg 6 aB O bD O (fM 8 O lg (fun W hW => fQ ah O ((Kp.h hW)).get.2 O) (dS 9 O lg (fun _ => jd ah O) (dS 10 O lg (fun _ => mW O O) (dS 11 O lg (fun _ => aW O) (dS 12 O lg (fun _ => aW O) (dS 13 O lg (fun _ => aW O) (lJ (aU (iL ?_)))))))))))))))))
                 refine dU (.inl O) dO O O O ?_
                 exact ⟨_, _, _, _, O, Qy.f4.right.f3.f3.f3⟩
           ·(try simp only [Z] at h17)
            refine bK (iH O O (iR (oL (gy (bI O (aV (dI ah bP O O (by omega)) ?_))))))
            refine aV (dW (bV bC O) O (by first | exact gB.lN (hk2 _ (wB.right.right.right)) (by omega) | exact gB.uP (hk2 _ (wB.right.right.right)) (by omega) | exact gB.wO (hk2 _ (wB.right.right.right)) (by omega))) ?_
            refine aV (Bo O O) (aV (rV O O) (kV (nN (k := .i32) (l := [_]) wB ah bP lW O O O (by decide)) ?_))
            rintro l18 ZO EW
            refine fO O (bI O (iW O (fun h26 => ?_) (fun h26 => ?_)))
            ·(try simp only [Z] at h26)
             refine aF (kV (nN (k := .i32) (l := [69]) EW ah bP lW O O O (by decide)) ?_)
             rintro l19 w19 EP
             refine fO O (bI O (jU O O (dX O func162 (wu EP.f5.f5.f5 (fun W HW => (HW).aO) hT (by omega) (by omega)) ?_)))
             rintro _ ZP ⟨rfl, BL⟩
             refine bW O (oZ O O (oZ O O (oZ O O (gW O (gW O (tX O (bf (bI O (aV (jR O) (fO O (bg O (fun h27 => ?_) (fun h27 => ?_))))))))))))
             ·(try simp only [Z] at h27)
              refine jg (gW O (gW O (fP O (aN (aC ?_)))))
              refine dU (.inl O) dO O O O ?_
              exact ⟨_, _, _, _, O, BL.f4.right.f4.right.f3.f3.f3⟩
             ·(try simp only [Z] at h27)
              refine bI O (mX O O (bM 7 aB O aj O (eH aA O (BL).get.2 O (aV (gG O O) (fO O (bg O (fun h28 => ?_) (fun h28 => ?_)))))))
              ·(try simp only [Z] at h28)
               refine aI ?_
               have aef := BL.drew
               have CX := V.kp (aef.f5.f5.f5.f5.f5)
               refine nG [4] CX O (fD 0 O CX O (fD 1 O CX O (iG 2 O CX O (dJ 3 O CX 7 aB O aj O (fM 4 O CX (fun W hW => fQ aA O ((Kp.h hW)).get.2 O) (dS 5 O CX (fun _ => aW O) (dS 6 O CX (fun _ => aW O) (dS 7 O CX (fun _ => aW O) (lJ (aU (iL (aN (aC ?_)))))))))))))
               refine dU (.inl O) dO O O O ?_
               exact ⟨_, _, _, _, O, aef.f4.right.f4.right.f3.f3.f3⟩
              ·(try simp only [Z] at h28)
               refine bI O (fO O (bg O (fun h29 => ?_) (fun h29 => ?_)))
               ·(try simp only [Z] at h29)
                refine aF (bW O (aV (rV O O) (gW O (bT (aH (aU (aI ?_)))))))
                have Qz := BL.drew
                have lq := V.kp (Qz.f5.f5.f5.f5.f5)
                refine nG [3, 8] lq O (fD 0 O lq O (iG 1 O lq O (dJ 2 O lq 7 aB O aj O (fM 3 O lq (fun W hW => fQ aA O ((Kp.h hW)).get.2 O) (fD 4 O lq O (fD 5 O lq O (iG 6 O lq O (dJ 7 O lq 6 aB O bD O (fM 8 O lq (fun W hW => fQ ah O ((Kp.h hW)).get.2 O) (dS 9 O lq (fun _ => jd ah O) (dS 10 O lq (fun _ => mW O O) (dS 11 O lq (fun _ => aW O) (dS 12 O lq (fun _ => aW O) (dS 13 O lq (fun _ => aW O) (lJ (aU (iL ?_)))))))))))))))))
                refine dU (.inl O) dO O O O ?_
                exact ⟨_, _, _, _, O, Qz.f4.right.f4.right.f3.f3.f3⟩
               ·(try simp only [Z] at h29)
                refine bU (aH (aU (aI ?_)))
                have Qz := BL.drew
                have lq := V.kp (Qz.f5.f5.f5.f5.f5)
                refine nG [3, 8] lq O (fD 0 O lq O (iG 1 O lq O (dJ 2 O lq 7 aB O aj O (fM 3 O lq (fun W hW => fQ aA O ((Kp.h hW)).get.2 O) (fD 4 O lq O (fD 5 O lq O (iG 6 O lq O (dJ 7 O lq 6 aB O bD O (fM 8 O lq (fun W hW => fQ ah O ((Kp.h hW)).get.2 O) (dS 9 O lq (fun _ => jd ah O) (dS 10 O lq (fun _ => mW O O) (dS 11 O lq (fun _ => aW O) (dS 12 O lq (fun _ => aW O) (dS 13 O lq (fun _ => aW O) (lJ (aU (iL ?_)))))))))))))))))
                refine dU (.inl O) dO O O O ?_
                exact ⟨_, _, _, _, O, Qz.f4.right.f4.right.f3.f3.f3⟩
            ·(try simp only [Z] at h26)
             refine gy (bI O (jU O O (dX O func162 (wu EW.f4.f4.f4 (fun W HW => (HW).aO) hT (by omega) (by omega)) ?_)))
             rintro _ w21 ⟨rfl, wP⟩
             refine bW O (oZ O O (oZ O O (oZ O O (gW O (gW O (tX O (bf (bI O (aV (jR O) (fO O (bg O (fun h30 => ?_) (fun h30 => ?_))))))))))))
             ·(try simp only [Z] at h30)
              refine jg (gW O (gW O (fP O (aN (aC ?_)))))
              refine dU (.inl O) dO O O O ?_
              exact ⟨_, _, _, _, O, wP.f4.right.f3.f3.f3⟩
             ·(try simp only [Z] at h30)
              refine bI O (mX O O (bM 7 aB O aj O (eH aA O (wP).get.2 O (aV (gG O O) (fO O (bg O (fun h31 => ?_) (fun h31 => ?_)))))))
              ·(try simp only [Z] at h31)
               refine aI ?_
               have aeg := wP.drew
               have CY := V.kp (aeg.f4.f4.f4.f4)
               refine nG [4] CY O (fD 0 O CY O (fD 1 O CY O (iG 2 O CY O (dJ 3 O CY 7 aB O aj O (fM 4 O CY (fun W hW => fQ aA O ((Kp.h hW)).get.2 O) (dS 5 O CY (fun _ => aW O) (dS 6 O CY (fun _ => aW O) (dS 7 O CY (fun _ => aW O) (lJ (aU (iL (aN (aC ?_)))))))))))))
               refine dU (.inl O) dO O O O ?_
               exact ⟨_, _, _, _, O, aeg.f4.right.f3.f3.f3⟩
              ·(try simp only [Z] at h31)
               refine bI O (fO O (bg O (fun h32 => ?_) (fun h32 => ?_)))
               ·(try simp only [Z] at h32)
                refine aF (bW O (aV (rV O O) (gW O (bT (aH (aU (aI ?_)))))))
                have QA := wP.drew
                have lu := V.kp (QA.f4.f4.f4.f4)
                refine nG [3, 8] lu O (fD 0 O lu O (iG 1 O lu O (dJ 2 O lu 7 aB O aj O (fM 3 O lu (fun W hW => fQ aA O ((Kp.h hW)).get.2 O) (fD 4 O lu O (fD 5 O lu O (iG 6 O lu O (dJ 7 O lu 6 aB O bD O (fM 8 O lu (fun W hW => fQ ah O ((Kp.h hW)).get.2 O) (dS 9 O lu (fun _ => jd ah O) (dS 10 O lu (fun _ => mW O O) (dS 11 O lu (fun _ => aW O) (dS 12 O lu (fun _ => aW O) (dS 13 O lu (fun _ => aW O) (lJ (aU (iL ?_)))))))))))))))))
                refine dU (.inl O) dO O O O ?_
                exact ⟨_, _, _, _, O, QA.f4.right.f3.f3.f3⟩
               ·(try simp only [Z] at h32)
                refine bU (aH (aU (aI ?_)))
                have QA := wP.drew
                have lu := V.kp (QA.f4.f4.f4.f4)
                refine nG [3, 8] lu O (fD 0 O lu O (iG 1 O lu O (dJ 2 O lu 7 aB O aj O (fM 3 O lu (fun W hW => fQ aA O ((Kp.h hW)).get.2 O) (fD 4 O lu O (fD 5 O lu O (iG 6 O lu O (dJ 7 O lu 6 aB O bD O (fM 8 O lu (fun W hW => fQ ah O ((Kp.h hW)).get.2 O) (dS 9 O lu (fun _ => jd ah O) (dS 10 O lu (fun _ => mW O O) (dS 11 O lu (fun _ => aW O) (dS 12 O lu (fun _ => aW O) (dS 13 O lu (fun _ => aW O) (lJ (aU (iL ?_)))))))))))))))))
                refine dU (.inl O) dO O O O ?_
                exact ⟨_, _, _, _, O, QA.f4.right.f3.f3.f3⟩
         ·(try simp only [Z] at h7)
          refine gy (bI O (jU O O (dX O func162 (wu H7.f3.f3.f3 (fun W HW => hk2 _ (HW)) hT (by omega) (by omega)) ?_)))
          rintro _ w22 ⟨rfl, Jh⟩
          refine bW O (oZ O O (oZ O O (oZ O O (gW O (gW O (tX O (bf (bI O (aV (jR O) (fO O (bg O (fun h33 => ?_) (fun h33 => ?_))))))))))))
          ·(try simp only [Z] at h33)
           refine jg (gW O (gW O (fP O (aN (aC ?_)))))
           refine dU (.inl O) dO O O O ?_
           exact ⟨_, _, _, _, O, Jh.f3.f3.f3⟩
          ·(try simp only [Z] at h33)
           refine bI O (mX O O (bM 7 aB O aj O (eH aA O (Jh).get.2 O (aV (gG O O) (fO O (bg O (fun h34 => ?_) (fun h34 => ?_)))))))
           ·(try simp only [Z] at h34)
            refine aI ?_
            have aeh := Jh.drew
            have CZ := V.kp (aeh.f3.f3.f3)
            refine nG [4] CZ O (fD 0 O CZ O (fD 1 O CZ O (iG 2 O CZ O (dJ 3 O CZ 7 aB O aj O (fM 4 O CZ (fun W hW => fQ aA O ((Kp.h hW)).get.2 O) (dS 5 O CZ (fun _ => aW O) (dS 6 O CZ (fun _ => aW O) (dS 7 O CZ (fun _ => aW O) (lJ (aU (iL (aN (aC ?_)))))))))))))
            refine dU (.inl O) dO O O O ?_
            exact ⟨_, _, _, _, O, aeh.f3.f3.f3⟩
           ·(try simp only [Z] at h34)
            refine bI O (fO O (bg O (fun h35 => ?_) (fun h35 => ?_)))
            ·(try simp only [Z] at h35)
             refine aF (bW O (aV (rV O O) (gW O (bT (aH (aU (aI ?_)))))))
             have QB := Jh.drew
             have lC := V.kp (QB.f3.f3.f3)
             refine nG [3, 8] lC O (fD 0 O lC O (iG 1 O lC O (dJ 2 O lC 7 aB O aj O (fM 3 O lC (fun W hW => fQ aA O ((Kp.h hW)).get.2 O) (fD 4 O lC O (fD 5 O lC O (iG 6 O lC O (dJ 7 O lC 6 aB O bD O (fM 8 O lC (fun W hW => fQ ah O ((Kp.h hW)).get.2 O) (dS 9 O lC (fun _ => jd ah O) (dS 10 O lC (fun _ => mW O O) (dS 11 O lC (fun _ => aW O) (dS 12 O lC (fun _ => aW O) (dS 13 O lC (fun _ => aW O) (lJ (aU (iL ?_)))))))))))))))))
             refine dU (.inl O) dO O O O ?_
             exact ⟨_, _, _, _, O, QB.f3.f3.f3⟩
            ·(try simp only [Z] at h35)
             refine bU (aH (aU (aI ?_)))
             have QB := Jh.drew
             have lC := V.kp (QB.f3.f3.f3)
             refine nG [3, 8] lC O (fD 0 O lC O (iG 1 O lC O (dJ 2 O lC 7 aB O aj O (fM 3 O lC (fun W hW => fQ aA O ((Kp.h hW)).get.2 O) (fD 4 O lC O (fD 5 O lC O (iG 6 O lC O (dJ 7 O lC 6 aB O bD O (fM 8 O lC (fun W hW => fQ ah O ((Kp.h hW)).get.2 O) (dS 9 O lC (fun _ => jd ah O) (dS 10 O lC (fun _ => mW O O) (dS 11 O lC (fun _ => aW O) (dS 12 O lC (fun _ => aW O) (dS 13 O lC (fun _ => aW O) (lJ (aU (iL ?_)))))))))))))))))
             refine dU (.inl O) dO O O O ?_
             exact ⟨_, _, _, _, O, QB.f3.f3.f3⟩
        ·(try simp only [Z] at h6)
         refine eG 24 O O O O (by kernel_rfl) (by kernel_rfl) jV (gV O) ?_
         refine eG 25 O O O O (by kernel_rfl) (by kernel_rfl) jV (gV O) ?_
         refine eG 26 O O O O (by kernel_rfl) (by kernel_rfl) jV (gV O) ?_
         refine eG 27 O O O O (by kernel_rfl) (by kernel_rfl) jV (gV O) ?_
         refine eG 28 O O O O (by kernel_rfl) (by kernel_rfl) jV (gV O) ?_
         refine eG 29 O O O O (by kernel_rfl) (by kernel_rfl) jV (gV O) ?_
         refine eG 30 O O O O (by kernel_rfl) (by kernel_rfl) jV (gV O) ?_
         refine eG 31 O O O O (by kernel_rfl) (by kernel_rfl) jV (gV O) ?_
         refine eG 32 O O O O (by kernel_rfl) (by kernel_rfl) jV (gV O) ?_
         refine eG 33 O O O O (by kernel_rfl) (by kernel_rfl) jV (gV O) ?_
         refine eG 34 O O O O (by kernel_rfl) (by kernel_rfl) jV (gV O) ?_
         refine eG 35 O O O O (by kernel_rfl) (by kernel_rfl) jV (gV O) ?_
         refine dS 36 O jV (fun _ => uz O O) (lJ (aU (oL (gy (bI O (jU O O (dX O func162 (wu Lm.f3.f3.f3 (fun W HW => hk2 _ (HW)) hT (by omega) (by omega)) ?_)))))))
         rintro _ w23 ⟨rfl, AQ⟩
         refine bW O (oZ O O (oZ O O (oZ O O (gW O (gW O (tX O (bf (bI O (aV (jR O) (fO O (bg O (fun h36 => ?_) (fun h36 => ?_))))))))))))
         ·(try simp only [Z] at h36)
          refine jg (gW O (gW O (fP O (aN (aC ?_)))))
          refine dU (.inl O) dO O O O ?_
          exact ⟨_, _, _, _, O, AQ.f3.f3.f3⟩
         ·(try simp only [Z] at h36)
          refine bI O (mX O O (bM 7 aB O aj O (eH aA O (AQ).get.2 O (aV (gG O O) (fO O (bg O (fun h37 => ?_) (fun h37 => ?_)))))))
          ·(try simp only [Z] at h37)
           refine aI ?_
           have aei := AQ.drew
           have C9 := V.kp (aei.f3.f3.f3)
           refine nG [4] C9 O (fD 0 O C9 O (fD 1 O C9 O (iG 2 O C9 O (dJ 3 O C9 7 aB O aj O (fM 4 O C9 (fun W hW => fQ aA O ((Kp.h hW)).get.2 O) (dS 5 O C9 (fun _ => aW O) (dS 6 O C9 (fun _ => aW O) (dS 7 O C9 (fun _ => aW O) (lJ (aU (iL (aN (aC ?_)))))))))))))
           refine dU (.inl O) dO O O O ?_
           exact ⟨_, _, _, _, O, aei.f3.f3.f3⟩
          ·(try simp only [Z] at h37)
           refine bI O (fO O (bg O (fun h38 => ?_) (fun h38 => ?_)))
           ·(try simp only [Z] at h38)
            refine aF (bW O (aV (rV O O) (gW O (bT (aH (aU (aI ?_)))))))
            have JY := AQ.drew
            have lD := V.kp (JY.f3.f3.f3)
            refine nG [3, 8] lD O (fD 0 O lD O (iG 1 O lD O (dJ 2 O lD 7 aB O aj O (fM 3 O lD (fun W hW => fQ aA O ((Kp.h hW)).get.2 O) (fD 4 O lD O (fD 5 O lD O (iG 6 O lD O (dJ 7 O lD 6 aB O bD O (fM 8 O lD (fun W hW => fQ ah O ((Kp.h hW)).get.2 O) (dS 9 O lD (fun _ => gZ ((JY.f2).aO) ah O) (dS 10 O lD (fun _ => mW O O) (dS 11 O lD (fun _ => aW O) (dS 12 O lD (fun _ => aW O) (dS 13 O lD (fun _ => aW O) (lJ (aU (iL ?_)))))))))))))))))
            refine dU (.inl O) dO O O O ?_
            exact ⟨_, _, _, _, O, JY.f3.f3.f3⟩
           ·(try simp only [Z] at h38)
            refine bU (aH (aU (aI ?_)))
            have JY := AQ.drew
            have lD := V.kp (JY.f3.f3.f3)
            refine nG [3, 8] lD O (fD 0 O lD O (iG 1 O lD O (dJ 2 O lD 7 aB O aj O (fM 3 O lD (fun W hW => fQ aA O ((Kp.h hW)).get.2 O) (fD 4 O lD O (fD 5 O lD O (iG 6 O lD O (dJ 7 O lD 6 aB O bD O (fM 8 O lD (fun W hW => fQ ah O ((Kp.h hW)).get.2 O) (dS 9 O lD (fun _ => gZ ((JY.f2).aO) ah O) (dS 10 O lD (fun _ => mW O O) (dS 11 O lD (fun _ => aW O) (dS 12 O lD (fun _ => aW O) (dS 13 O lD (fun _ => aW O) (lJ (aU (iL ?_)))))))))))))))))
            refine dU (.inl O) dO O O O ?_
            exact ⟨_, _, _, _, O, JY.f3.f3.f3⟩
       ·(try simp only [Z] at h5)
        refine eG 12 O O O O (by kernel_rfl) (by kernel_rfl) jV (gV O) ?_
        refine eG 13 O O O O (by kernel_rfl) (by kernel_rfl) jV (gV O) ?_
        refine eG 14 O O O O (by kernel_rfl) (by kernel_rfl) jV (gV O) ?_
        refine eG 15 O O O O (by kernel_rfl) (by kernel_rfl) jV (gV O) ?_
        refine eG 16 O O O O (by kernel_rfl) (by kernel_rfl) jV (gV O) ?_
        refine eG 17 O O O O (by kernel_rfl) (by kernel_rfl) jV (gV O) ?_
        refine eG 18 O O O O (by kernel_rfl) (by kernel_rfl) jV (gV O) ?_
        refine eG 19 O O O O (by kernel_rfl) (by kernel_rfl) jV (gV O) ?_
        refine eG 20 O O O O (by kernel_rfl) (by kernel_rfl) jV (gV O) ?_
        refine eG 21 O O O O (by kernel_rfl) (by kernel_rfl) jV (gV O) ?_
        refine dS 22 O jV (fun _ => uz O O) (fD 23 O jV O ?_)
        refine eG 24 O O O O (by kernel_rfl) (by kernel_rfl) jV (gV O) ?_
        refine eG 25 O O O O (by kernel_rfl) (by kernel_rfl) jV (gV O) ?_
        refine eG 26 O O O O (by kernel_rfl) (by kernel_rfl) jV (gV O) ?_
        refine eG 27 O O O O (by kernel_rfl) (by kernel_rfl) jV (gV O) ?_
        refine eG 28 O O O O (by kernel_rfl) (by kernel_rfl) jV (gV O) ?_
        refine eG 29 O O O O (by kernel_rfl) (by kernel_rfl) jV (gV O) ?_
        refine eG 30 O O O O (by kernel_rfl) (by kernel_rfl) jV (gV O) ?_
        refine eG 31 O O O O (by kernel_rfl) (by kernel_rfl) jV (gV O) ?_
        refine eG 32 O O O O (by kernel_rfl) (by kernel_rfl) jV (gV O) ?_
        refine eG 33 O O O O (by kernel_rfl) (by kernel_rfl) jV (gV O) ?_
        refine eG 34 O O O O (by kernel_rfl) (by kernel_rfl) jV (gV O) ?_
        refine eG 35 O O O O (by kernel_rfl) (by kernel_rfl) jV (gV O) ?_
        refine dS 36 O jV (fun _ => uz O O) (lJ (aU (oL (gy (bI O (jU O O (dX O func162 (wu Lm.f3.f3.f3 (fun W HW => hk2 _ (HW)) hT (by omega) (by omega)) ?_)))))))
        rintro _ w24 ⟨rfl, Kq⟩
        refine bW O (oZ O O (oZ O O (oZ O O (gW O (gW O (tX O (bf (bI O (aV (jR O) (fO O (bg O (fun h39 => ?_) (fun h39 => ?_))))))))))))
        ·(try simp only [Z] at h39)
         refine jg (gW O (gW O (fP O (aN (aC ?_)))))
         refine dU (.inl O) dO O O O ?_
         exact ⟨_, _, _, _, O, Kq.f3.f3.f3⟩
        ·(try simp only [Z] at h39)
         refine bI O (mX O O (bM 7 aB O aj O (eH aA O (Kq).get.2 O (aV (gG O O) (fO O (bg O (fun h40 => ?_) (fun h40 => ?_)))))))
         ·(try simp only [Z] at h40)
          refine aI ?_
          have aej := Kq.drew
          have Dc := V.kp (aej.f3.f3.f3)
          refine nG [4] Dc O (fD 0 O Dc O (fD 1 O Dc O (iG 2 O Dc O (dJ 3 O Dc 7 aB O aj O (fM 4 O Dc (fun W hW => fQ aA O ((Kp.h hW)).get.2 O) (dS 5 O Dc (fun _ => aW O) (dS 6 O Dc (fun _ => aW O) (dS 7 O Dc (fun _ => aW O) (lJ (aU (iL (aN (aC ?_)))))))))))))
          refine dU (.inl O) dO O O O ?_
          exact ⟨_, _, _, _, O, aej.f3.f3.f3⟩
         ·(try simp only [Z] at h40)
          refine bI O (fO O (bg O (fun h41 => ?_) (fun h41 => ?_)))
          ·(try simp only [Z] at h41)
           refine aF (bW O (aV (rV O O) (gW O (bT (aH (aU (aI ?_)))))))
           have JZ := Kq.drew
           have lF := V.kp (JZ.f3.f3.f3)
           refine nG [3, 8] lF O (fD 0 O lF O (iG 1 O lF O (dJ 2 O lF 7 aB O aj O (fM 3 O lF (fun W hW => fQ aA O ((Kp.h hW)).get.2 O) (fD 4 O lF O (fD 5 O lF O (iG 6 O lF O (dJ 7 O lF 6 aB O bD O (fM 8 O lF (fun W hW => fQ ah O ((Kp.h hW)).get.2 O) (dS 9 O lF (fun _ => gZ ((JZ.f2).aO) ah O) (dS 10 O lF (fun _ => mW O O) (dS 11 O lF (fun _ => aW O) (dS 12 O lF (fun _ => aW O) (dS 13 O lF (fun _ => aW O) (lJ (aU (iL ?_)))))))))))))))))
           refine dU (.inl O) dO O O O ?_
           exact ⟨_, _, _, _, O, JZ.f3.f3.f3⟩
          ·(try simp only [Z] at h41)
           refine bU (aH (aU (aI ?_)))
           have JZ := Kq.drew
           have lF := V.kp (JZ.f3.f3.f3)
           refine nG [3, 8] lF O (fD 0 O lF O (iG 1 O lF O (dJ 2 O lF 7 aB O aj O (fM 3 O lF (fun W hW => fQ aA O ((Kp.h hW)).get.2 O) (fD 4 O lF O (fD 5 O lF O (iG 6 O lF O (dJ 7 O lF 6 aB O bD O (fM 8 O lF (fun W hW => fQ ah O ((Kp.h hW)).get.2 O) (dS 9 O lF (fun _ => gZ ((JZ.f2).aO) ah O) (dS 10 O lF (fun _ => mW O O) (dS 11 O lF (fun _ => aW O) (dS 12 O lF (fun _ => aW O) (dS 13 O lF (fun _ => aW O) (lJ (aU (iL ?_)))))))))))))))))
           refine dU (.inl O) dO O O O ?_
           exact ⟨_, _, _, _, O, JZ.f3.f3.f3⟩
      ·(try simp only [Z] at h4)
       refine eG 6 O O O O (by kernel_rfl) (by kernel_rfl) kN (gV O) ?_
       refine eG 7 O O O O (by kernel_rfl) (by kernel_rfl) kN (gV O) ?_
       refine eG 8 O O O O (by kernel_rfl) (by kernel_rfl) kN (gV O) ?_
       refine eG 9 O O O O (by kernel_rfl) (by kernel_rfl) kN (gV O) ?_
       refine dS 10 O kN (fun _ => uz O O) (fD 11 O kN O ?_)
       refine eG 12 O O O O (by kernel_rfl) (by kernel_rfl) kN (gV O) ?_
       refine eG 13 O O O O (by kernel_rfl) (by kernel_rfl) kN (gV O) ?_
       refine eG 14 O O O O (by kernel_rfl) (by kernel_rfl) kN (gV O) ?_
       refine eG 15 O O O O (by kernel_rfl) (by kernel_rfl) kN (gV O) ?_
       refine eG 16 O O O O (by kernel_rfl) (by kernel_rfl) kN (gV O) ?_
       refine eG 17 O O O O (by kernel_rfl) (by kernel_rfl) kN (gV O) ?_
       refine eG 18 O O O O (by kernel_rfl) (by kernel_rfl) kN (gV O) ?_
       refine eG 19 O O O O (by kernel_rfl) (by kernel_rfl) kN (gV O) ?_
       refine eG 20 O O O O (by kernel_rfl) (by kernel_rfl) kN (gV O) ?_
       refine eG 21 O O O O (by kernel_rfl) (by kernel_rfl) kN (gV O) ?_
       refine dS 22 O kN (fun _ => uz O O) (fD 23 O kN O ?_)
       refine eG 24 O O O O (by kernel_rfl) (by kernel_rfl) kN (gV O) ?_
       refine eG 25 O O O O (by kernel_rfl) (by kernel_rfl) kN (gV O) ?_
       refine eG 26 O O O O (by kernel_rfl) (by kernel_rfl) kN (gV O) ?_
       refine eG 27 O O O O (by kernel_rfl) (by kernel_rfl) kN (gV O) ?_
       refine eG 28 O O O O (by kernel_rfl) (by kernel_rfl) kN (gV O) ?_
       refine eG 29 O O O O (by kernel_rfl) (by kernel_rfl) kN (gV O) ?_
       refine eG 30 O O O O (by kernel_rfl) (by kernel_rfl) kN (gV O) ?_
       refine eG 31 O O O O (by kernel_rfl) (by kernel_rfl) kN (gV O) ?_
       refine eG 32 O O O O (by kernel_rfl) (by kernel_rfl) kN (gV O) ?_
       refine eG 33 O O O O (by kernel_rfl) (by kernel_rfl) kN (gV O) ?_
       refine eG 34 O O O O (by kernel_rfl) (by kernel_rfl) kN (gV O) ?_
       refine eG 35 O O O O (by kernel_rfl) (by kernel_rfl) kN (gV O) ?_
       refine dS 36 O kN (fun _ => uz O O) (lJ (aU (oL (gy (bI O (jU O O (dX O func162 (wu Lm.f3.f3.f3 (fun W HW => hk2 _ (HW)) hT (by omega) (by omega)) ?_)))))))
       rintro _ w25 ⟨rfl, LU⟩
       refine bW O (oZ O O (oZ O O (oZ O O (gW O (gW O (tX O (bf (bI O (aV (jR O) (fO O (bg O (fun h42 => ?_) (fun h42 => ?_))))))))))))
       ·(try simp only [Z] at h42)
        refine jg (gW O (gW O (fP O (aN (aC ?_)))))
        refine dU (.inl O) dO O O O ?_
        exact ⟨_, _, _, _, O, LU.f3.f3.f3⟩
       ·(try simp only [Z] at h42)
        refine bI O (mX O O (bM 7 aB O aj O (eH aA O (LU).get.2 O (aV (gG O O) (fO O (bg O (fun h43 => ?_) (fun h43 => ?_)))))))
        ·(try simp only [Z] at h43)
         refine aI ?_
         have aek := LU.drew
         have Df := V.kp (aek.f3.f3.f3)
         refine nG [4] Df O (fD 0 O Df O (fD 1 O Df O (iG 2 O Df O (dJ 3 O Df 7 aB O aj O (fM 4 O Df (fun W hW => fQ aA O ((Kp.h hW)).get.2 O) (dS 5 O Df (fun _ => aW O) (dS 6 O Df (fun _ => aW O) (dS 7 O Df (fun _ => aW O) (lJ (aU (iL (aN (aC ?_)))))))))))))
         refine dU (.inl O) dO O O O ?_
         exact ⟨_, _, _, _, O, aek.f3.f3.f3⟩
        ·(try simp only [Z] at h43)
         refine bI O (fO O (bg O (fun h44 => ?_) (fun h44 => ?_)))
         ·(try simp only [Z] at h44)
          refine aF (bW O (aV (rV O O) (gW O (bT (aH (aU (aI ?_)))))))
          have J3 := LU.drew
          have lG := V.kp (J3.f3.f3.f3)
          refine nG [3, 8] lG O (fD 0 O lG O (iG 1 O lG O (dJ 2 O lG 7 aB O aj O (fM 3 O lG (fun W hW => fQ aA O ((Kp.h hW)).get.2 O) (fD 4 O lG O (fD 5 O lG O (iG 6 O lG O (dJ 7 O lG 6 aB O bD O (fM 8 O lG (fun W hW => fQ ah O ((Kp.h hW)).get.2 O) (dS 9 O lG (fun _ => gZ ((J3.f2).aO) ah O) (dS 10 O lG (fun _ => mW O O) (dS 11 O lG (fun _ => aW O) (dS 12 O lG (fun _ => aW O) (dS 13 O lG (fun _ => aW O) (lJ (aU (iL ?_)))))))))))))))))
          refine dU (.inl O) dO O O O ?_
          exact ⟨_, _, _, _, O, J3.f3.f3.f3⟩
         ·(try simp only [Z] at h44)
          refine bU (aH (aU (aI ?_)))
          have J3 := LU.drew
          have lG := V.kp (J3.f3.f3.f3)
          refine nG [3, 8] lG O (fD 0 O lG O (iG 1 O lG O (dJ 2 O lG 7 aB O aj O (fM 3 O lG (fun W hW => fQ aA O ((Kp.h hW)).get.2 O) (fD 4 O lG O (fD 5 O lG O (iG 6 O lG O (dJ 7 O lG 6 aB O bD O (fM 8 O lG (fun W hW => fQ ah O ((Kp.h hW)).get.2 O) (dS 9 O lG (fun _ => gZ ((J3.f2).aO) ah O) (dS 10 O lG (fun _ => mW O O) (dS 11 O lG (fun _ => aW O) (dS 12 O lG (fun _ => aW O) (dS 13 O lG (fun _ => aW O) (lJ (aU (iL ?_)))))))))))))))))
          refine dU (.inl O) dO O O O ?_
          exact ⟨_, _, _, _, O, J3.f3.f3.f3⟩
   ·skip
    refine bI O (aV (gZ (hk2 _ (HJ.right.right.right)) ah O) (aV (gK O O) (jY O (fun h45 => ?_) (fun h45 => ?_))))
    ·(try simp only [Z] at h45)
     refine bF (bW O (bF ?_))
     obtain ⟨bk2, ok2, ck2, ek2⟩ := gB.qN (hk2 _ (HJ.right.right.right)) (by omega)
     cases ek2
     refine aV (dI ah bP O O (by omega)) (bF ?_)
     refine aV (dW (bV bC O) O (by first | exact gB.lN (hk2 _ (HJ.right.right.right)) (by omega) | exact gB.uP (hk2 _ (HJ.right.right.right)) (by omega) | exact gB.wO (hk2 _ (HJ.right.right.right)) (by omega))) ?_
     refine bF (bW O (bF (aV (fB O O) (jQ O O (jY O (fun h46 => ?_) (fun h46 => ?_))))))
     ·(try simp only [Z] at h46)
      refine bF (bW O (bF (dX O func50 (AO (by decide)) ?_)))
      rintro _ _ ⟨rfl, rfl⟩
      refine jQ O O (iW O (fun h47 => ?_) (fun h47 => ?_))
      ·(try simp only [Z] at h47)
       refine aI ?_
       have ael := HJ.drew
       have Gg := V.kp (ael.f3.f3.f3)
       refine nG [3] Gg O (fD 0 O Gg O (iG 1 O Gg O (dJ 2 O Gg 6 aB O bD O (fM 3 O Gg (fun W hW => fQ ah O ((Kp.h hW)).get.2 O) (dS 4 O Gg (fun _ => gZ ((ael.f2).aO) ah O) (dS 5 O Gg (fun _ => aW O) (dS 6 O Gg (fun _ => aW O) (dS 7 O Gg (fun _ => aW O) (lJ (aU (iL (aC ?_))))))))))))
       refine dU (.inl O) dO O O O ?_
       exact ⟨_, _, _, _, O, ael.f3.f3.f3⟩
      ·(try simp only [Z] at h47)
       refine bU ?_
       refine dG (()) ?_ ?_ ?_
       ·exact (Sub.nil _)
       ·exact FC
       ·(try dsimp only)
        first | done | exact HJ.f3.f3.f3
     ·(try simp only [Z] at h46)
      refine bK (bK (iH O O (iR (oL (bU ?_)))))
      refine dG (()) ?_ ?_ ?_
      ·exact (Sub.nil _)
      ·exact FC
      ·(try dsimp only)
       first | done | exact HJ.f3.f3.f3
    ·(try simp only [Z] at h45)
     refine bK (bK (bK (bK (bK (iH O O (bW O (bK (bK (iH O O (iR (oL (bU ?_))))))))))))
     refine dG (()) ?_ ?_ ?_
     ·exact (Sub.nil _)
     ·exact FC
     ·(try dsimp only)
      first | done | exact HJ.f3.f3.f3
  ·skip
   refine bI O (aV (gK O O) (iW O (fun h48 => ?_) (fun h48 => ?_)))
   ·(try simp only [Z] at h48)
    refine aF (jU O O (aV (acg O O) (aV (mW O O) (gW O (bT ?_)))))
    refine dG (()) ?_ ?_ ?_
    ·exact (Sub.kJ O (congrArg (Value.int .i64) (by unfold rnM; first | rw [if_pos (by omega)] | rw [if_neg (by omega)])) (Sub.nil _))
    ·exact wW
    ·(try dsimp only)
     first | done | exact HY.f3.f3.f3
   ·(try simp only [Z] at h48)
    refine bU ?_
    refine dG (()) ?_ ?_ ?_
    ·exact (Sub.kJ O (congrArg (Value.int .i64) (by unfold rnM; first | rw [if_pos (by omega)] | rw [if_neg (by omega)])) (Sub.nil _))
    ·exact wW
    ·(try dsimp only)
     first | done | exact HY.f3.f3.f3
set_option maxHeartbeats 1000000 in
theorem ajW (H : V w0 w (VC c m e name kv n g lv s.c.pt • je 21 .i32 lv s.c.L • jW m M • dZ e s • F)) (hk : jO w0 F .i32 kv keys) (hT : Bq w0) (hk1 : 1 ≤ keys.length) (hn : 1 ≤ n ∧ n ≤ 1000000) : jf prog 163 #[.pointer (some ⟨c, 0, none⟩)] w fun v w' => ∃ x t M', Fr s t ∧ v = .int .i64 x ∧ V w0 w' (VC c m e name kv n g lv s.c.pt • je 21 .i32 lv s.c.L • jW m M' • dZ e t • F) := by
  obtain ⟨hl9, hp⟩ := xH H.f4
  refine jE func163 ntmps163 ?_
  refine kH O (bI O (dX O func184 (ad9 H.f3.f3.f3 (fun W HW => hk _ (HW.right)) hT hk1 hl9 hp hn) ?_))
  rintro _ w1 ⟨a1, b1, ok1, M1, rfl, H1⟩
  refine bW O (oZ O O (oZ O O (oZ O O (gW O (gW O (tX O (bI O (aV (jR O) (iW O (fun h1 => ?_) (fun h1 => ?_))))))))))
  · (try simp only [Z] at h1)
    refine jS O (aC (dL qc O ?_))
    exact ⟨_, _, _, Fr.refl s, O, H1.f4.f4.f4.f4⟩
  · (try simp only [Z] at h1)
    refine gy ?_
    refine kE [(0, _)] (fun (_ : Unit) => []) (fun (_ : Unit) W => ∃ t M1, Fr s t ∧ V w0 W (VC c m e name kv n g lv s.c.pt • je 21 .i32 lv s.c.L • jW m M1 • dZ e t • F)) lH ?_ ?_
    · rintro _ w2 ⟨t, M1, hfr, HJ⟩
      dsimp only [List.cons_append, List.nil_append]
      refine bI O (dX O func165 (xq HJ.f4.f4.f3) ?_)
      rintro _ w3 ⟨rfl, H3⟩
      refine fP O (dL qc O ?_)
      exact ⟨_, _, _, hfr.trans (zO _ _), O, H3.f3.f3.f4.f4⟩
    · skip
      refine bf (bI O (dV O (bM 2 aB O kM O (eH iD O (H1).get.2 O (aV (eP O O) (jY O (fun h2 => ?_) (fun h2 => ?_)))))))
      · (try simp only [Z] at h2)
        refine bF (bW O (bF (bW O (bF (aV (fB O O) (jQ O O (fO O (bg O (fun h3 => ?_) (fun h3 => ?_)))))))))
        · (try simp only [Z] at h3)
          refine jS O (aN (aC (dL qc O ?_)))
          exact ⟨_, _, _, Fr.refl s, O, H1.f4.f4.f4.f4⟩
        · (try simp only [Z] at h3)
          refine bI O (dV O (bM 2 aB O kM O (eH iD O (H1).get.2 O (aV (eP O O) (fO O (bg O (fun h4 => ?_) (fun h4 => ?_)))))))
          · (try simp only [Z] at h4)
            refine aI (bI O (dV O (bM 1 aB O fA O (eH bY O (H1).get.2 O (jU O O (dX O func185 (Ib H1.f4) ?_))))))
            rintro _ w4 ⟨rfl, H4⟩
            refine fO O (bI O (aV (fF O O) (iW O (fun h5 => ?_) (fun h5 => ?_))))
            · (try simp only [Z] at h5)
              refine bI O (fP O (aC (aN (aC (dL qc O ?_)))))
              exact ⟨_, _, _, Ll _ _ _ _, O, H4.f4.f4.f4⟩
            · (try simp only [Z] at h5)
              refine gy (bI O (dV O (bM 1 aB O fA O (eH bY O (H4.f2).get.2 O (bW O (dX O func30 (kD H4) ?_))))))
              rintro _ w5 ⟨rfl, H5⟩
              refine fP O (aN (aC (dL qc O ?_)))
              exact ⟨_, _, _, (Ll _ _ _ _).trans (qI _ _), O, H5.f4.f4.f4⟩
          · (try simp only [Z] at h4)
            refine bI O (dV O (bM 2 aB O kM O (eH iD O (H1).get.2 O (aV (eP O O) (fO O (bg O (fun h6 => ?_) (fun h6 => ?_)))))))
            · (try simp only [Z] at h6)
              refine bI O (jU O O (dX O func164 (Et H1.f4.f2) ?_))
              rintro _ w6 ⟨rfl, H6⟩
              refine fP O (aN (aC (dL qc O ?_)))
              exact ⟨_, _, _, xW _ _ _, O, H6.f2.f4.f4.f4⟩
            · (try simp only [Z] at h6)
              refine bI O (bW O (aV (gG O O) (fO O (bg O (fun h7 => ?_) (fun h7 => ?_)))))
              · (try simp only [Z] at h7)
                refine bI O (jU O O (dX O func164 (Et H1.f4.f2) ?_))
                rintro _ w7 ⟨rfl, H7⟩
                refine fO O (bI O (aV (fF O O) (iW O (fun h8 => ?_) (fun h8 => ?_))))
                · (try simp only [Z] at h8)
                  refine bI O (fP O (aN (aC (dL qc O ?_))))
                  exact ⟨_, _, _, xW _ _ _, O, H7.f2.f4.f4.f4⟩
                · (try simp only [Z] at h8)
                  refine bU (aH ?_)
                  refine dG (()) ?_ ?_ ?_
                  · exact (Sub.nil _)
                  · exact lH
                  · (try dsimp only)
                    first | done | exact (by first | exact ⟨_, _, Fr.refl s, H7.f2.f4.f4.f4⟩ | exact ⟨_, _, xW _ _ _, H7.f2.f4.f4.f4⟩)
              · (try simp only [Z] at h7)
                refine bU (aH ?_)
                refine dG (()) ?_ ?_ ?_
                · exact (Sub.nil _)
                · exact lH
                · (try dsimp only)
                  first | done | exact (by first | exact ⟨_, _, Fr.refl s, H1.f4.f4.f4.f4⟩ | exact ⟨_, _, xW _ _ _, H1.f4.f4.f4.f4⟩)
      · (try simp only [Z] at h2)
        refine bK (bK (bK (iH O O (fO O (oL (bI O (dV O (bM 2 aB O kM O (eH iD O (H1).get.2 O (aV (eP O O) (fO O (bg O (fun h9 => ?_) (fun h9 => ?_)))))))))))))
        · (try simp only [Z] at h9)
          refine aI (bI O (dV O (bM 1 aB O fA O (eH bY O (H1).get.2 O (jU O O (dX O func185 (Ib H1.f4) ?_))))))
          rintro _ w8 ⟨rfl, H8⟩
          refine fO O (bI O (aV (fF O O) (iW O (fun h10 => ?_) (fun h10 => ?_))))
          · (try simp only [Z] at h10)
            refine bI O (fP O (aC (aN (aC (dL qc O ?_)))))
            exact ⟨_, _, _, Ll _ _ _ _, O, H8.f4.f4.f4⟩
          · (try simp only [Z] at h10)
            refine gy (bI O (dV O (bM 1 aB O fA O (eH bY O (H8.f2).get.2 O (bW O (dX O func30 (kD H8) ?_))))))
            rintro _ w9 ⟨rfl, H9⟩
            refine fP O (aN (aC (dL qc O ?_)))
            exact ⟨_, _, _, (Ll _ _ _ _).trans (qI _ _), O, H9.f4.f4.f4⟩
        · (try simp only [Z] at h9)
          refine bI O (dV O (bM 2 aB O kM O (eH iD O (H1).get.2 O (aV (eP O O) (fO O (bg O (fun h11 => ?_) (fun h11 => ?_)))))))
          · (try simp only [Z] at h11)
            refine bI O (jU O O (dX O func164 (Et H1.f4.f2) ?_))
            rintro _ w10 ⟨rfl, pG⟩
            refine fP O (aN (aC (dL qc O ?_)))
            exact ⟨_, _, _, xW _ _ _, O, pG.f2.f4.f4.f4⟩
          · (try simp only [Z] at h11)
            refine bI O (bW O (aV (gG O O) (fO O (bg O (fun h12 => ?_) (fun h12 => ?_)))))
            · (try simp only [Z] at h12)
              refine bI O (jU O O (dX O func164 (Et H1.f4.f2) ?_))
              rintro _ FK ⟨rfl, ru⟩
              refine fO O (bI O (aV (fF O O) (iW O (fun h13 => ?_) (fun h13 => ?_))))
              · (try simp only [Z] at h13)
                refine bI O (fP O (aN (aC (dL qc O ?_))))
                exact ⟨_, _, _, xW _ _ _, O, ru.f2.f4.f4.f4⟩
              · (try simp only [Z] at h13)
                refine bU (aH ?_)
                refine dG (()) ?_ ?_ ?_
                · exact (Sub.nil _)
                · exact lH
                · (try dsimp only)
                  first | done | exact (by first | exact ⟨_, _, Fr.refl s, ru.f2.f4.f4.f4⟩ | exact ⟨_, _, xW _ _ _, ru.f2.f4.f4.f4⟩)
            · (try simp only [Z] at h12)
              refine bU (aH ?_)
              refine dG (()) ?_ ?_ ?_
              · exact (Sub.nil _)
              · exact lH
              · (try dsimp only)
                first | done | exact (by first | exact ⟨_, _, Fr.refl s, H1.f4.f4.f4.f4⟩ | exact ⟨_, _, xW _ _ _, H1.f4.f4.f4.f4⟩)
end
end Go.Proofs.YtpdeedplgmbopaaGreatDoor
end
