import Derived.Test.YtnhhmieghbfalaaGreatDoorZ4
import Derived.Test.YtnhhmieghbfalaaGreatDoorZ5
import Derived.Test.YtnhhmieghbfalaaGreatDoorZ6
set_option linter.unusedSimpArgs false
set_option linter.unusedVariables false
/- Texts of mine, joined, their names in short: RefTab Utf2 Utf3 Utf4. -/
section
namespace Go.Proofs.YtnhhmieghbfalaaGreatDoor
open Go.RowKit
open _root_.Go.Proofs.Tryz
def ends (T : List (Int × Int)) : List Int := T.flatMap fun x => [x.1, x.2]
section
variable {w0 w : World} {F : HP} {r : Int}
theorem Xt : iK prog 204 #[.int .i32 r] w fun v w' => v = .bool (lD r) ∧ w = w' := by
  refine jl func204 ntmps204 ?_
  refine kG O (bT O (aT (vT O O) (nS O (fun h1 => ?_) (fun h1 => ?_))))
  · (try simp only [aG] at h1)
    refine bJ (cO O (bJ (aT (fJ O O) (mQ O O (nS O (fun h2 => ?_) (fun h2 => ?_))))))
    · (try simp only [aG] at h2)
      refine dB (dB (dB (yX (yX (dB (mQ O O (iJ O (dO results204 O ?_))))))))
      refine ⟨?_, O⟩; congr 1; first | (symm; rw [lD, decide_eq_true_eq]; omega) | (symm; rw [lD, decide_eq_false_iff_not]; omega) | (rw [lD, decide_eq_decide]; omega)
    · (try simp only [aG] at h2)
      refine bJ (cO O (bJ (aT (fZ O O) (bJ (nS O (fun h3 => ?_) (fun h3 => ?_))))))
      · (try simp only [aG] at h3)
        refine bJ (cO O (bJ (aT (xA O O) (bJ (mQ O O (kP O O (iJ O (dO results204 O ?_))))))))
        refine ⟨?_, O⟩; congr 1; first | (symm; rw [lD, decide_eq_true_eq]; omega) | (symm; rw [lD, decide_eq_false_iff_not]; omega) | (rw [lD, decide_eq_decide]; omega)
      · (try simp only [aG] at h3)
        refine dB (dB (bJ (kP O O (kP O O (iJ O (dO results204 O ?_))))))
        refine ⟨?_, O⟩; congr 1; first | (symm; rw [lD, decide_eq_true_eq]; omega) | (symm; rw [lD, decide_eq_false_iff_not]; omega) | (rw [lD, decide_eq_decide]; omega)
  · (try simp only [aG] at h1)
    refine dB (dB (kP O O (cO O (bJ (cO O (bJ (aT (fZ O O) (bJ (nS O (fun h4 => ?_) (fun h4 => ?_))))))))))
    · (try simp only [aG] at h4)
      exfalso; first | contradiction | omega
    · (try simp only [aG] at h4)
      refine dB (dB (bJ (kP O O (kP O O (iJ O (dO results204 O ?_))))))
      refine ⟨?_, O⟩; congr 1; first | (symm; rw [lD, decide_eq_true_eq]; omega) | (symm; rw [lD, decide_eq_false_iff_not]; omega) | (rw [lD, decide_eq_decide]; omega)
abbrev alG : List (Int × Int) := [(48, 57), (65, 90), (97, 122)]
abbrev am2 : List (Int × Int) := [(215, 215), (247, 247), (8192, 8303), (12288, 12351), (65280, 65295), (65533, 65533)]
end
theorem OO {r : Int} (h : lD r = false) : Lib.encodeRuneZ r = [239, 191, 189] := Lib.encodeRuneZ_bad (by
  unfold lD at h
  simp only [decide_eq_false_iff_not] at h
  omega)
section
variable {w0 w : World} {F : HP} {v : Value} {b l : List Int} {r x y : Int}
theorem aa2 (H : V w0 w F) (hT : MO w0) (hv : jZ w0 F .u8 v b) (hb : Jv b) (hne : b ≠ []) : iK prog 185 #[v] w fun v' w' => v' = .tuple #[.int .i32 (wX b).1, .int .i64 ((wX b).2 : Nat)] ∧ V w0 w' F := by
 have hl := List.length_pos_iff.2 hne
 have y0 := EM hb 0
 refine jl func185 ntmps185 ?_
 refine kQ (lg O (vI O (bT O (aT (kT (hv _ (H)) bH O) (cO O (iR (bK ?_)))))))
 obtain ⟨av, cv, ev, -⟩ := mP.open (hv _ (H))
 subst ev
 refine jh [(0, _), (6, _), (7, _)] (fun (k : Nat) => [(8, .int .i64 (k : Int))]) (fun (k : Nat) W => k = 0 ∧ V w0 W F) (fun (k : Nat) => 0) (0) DK rJ ⟨O, H⟩ ?_
 rintro k w2 ⟨rfl, HL⟩
 dsimp only [List.cons_append, List.nil_append]
 refine kQ (aT (fJ O O) (uV (wcA O (fun h1 => ?_))))
 (try simp only [aG] at h1)
 refine gX (aI (bK (kQ ?_)))
 obtain ⟨bv, ov, rfl⟩ := mP.pos (hv _ (HL)) (by omega)
 refine aT (dP bH gZ O O (by omega)) ?_
 refine aT (fB (dG bY O) O (by first | exact mP.yc (hv _ (HL)) (by omega) | exact mP.I8 (hv _ (HL)) (by omega) | exact mP.Ib (hv _ (HL)) (by omega))) ?_
 simp only [Int.natCast_zero]
 refine vI O (bT O (aT (fJ O O) (jo O (fun h2 => ?_) (fun h2 => ?_))))
 ·(try simp only [aG] at h2)
  refine bT O ?_
  refine aT (kH O (by rw [underlying5]; rfl) fO (lq (by omega))) ?_
  refine lg O (iJ O (aC (aY (aC (aC (aY (aC (Fp results185 O O ?_))))))))
  exact ⟨by rw [Rf hne (by omega)]; rfl, HL⟩
 ·(try simp only [aG] at h2)
  refine gX (iZ ?_)
  refine KN (by decide) ?_
  refine bC (bC (dK (aZ (bT O (fH O func195 (adI HL hT (fun W HW => hv _ (HW)) (by assumption) (by assumption)) ?_)))))
  rintro _ w3 ⟨rfl, H3⟩
  refine cO O (xY O O (xY O O (lg O (iJ O (Fp results185 O O ?_)))))
  exact ⟨O, H3⟩
theorem Zo (H : V w0 w (kF 5 .u8 v l • F)) (hl : l.length ≤ 70368744177664) (hr : ¬ (0 ≤ r ∧ r ≤ 127)) (hw : -2147483648 ≤ r ∧ r < 2147483648) :
  iK prog 203 #[v, .int .i32 r] w fun v' w' => V w0 w' (kF 5 .u8 v' (l ++ Lib.encodeRuneZ r) • F) := by
 refine nO func203 ntmps203 ?_
 refine kG O (bT O ?_)
 refine aT (Q7 O (by rw [underlying21]; rfl) underlying234) ?_
 refine iU O (bK (bT O (aT (xA O O) (iU O (dw O (fun h1 => ?_) (fun h1 => ?_))))))
 ·(try simp only [aG] at h1)
  refine bT O (cO O (aT (zV 6 64 (by decide) (by decide) O O) ?_))
  refine aT (jq O (by rw [underlying21]; rfl) bY) ?_
  refine aT (ny 6 64 (by decide) O O (by omega)) (cO O ?_)
  refine aT (jq O (by rw [underlying21]; rfl) bY) ?_
  refine aT (jP 6 63 64 (by decide) (by decide) (by decide) O O (by omega)) (aT (ny 7 128 (by decide) O O (by omega)) (jT (jV (k := .u8) (l := [_, _]) H bH gZ mG O O O (by decide)) ?_))
  rintro l1 w1 H1
  refine jT (eF H1.f2 ((H1).aJ) bH NS O O (by first | omega | (simp only [List.length_append, List.length_nil, List.length_cons]; omega) | (simp; omega)) (by first | omega | (simp only [List.length_append, List.length_nil, List.length_cons]; omega) | (simp; omega))) ?_
  rintro l2 w2 H2
  try simp only [List.nil_append] at H2
  refine iJ O (aY (dO qx O ?_))
  rw [Lib.encodeRuneZ_two (by omega) (by omega)]
  have HX := H2.f2.right
  rw [show r / 64 % 256 = r / 64 from by omega, show r % 256 % 64 = r % 64 from by omega] at HX
  exact HX
 ·(try simp only [aG] at h1)
  refine aI (bT O (aT (fJ O O) (iU O (dw O (fun h2 => ?_) (fun h2 => ?_)))))
  ·(try simp only [aG] at h2)
   refine gX (dw O (fun h3 => ?_) (fun h3 => ?_))
   ·(try simp only [aG] at h3)
    refine bT O (cO O (aT (zV 12 4096 (by decide) (by decide) O O) ?_))
    refine aT (jq O (by rw [underlying21]; rfl) bY) ?_
    refine aT (ny 5 32 (by decide) O O (by omega)) (cO O (aT (zV 6 64 (by decide) (by decide) O O) ?_))
    refine aT (jq O (by rw [underlying21]; rfl) bY) ?_
    refine aT (jP 6 63 64 (by decide) (by decide) (by decide) O O (by omega)) (aT (ny 7 128 (by decide) O O (by omega)) (cO O ?_))
    refine aT (jq O (by rw [underlying21]; rfl) bY) ?_
    refine aT (jP 6 63 64 (by decide) (by decide) (by decide) O O (by omega)) (aT (ny 7 128 (by decide) O O (by omega)) (jT (jV (k := .u8) (l := [_, _, _]) H bH gZ mG O O O (by decide)) ?_))
    rintro l3 w3 H3
    refine jT (eF H3.f2 ((H3).aJ) bH NS O O (by first | omega | (simp only [List.length_append, List.length_nil, List.length_cons]; omega) | (simp; omega)) (by first | omega | (simp only [List.length_append, List.length_nil, List.length_cons]; omega) | (simp; omega))) ?_
    rintro l4 w4 H4
    try simp only [List.nil_append] at H4
    refine iJ O (aY (dO qx O ?_))
    rw [Lib.encodeRuneZ_three (by omega)]
    have HX := H4.f2.right
    rw [show r / 4096 % 256 = r / 4096 from by omega, show r / 64 % 256 % 64 = r / 64 % 64 from by omega, show r % 256 % 64 = r % 64 from by omega] at HX
    exact HX
   ·(try simp only [aG] at h3)
    refine bT O (aT (fZ O O) (nS O (fun h4 => ?_) (fun h4 => ?_)))
    ·(try simp only [aG] at h4)
     refine bJ (cO O (bJ (aT (xA O O) (mQ O O (iU O (dw O (fun h5 => ?_) (fun h5 => ?_)))))))
     ·(try simp only [aG] at h5)
      refine bT O (cO O (aT (zV 18 262144 (by decide) (by decide) O O) ?_))
      refine aT (jq O (by rw [underlying21]; rfl) bY) ?_
      refine aT (ny 4 16 (by decide) O O (by omega)) (cO O (aT (zV 12 4096 (by decide) (by decide) O O) ?_))
      refine aT (jq O (by rw [underlying21]; rfl) bY) ?_
      refine aT (jP 6 63 64 (by decide) (by decide) (by decide) O O (by omega)) (aT (ny 7 128 (by decide) O O (by omega)) (cO O (aT (zV 6 64 (by decide) (by decide) O O) ?_)))
      refine aT (jq O (by rw [underlying21]; rfl) bY) ?_
      refine aT (jP 6 63 64 (by decide) (by decide) (by decide) O O (by omega)) (aT (ny 7 128 (by decide) O O (by omega)) (cO O ?_))
      refine aT (jq O (by rw [underlying21]; rfl) bY) ?_
      refine aT (jP 6 63 64 (by decide) (by decide) (by decide) O O (by omega)) (aT (ny 7 128 (by decide) O O (by omega)) (jT (jV (k := .u8) (l := [_, _, _, _]) H bH gZ mG O O O (by decide)) ?_))
      rintro l5 w5 H5
      refine jT (eF H5.f2 ((H5).aJ) bH NS O O (by first | omega | (simp only [List.length_append, List.length_nil, List.length_cons]; omega) | (simp; omega)) (by first | omega | (simp only [List.length_append, List.length_nil, List.length_cons]; omega) | (simp; omega))) ?_
      rintro l6 w6 H6
      try simp only [List.nil_append] at H6
      refine iJ O (aY (dO qx O ?_))
      rw [Lib.encodeRuneZ_four (by omega) (by omega)]
      have HX := H6.f2.right
      rw [show r / 262144 % 256 = r / 262144 from by omega, show r / 4096 % 256 % 64 = r / 4096 % 64 from by omega, show r / 64 % 256 % 64 = r / 64 % 64 from by omega, show r % 256 % 64 = r % 64 from by omega] at HX
      exact HX
     ·(try simp only [aG] at h5)
      refine bT O (jT (jV (k := .u8) (l := [239, 191, 189]) H bH gZ mG O O O (by decide)) ?_)
      rintro l7 w7 H7
      refine jT (eF H7.f2 ((H7).aJ) bH NS O O (by first | omega | (simp only [List.length_append, List.length_nil, List.length_cons]; omega) | (simp; omega)) (by first | omega | (simp only [List.length_append, List.length_nil, List.length_cons]; omega) | (simp; omega))) ?_
      rintro l8 w8 H8
      try simp only [List.nil_append] at H8
      refine iJ O (aY (dO qx O ?_))
      rw [Lib.encodeRuneZ_bad (by omega)]
      exact H8.f2.right
    ·(try simp only [aG] at h4)
     refine dB (dB (kP O O (iU O (yh (bT O (jT (jV (k := .u8) (l := [239, 191, 189]) H bH gZ mG O O O (by decide)) ?_))))))
     rintro l9 w9 H9
     refine jT (eF H9.f2 ((H9).aJ) bH NS O O (by first | omega | (simp only [List.length_append, List.length_nil, List.length_cons]; omega) | (simp; omega)) (by first | omega | (simp only [List.length_append, List.length_nil, List.length_cons]; omega) | (simp; omega))) ?_
     rintro l10 w10 rU
     try simp only [List.nil_append] at rU
     refine iJ O (aY (dO qx O ?_))
     rw [Lib.encodeRuneZ_bad (by omega)]
     exact rU.f2.right
  ·(try simp only [aG] at h2)
   refine aF (cO O (aT (fJ O O) (nS O (fun h6 => ?_) (fun h6 => ?_))))
   ·(try simp only [aG] at h6)
    refine bJ (cO O (bJ (aT (xA O O) (mQ O O (iU O (dw O (fun h7 => ?_) (fun h7 => ?_)))))))
    ·(try simp only [aG] at h7)
     refine bT O (cO O (aT (zV 12 4096 (by decide) (by decide) O O) ?_))
     refine aT (jq O (by rw [underlying21]; rfl) bY) ?_
     refine aT (ny 5 32 (by decide) O O (by omega)) (cO O (aT (zV 6 64 (by decide) (by decide) O O) ?_))
     refine aT (jq O (by rw [underlying21]; rfl) bY) ?_
     refine aT (jP 6 63 64 (by decide) (by decide) (by decide) O O (by omega)) (aT (ny 7 128 (by decide) O O (by omega)) (cO O ?_))
     refine aT (jq O (by rw [underlying21]; rfl) bY) ?_
     refine aT (jP 6 63 64 (by decide) (by decide) (by decide) O O (by omega)) (aT (ny 7 128 (by decide) O O (by omega)) (jT (jV (k := .u8) (l := [_, _, _]) H bH gZ mG O O O (by decide)) ?_))
     rintro l11 Ii rE
     refine jT (eF rE.f2 ((rE).aJ) bH NS O O (by first | omega | (simp only [List.length_append, List.length_nil, List.length_cons]; omega) | (simp; omega)) (by first | omega | (simp only [List.length_append, List.length_nil, List.length_cons]; omega) | (simp; omega))) ?_
     rintro l12 w12 uP
     try simp only [List.nil_append] at uP
     refine iJ O (aY (dO qx O ?_))
     rw [Lib.encodeRuneZ_three (by omega)]
     have HX := uP.f2.right
     rw [show r / 4096 % 256 = r / 4096 from by omega, show r / 64 % 256 % 64 = r / 64 % 64 from by omega, show r % 256 % 64 = r % 64 from by omega] at HX
     exact HX
    ·(try simp only [aG] at h7)
     refine bT O (aT (fZ O O) (nS O (fun h8 => ?_) (fun h8 => ?_)))
     ·(try simp only [aG] at h8)
      refine bJ (cO O (bJ (aT (xA O O) (mQ O O (iU O (dw O (fun h9 => ?_) (fun h9 => ?_)))))))
      ·(try simp only [aG] at h9)
       refine bT O (cO O (aT (zV 18 262144 (by decide) (by decide) O O) ?_))
       refine aT (jq O (by rw [underlying21]; rfl) bY) ?_
       refine aT (ny 4 16 (by decide) O O (by omega)) (cO O (aT (zV 12 4096 (by decide) (by decide) O O) ?_))
       refine aT (jq O (by rw [underlying21]; rfl) bY) ?_
       refine aT (jP 6 63 64 (by decide) (by decide) (by decide) O O (by omega)) (aT (ny 7 128 (by decide) O O (by omega)) (cO O (aT (zV 6 64 (by decide) (by decide) O O) ?_)))
       refine aT (jq O (by rw [underlying21]; rfl) bY) ?_
       refine aT (jP 6 63 64 (by decide) (by decide) (by decide) O O (by omega)) (aT (ny 7 128 (by decide) O O (by omega)) (cO O ?_))
       refine aT (jq O (by rw [underlying21]; rfl) bY) ?_
       refine aT (jP 6 63 64 (by decide) (by decide) (by decide) O O (by omega)) (aT (ny 7 128 (by decide) O O (by omega)) (jT (jV (k := .u8) (l := [_, _, _, _]) H bH gZ mG O O O (by decide)) ?_))
       rintro l13 P7 AZ
       refine jT (eF AZ.f2 ((AZ).aJ) bH NS O O (by first | omega | (simp only [List.length_append, List.length_nil, List.length_cons]; omega) | (simp; omega)) (by first | omega | (simp only [List.length_append, List.length_nil, List.length_cons]; omega) | (simp; omega))) ?_
       rintro l14 O9 BJ
       try simp only [List.nil_append] at BJ
       refine iJ O (aY (dO qx O ?_))
       rw [Lib.encodeRuneZ_four (by omega) (by omega)]
       have HX := BJ.f2.right
       rw [show r / 262144 % 256 = r / 262144 from by omega, show r / 4096 % 256 % 64 = r / 4096 % 64 from by omega, show r / 64 % 256 % 64 = r / 64 % 64 from by omega, show r % 256 % 64 = r % 64 from by omega] at HX
       exact HX
      ·(try simp only [aG] at h9)
       refine bT O (jT (jV (k := .u8) (l := [239, 191, 189]) H bH gZ mG O O O (by decide)) ?_)
       rintro l15 Ry CJ
       refine jT (eF CJ.f2 ((CJ).aJ) bH NS O O (by first | omega | (simp only [List.length_append, List.length_nil, List.length_cons]; omega) | (simp; omega)) (by first | omega | (simp only [List.length_append, List.length_nil, List.length_cons]; omega) | (simp; omega))) ?_
       rintro l16 w16 yG
       try simp only [List.nil_append] at yG
       refine iJ O (aY (dO qx O ?_))
       rw [Lib.encodeRuneZ_bad (by omega)]
       exact yG.f2.right
     ·(try simp only [aG] at h8)
      refine dB (dB (kP O O (iU O (yh (bT O (jT (jV (k := .u8) (l := [239, 191, 189]) H bH gZ mG O O O (by decide)) ?_))))))
      rintro l17 ZI DL
      refine jT (eF DL.f2 ((DL).aJ) bH NS O O (by first | omega | (simp only [List.length_append, List.length_nil, List.length_cons]; omega) | (simp; omega)) (by first | omega | (simp only [List.length_append, List.length_nil, List.length_cons]; omega) | (simp; omega))) ?_
      rintro l18 U5 DN
      try simp only [List.nil_append] at DN
      refine iJ O (aY (dO qx O ?_))
      rw [Lib.encodeRuneZ_bad (by omega)]
      exact DN.f2.right
   ·(try simp only [aG] at h6)
    refine dB (dB (kP O O (iU O (yh (bT O (aT (fZ O O) (nS O (fun h10 => ?_) (fun h10 => ?_))))))))
    ·(try simp only [aG] at h10)
     refine bJ (cO O (bJ (aT (xA O O) (mQ O O (iU O (dw O (fun h11 => ?_) (fun h11 => ?_)))))))
     ·(try simp only [aG] at h11)
      refine bT O (cO O (aT (zV 18 262144 (by decide) (by decide) O O) ?_))
      refine aT (jq O (by rw [underlying21]; rfl) bY) ?_
      refine aT (ny 4 16 (by decide) O O (by omega)) (cO O (aT (zV 12 4096 (by decide) (by decide) O O) ?_))
      refine aT (jq O (by rw [underlying21]; rfl) bY) ?_
      refine aT (jP 6 63 64 (by decide) (by decide) (by decide) O O (by omega)) (aT (ny 7 128 (by decide) O O (by omega)) (cO O (aT (zV 6 64 (by decide) (by decide) O O) ?_)))
      refine aT (jq O (by rw [underlying21]; rfl) bY) ?_
      refine aT (jP 6 63 64 (by decide) (by decide) (by decide) O O (by omega)) (aT (ny 7 128 (by decide) O O (by omega)) (cO O ?_))
      refine aT (jq O (by rw [underlying21]; rfl) bY) ?_
      refine aT (jP 6 63 64 (by decide) (by decide) (by decide) O O (by omega)) (aT (ny 7 128 (by decide) O O (by omega)) (jT (jV (k := .u8) (l := [_, _, _, _]) H bH gZ mG O O O (by decide)) ?_))
      rintro l19 X9 Df
      refine jT (eF Df.f2 ((Df).aJ) bH NS O O (by first | omega | (simp only [List.length_append, List.length_nil, List.length_cons]; omega) | (simp; omega)) (by first | omega | (simp only [List.length_append, List.length_nil, List.length_cons]; omega) | (simp; omega))) ?_
      rintro l20 ZJ DR
      try simp only [List.nil_append] at DR
      refine iJ O (aY (dO qx O ?_))
      rw [Lib.encodeRuneZ_four (by omega) (by omega)]
      have HX := DR.f2.right
      rw [show r / 262144 % 256 = r / 262144 from by omega, show r / 4096 % 256 % 64 = r / 4096 % 64 from by omega, show r / 64 % 256 % 64 = r / 64 % 64 from by omega, show r % 256 % 64 = r % 64 from by omega] at HX
      exact HX
     ·(try simp only [aG] at h11)
      refine bT O (jT (jV (k := .u8) (l := [239, 191, 189]) H bH gZ mG O O O (by decide)) ?_)
      rintro l21 Ya xZ
      refine jT (eF xZ.f2 ((xZ).aJ) bH NS O O (by first | omega | (simp only [List.length_append, List.length_nil, List.length_cons]; omega) | (simp; omega)) (by first | omega | (simp only [List.length_append, List.length_nil, List.length_cons]; omega) | (simp; omega))) ?_
      rintro l22 w22 FI
      try simp only [List.nil_append] at FI
      refine iJ O (aY (dO qx O ?_))
      rw [Lib.encodeRuneZ_bad (by omega)]
      exact FI.f2.right
    ·(try simp only [aG] at h10)
     refine dB (dB (kP O O (iU O (yh (bT O (jT (jV (k := .u8) (l := [239, 191, 189]) H bH gZ mG O O O (by decide)) ?_))))))
     rintro l23 Yb BM
     refine jT (eF BM.f2 ((BM).aJ) bH NS O O (by first | omega | (simp only [List.length_append, List.length_nil, List.length_cons]; omega) | (simp; omega)) (by first | omega | (simp only [List.length_append, List.length_nil, List.length_cons]; omega) | (simp; omega))) ?_
     rintro l24 w24 Hw
     try simp only [List.nil_append] at Hw
     refine iJ O (aY (dO qx O ?_))
     rw [Lib.encodeRuneZ_bad (by omega)]
     exact Hw.f2.right
end
section
variable {w0 w : World} {F : HP} {v : Value} {b l : List Int} {r x y : Int}
theorem NT (H : V w0 w (kF 5 .u8 v l • F)) (hl : l.length ≤ 70368744177664) (hw : -2147483648 ≤ r ∧ r < 2147483648) :
    iK prog 197 #[v, .int .i32 r] w fun v' w' => V w0 w' (kF 5 .u8 v' (l ++ Lib.encodeRuneZ r) • F) := by
  refine nO func197 ntmps197 ?_
  refine kG O (aI (bT O ?_))
  refine aT (Q7 O (by rw [underlying21]; rfl) underlying234) ?_
  refine aT (xA O O) (jo O (fun h1 => ?_) (fun h1 => ?_))
  · (try simp only [aG] at h1)
    refine bT O (cO O ?_)
    refine aT (jq O (by rw [underlying21]; rfl) bY) ?_
    refine jT (jV (k := .u8) (l := [_]) H bH gZ mG O O O (by decide)) ?_
    rintro l1 w1 H1
    refine jT (eF H1.f2 ((H1).aJ) bH NS O O (by first | omega | (simp only [List.length_append, List.length_nil, List.length_cons]; omega) | (simp; omega)) (by first | omega | (simp only [List.length_append, List.length_nil, List.length_cons]; omega) | (simp; omega))) ?_
    rintro l2 w2 H2
    try simp only [List.nil_append] at H2
    refine iJ O (aC (dO results197 O ?_))
    rw [Lib.encodeRuneZ_one (by omega) (by omega)]
    have HX := H2.f2.right
    rw [show r % 256 = r from by omega] at HX
    exact HX
  · (try simp only [aG] at h1)
    refine gX (bT O (cO O (fH O func203 (Zo H (by omega) (by omega) hw) ?_)))
    rintro u3 w3 H3
    refine iJ O (dO results197 O ?_)
    exact H3
theorem ae5 (hx : 0 ≤ x ∧ x < 256) : iK prog 199 #[.int .u8 x] w fun v w' => v = .int .i64 (kV x : Nat) ∧ w = w' := by
 refine jl func199 ntmps199 ?_
 refine kG O (aI (bK (bT O (aT (fJ O O) (iU O (dw O (fun h1 => ?_) (fun h1 => ?_)))))))
 ·(try simp only [aG] at h1)
  refine jE O (aY (aC (dO mZ O ?_)))
  exact ⟨by unfold kV; rw [if_pos (by omega)]; rfl, O⟩
 ·(try simp only [aG] at h1)
  refine bT O (aT (vT O O) (nS O (fun h2 => ?_) (fun h2 => ?_)))
  ·(try simp only [aG] at h2)
   refine bJ (cO O (bJ (aT (xA O O) (mQ O O (iU O (dw O (fun h3 => ?_) (fun h3 => ?_)))))))
   ·(try simp only [aG] at h3)
    refine jE O (aY (aC (dO mZ O ?_)))
    exact ⟨by unfold kV; rw [if_neg (by omega), if_pos (by omega)]; rfl, O⟩
   ·(try simp only [aG] at h3)
    refine bT O (aT (vT O O) (nS O (fun h4 => ?_) (fun h4 => ?_)))
    ·(try simp only [aG] at h4)
     refine bJ (cO O (bJ (aT (xA O O) (mQ O O (iU O (dw O (fun h5 => ?_) (fun h5 => ?_)))))))
     ·(try simp only [aG] at h5)
      refine jE O (aY (aC (dO mZ O ?_)))
      exact ⟨by unfold kV; rw [if_neg (by omega), if_neg (by omega), if_pos (by omega)]; rfl, O⟩
     ·(try simp only [aG] at h5)
      refine bT O (aT (vT O O) (nS O (fun h6 => ?_) (fun h6 => ?_)))
      ·(try simp only [aG] at h6)
       refine bJ (cO O (bJ (aT (xA O O) (mQ O O (iU O (dw O (fun h7 => ?_) (fun h7 => ?_)))))))
       ·(try simp only [aG] at h7)
        refine jE O (aY (aC (dO mZ O ?_)))
        exact ⟨by unfold kV; rw [if_neg (by omega), if_neg (by omega), if_neg (by omega), if_pos (by omega)]; rfl, O⟩
       ·(try simp only [aG] at h7)
        refine eG (aS (aZ (jE O (dO mZ O ?_))))
        exact ⟨by unfold kV; rw [if_neg (by omega), if_neg (by omega), if_neg (by omega), if_neg (by omega)]; rfl, O⟩
      ·(try simp only [aG] at h6)
       refine dB (dB (kP O O (iU O (yh (eG (aS (aZ (jE O (dO mZ O ?_)))))))))
       exact ⟨by unfold kV; rw [if_neg (by omega), if_neg (by omega), if_neg (by omega), if_neg (by omega)]; rfl, O⟩
    ·(try simp only [aG] at h4)
     refine dB (dB (kP O O (iU O (yh (bT O (aT (vT O O) (nS O (fun h8 => ?_) (fun h8 => ?_))))))))
     ·(try simp only [aG] at h8)
      refine bJ (cO O (bJ (aT (xA O O) (mQ O O (iU O (dw O (fun h9 => ?_) (fun h9 => ?_)))))))
      ·(try simp only [aG] at h9)
       refine jE O (aY (aC (dO mZ O ?_)))
       exact ⟨by unfold kV; rw [if_neg (by omega), if_neg (by omega), if_neg (by omega), if_pos (by omega)]; rfl, O⟩
      ·(try simp only [aG] at h9)
       refine eG (aS (aZ (jE O (dO mZ O ?_))))
       exact ⟨by unfold kV; rw [if_neg (by omega), if_neg (by omega), if_neg (by omega), if_neg (by omega)]; rfl, O⟩
     ·(try simp only [aG] at h8)
      refine dB (dB (kP O O (iU O (yh (eG (aS (aZ (jE O (dO mZ O ?_)))))))))
      exact ⟨by unfold kV; rw [if_neg (by omega), if_neg (by omega), if_neg (by omega), if_neg (by omega)]; rfl, O⟩
  ·(try simp only [aG] at h2)
   refine dB (dB (kP O O (iU O (yh (bT O (aT (vT O O) (nS O (fun h10 => ?_) (fun h10 => ?_))))))))
   ·(try simp only [aG] at h10)
    refine bJ (cO O (bJ (aT (xA O O) (mQ O O (iU O (dw O (fun h11 => ?_) (fun h11 => ?_)))))))
    ·(try simp only [aG] at h11)
     refine jE O (aY (aC (dO mZ O ?_)))
     exact ⟨by unfold kV; rw [if_neg (by omega), if_neg (by omega), if_pos (by omega)]; rfl, O⟩
    ·(try simp only [aG] at h11)
     refine bT O (aT (vT O O) (nS O (fun h12 => ?_) (fun h12 => ?_)))
     ·(try simp only [aG] at h12)
      refine bJ (cO O (bJ (aT (xA O O) (mQ O O (iU O (dw O (fun h13 => ?_) (fun h13 => ?_)))))))
      ·(try simp only [aG] at h13)
       refine jE O (aY (aC (dO mZ O ?_)))
       exact ⟨by unfold kV; rw [if_neg (by omega), if_neg (by omega), if_neg (by omega), if_pos (by omega)]; rfl, O⟩
      ·(try simp only [aG] at h13)
       refine eG (aS (aZ (jE O (dO mZ O ?_))))
       exact ⟨by unfold kV; rw [if_neg (by omega), if_neg (by omega), if_neg (by omega), if_neg (by omega)]; rfl, O⟩
     ·(try simp only [aG] at h12)
      refine dB (dB (kP O O (iU O (yh (eG (aS (aZ (jE O (dO mZ O ?_)))))))))
      exact ⟨by unfold kV; rw [if_neg (by omega), if_neg (by omega), if_neg (by omega), if_neg (by omega)]; rfl, O⟩
   ·(try simp only [aG] at h10)
    refine dB (dB (kP O O (iU O (yh (bT O (aT (vT O O) (nS O (fun h14 => ?_) (fun h14 => ?_))))))))
    ·(try simp only [aG] at h14)
     refine bJ (cO O (bJ (aT (xA O O) (mQ O O (iU O (dw O (fun h15 => ?_) (fun h15 => ?_)))))))
     ·(try simp only [aG] at h15)
      refine jE O (aY (aC (dO mZ O ?_)))
      exact ⟨by unfold kV; rw [if_neg (by omega), if_neg (by omega), if_neg (by omega), if_pos (by omega)]; rfl, O⟩
     ·(try simp only [aG] at h15)
      refine eG (aS (aZ (jE O (dO mZ O ?_))))
      exact ⟨by unfold kV; rw [if_neg (by omega), if_neg (by omega), if_neg (by omega), if_neg (by omega)]; rfl, O⟩
    ·(try simp only [aG] at h14)
     refine dB (dB (kP O O (iU O (yh (eG (aS (aZ (jE O (dO mZ O ?_)))))))))
     exact ⟨by unfold kV; rw [if_neg (by omega), if_neg (by omega), if_neg (by omega), if_neg (by omega)]; rfl, O⟩
theorem aa3 : iK prog 200 #[.int .u8 x, .int .u8 y] w fun v w' => v = .bool (decide (FZ x ≤ y ∧ y ≤ zK x)) ∧ w = w' := by
  refine nO func200 ntmps200 ?_
  refine kG O (kQ (lg O (vI O (bT O (iR (bK (kQ (aT (fA O O) (iU O (dw O (fun h1 => ?_) (fun h1 => ?_)))))))))))
  · (try simp only [aG] at h1)
    refine aF (lg O (dJ (aS (aZ (bT O (cO O (aT (vT O O) (nS O (fun h2 => ?_) (fun h2 => ?_)))))))))
    · (try simp only [aG] at h2)
      refine bJ (cO O (bJ (cO O (bJ (aT (xA O O) (mQ O O (iJ O (dO ug O ?_))))))))
      refine ⟨?_, O⟩
      congr 1
      symm
      unfold FZ zK
      first
        | (rw [decide_eq_true_eq]; repeat' split <;> omega)
        | (rw [decide_eq_false_iff_not]; repeat' split <;> omega)
        | (rw [decide_eq_decide]; repeat' split <;> omega)
    · (try simp only [aG] at h2)
      refine dB (dB (dB (kP O O (iJ O (dO ug O ?_)))))
      refine ⟨?_, O⟩
      congr 1
      symm
      unfold FZ zK
      first
        | (rw [decide_eq_true_eq]; repeat' split <;> omega)
        | (rw [decide_eq_false_iff_not]; repeat' split <;> omega)
        | (rw [decide_eq_decide]; repeat' split <;> omega)
  · (try simp only [aG] at h1)
    refine kQ (aT (fA O O) (iU O (dw O (fun h3 => ?_) (fun h3 => ?_))))
    · (try simp only [aG] at h3)
      refine aF (lg O (dJ (aS (aZ (bT O (cO O (aT (vT O O) (nS O (fun h4 => ?_) (fun h4 => ?_)))))))))
      · (try simp only [aG] at h4)
        refine bJ (cO O (bJ (cO O (bJ (aT (xA O O) (mQ O O (iJ O (dO ug O ?_))))))))
        refine ⟨?_, O⟩
        congr 1
        symm
        unfold FZ zK
        first
          | (rw [decide_eq_true_eq]; repeat' split <;> omega)
          | (rw [decide_eq_false_iff_not]; repeat' split <;> omega)
          | (rw [decide_eq_decide]; repeat' split <;> omega)
      · (try simp only [aG] at h4)
        refine dB (dB (dB (kP O O (iJ O (dO ug O ?_)))))
        refine ⟨?_, O⟩
        congr 1
        symm
        unfold FZ zK
        first
          | (rw [decide_eq_true_eq]; repeat' split <;> omega)
          | (rw [decide_eq_false_iff_not]; repeat' split <;> omega)
          | (rw [decide_eq_decide]; repeat' split <;> omega)
    · (try simp only [aG] at h3)
      refine kQ (aT (fA O O) (iU O (dw O (fun h5 => ?_) (fun h5 => ?_))))
      · (try simp only [aG] at h5)
        refine aF (lg O (dJ (aS (aZ (bT O (cO O (aT (vT O O) (nS O (fun h6 => ?_) (fun h6 => ?_)))))))))
        · (try simp only [aG] at h6)
          refine bJ (cO O (bJ (cO O (bJ (aT (xA O O) (mQ O O (iJ O (dO ug O ?_))))))))
          refine ⟨?_, O⟩
          congr 1
          symm
          unfold FZ zK
          first
            | (rw [decide_eq_true_eq]; repeat' split <;> omega)
            | (rw [decide_eq_false_iff_not]; repeat' split <;> omega)
            | (rw [decide_eq_decide]; repeat' split <;> omega)
        · (try simp only [aG] at h6)
          refine dB (dB (dB (kP O O (iJ O (dO ug O ?_)))))
          refine ⟨?_, O⟩
          congr 1
          symm
          unfold FZ zK
          first
            | (rw [decide_eq_true_eq]; repeat' split <;> omega)
            | (rw [decide_eq_false_iff_not]; repeat' split <;> omega)
            | (rw [decide_eq_decide]; repeat' split <;> omega)
      · (try simp only [aG] at h5)
        refine kQ (aT (fA O O) (iU O (dw O (fun h7 => ?_) (fun h7 => ?_))))
        · (try simp only [aG] at h7)
          refine aF (lg O (dJ (aS (aZ (bT O (cO O (aT (vT O O) (nS O (fun h8 => ?_) (fun h8 => ?_)))))))))
          · (try simp only [aG] at h8)
            refine bJ (cO O (bJ (cO O (bJ (aT (xA O O) (mQ O O (iJ O (dO ug O ?_))))))))
            refine ⟨?_, O⟩
            congr 1
            symm
            unfold FZ zK
            first
              | (rw [decide_eq_true_eq]; repeat' split <;> omega)
              | (rw [decide_eq_false_iff_not]; repeat' split <;> omega)
              | (rw [decide_eq_decide]; repeat' split <;> omega)
          · (try simp only [aG] at h8)
            refine dB (dB (dB (kP O O (iJ O (dO ug O ?_)))))
            refine ⟨?_, O⟩
            congr 1
            symm
            unfold FZ zK
            first
              | (rw [decide_eq_true_eq]; repeat' split <;> omega)
              | (rw [decide_eq_false_iff_not]; repeat' split <;> omega)
              | (rw [decide_eq_decide]; repeat' split <;> omega)
        · (try simp only [aG] at h7)
          refine eG (aS (aZ (bT O (cO O (aT (vT O O) (nS O (fun h9 => ?_) (fun h9 => ?_)))))))
          · (try simp only [aG] at h9)
            refine bJ (cO O (bJ (cO O (bJ (aT (xA O O) (mQ O O (iJ O (dO ug O ?_))))))))
            refine ⟨?_, O⟩
            congr 1
            symm
            unfold FZ zK
            first
              | (rw [decide_eq_true_eq]; repeat' split <;> omega)
              | (rw [decide_eq_false_iff_not]; repeat' split <;> omega)
              | (rw [decide_eq_decide]; repeat' split <;> omega)
          · (try simp only [aG] at h9)
            refine dB (dB (dB (kP O O (iJ O (dO ug O ?_)))))
            refine ⟨?_, O⟩
            congr 1
            symm
            unfold FZ zK
            first
              | (rw [decide_eq_true_eq]; repeat' split <;> omega)
              | (rw [decide_eq_false_iff_not]; repeat' split <;> omega)
              | (rw [decide_eq_decide]; repeat' split <;> omega)
end
section
variable {w0 w : World} {F : HP} {v : Value} {b l : List Int} {r x y : Int}
theorem ae6 (H : V w0 w F) (hv : jZ w0 F .u8 v b) (hb : Jv b) : iK prog 188 #[v] w fun v' w' => v' = .tuple #[.int .i64 ((nT b).1 : Nat), .int .i64 ((nT b).2 : Nat)] ∧ V w0 w' F := by
 have y0 := EM hb 0
 have hn4 := QZ (b.getD 0 0)
 obtain ⟨_, cv, _, hcv1, hcv2, _⟩ := (hv _ H).open
 refine jl func188 ntmps188 ?_
 refine kQ (lg O (vI O (bT O (aT (kT (hv _ (H)) bH O) (aT (fA O O) (jo O (fun h1 => ?_) (fun h1 => ?_)))))))
 ·(try simp only [aG] at h1)
  refine kQ (lg O (iJ O (aC (Fp wS O O ?_))))
  obtain rfl : b = [] := List.eq_nil_of_length_eq_zero (by omega)
  exact ⟨O, H⟩
 ·(try simp only [aG] at h1)
  refine gX (aI ?_)
  have hne : b ≠ [] := by rintro rfl; simp at h1
  refine aF (cO O ?_)
  obtain ⟨bv, ov, cv, ev⟩ := mP.qX (hv _ (H)) (by omega)
  cases ev
  refine aT (dP bH gZ O O (by omega)) (aT (fB (dG bY O) O (mP.XH 0 (hv _ (H)) (by omega))) (fH O func199 (ae5 (by omega)) ?_))
  rintro _ _ ⟨rfl, rfl⟩
  refine vI O (bT O (aT (fA O O) (jo O (fun h2 => ?_) (fun h2 => ?_))))
  ·(try simp only [aG] at h2)
   refine kQ (lg O (iJ O (aC (Fp wS O O ?_))))
   exact ⟨by rw [Q9 (by omega)]; rfl, H⟩
  ·(try simp only [aG] at h2)
   refine gX (kG O (aI (bK ?_)))
   refine jh [(0, _), (4, _)] (fun (k : Nat) => [(5, .int .i64 (k : Int))]) (fun (k : Nat) W => (1 ≤ k ∧ k ≤ kV (b.getD 0 0) ∧ k ≤ b.length ∧ zL b k = true) ∧ V w0 W F) (fun (k : Nat) => kV (b.getD 0 0) - k) (1) vV rJ ⟨⟨by omega, by omega, by omega, O⟩, H⟩ ?_
   rintro k w2 ⟨⟨k1, k2, k3, k4⟩, HL⟩
   dsimp only [List.cons_append, List.nil_append]
   refine aI (bT O (cO O (aT (fJ O O) (nS O (fun h3 => ?_) (fun h3 => ?_)))))
   ·(try simp only [aG] at h3)
    refine bJ (cO O (bJ (cO O (bJ (aT (kE bH O) (bJ (aT (fJ O O) (mQ O O (jo O (fun h4 => ?_) (fun h4 => ?_))))))))))
    ·(try simp only [aG] at h4)
     refine gX (bK (aI (aI ?_)))
     have hk1 : k < kV (b.getD 0 0) := by omega
     have hk2 : k < b.length := by omega
     have Xu := HL.drew
     have pX := V.kp (Xu)
     refine tH [5, 8, 16, 23] pX O (fM 0 O pX O (iE 1 O pX (fun _ => fA O O) ?_))
     refine rO 2 O O (by kernel_rfl) (by kernel_rfl) pX (iO O) (fun h5 => ?_) (fun h5 => ?_)
     ·(try simp only [aG] at h5)
      refine bQ 3 O O O (by kernel_rfl) (by kernel_rfl) pX (fun _ => oh O) (iO O) ?_
      refine bQ 4 O O O (by kernel_rfl) (by kernel_rfl) pX (fun _ => dP bH gZ O O (by omega)) (iO O) ?_
      refine jW 5 O O O (by kernel_rfl) (by kernel_rfl) pX (by decide) (fun W hW => fB (dG bY O) O (mP.XH 0 (hv _ ((Kp.h hW))) (by omega))) (iO O) ?_
      refine bQ 6 O O O (by kernel_rfl) (by kernel_rfl) pX (fun _ => oh O) (iO O) ?_
      refine bQ 7 O O O (by kernel_rfl) (by kernel_rfl) pX (fun _ => dP bH gZ O O (by omega)) (iO O) ?_
      refine jW 8 O O O (by kernel_rfl) (by kernel_rfl) pX (by decide) (fun W hW => fB (dG bY O) O (mP.XH 1 (hv _ ((Kp.h hW))) (by omega))) (iO O) ?_
      refine kJ 9 O O O (by kernel_rfl) (nM (nX O func200 O O) (aa3)) (iO O) ?_
      rintro _ _ ⟨rfl, rfl⟩
      have lW := V.kp (Xu)
      refine dX lW (by kernel_rfl) ?_
      refine bQ 10 O O O (by kernel_rfl) (by kernel_rfl) lW (fun _ => jG O) (iO O) ?_
      refine iE 11 O lW (fun _ => oP O O) ?_
      refine rO 12 O O (by kernel_rfl) (by kernel_rfl) lW (iO O) (fun h6 => ?_) (fun h6 => ?_)
      ·(try simp only [aG] at h6)
       refine jB 13 O O O O (by kernel_rfl) (by kernel_rfl) lW (iO O) ?_
       refine jB 14 O O O O (by kernel_rfl) (by kernel_rfl) lW (iO O) ?_
       refine jB 15 O O O O (by kernel_rfl) (by kernel_rfl) lW (iO O) ?_
       refine jB 16 O O O O (by kernel_rfl) (by kernel_rfl) lW (iO O) ?_
       refine jB 17 O O O O (by kernel_rfl) (by kernel_rfl) lW (iO O) ?_
       refine iE 18 O lW (fun _ => oP O O) (fM 19 O lW O ?_)
       refine jB 20 O O O O (by kernel_rfl) (by kernel_rfl) lW (iO O) ?_
       refine jB 21 O O O O (by kernel_rfl) (by kernel_rfl) lW (iO O) ?_
       refine jB 22 O O O O (by kernel_rfl) (by kernel_rfl) lW (iO O) ?_
       refine jB 23 O O O O (by kernel_rfl) (by kernel_rfl) lW (iO O) ?_
       refine jB 24 O O O O (by kernel_rfl) (by kernel_rfl) lW (iO O) ?_
       refine iE 25 O lW (fun _ => oP O O) (oH (aZ (DZ (aI ?_))))
       have hbad : CG b k = false := by first | exact VW k1 (by omega) | (obtain rfl : k = 1 := (by omega); exact Z9 (by omega))
       refine aF (cO O (lg O (iJ O (aC (aY (aC (aY (aC (Fp wS O O ?_)))))))))
       exact ⟨by rw [Eu hk1 hbad hk2]; rfl, Xu⟩
      ·(try simp only [aG] at h6)
       refine bQ 13 O O O (by kernel_rfl) (by kernel_rfl) lW (fun _ => oh O) (iO O) ?_
       refine bQ 14 O O O (by kernel_rfl) (by kernel_rfl) lW (fun _ => oh O) (iO O) ?_
       refine bQ 15 O O O (by kernel_rfl) (by kernel_rfl) lW (fun _ => dP bH gZ O O (by omega)) (iO O) ?_
       refine jW 16 O O O (by kernel_rfl) (by kernel_rfl) lW (by decide) (fun W hW => fB (dG bY O) O (by first | exact mP.yc (hv _ ((Kp.h hW))) (by omega) | exact mP.I8 (hv _ ((Kp.h hW))) (by omega) | exact mP.Ib (hv _ ((Kp.h hW))) (by omega))) (iO O) ?_
       refine bQ 17 O O O (by kernel_rfl) (by kernel_rfl) lW (fun _ => fJ O O) (iO O) ?_
       refine iE 18 O lW (fun _ => y5 O O) ?_
       refine rO 19 O O (by kernel_rfl) (by kernel_rfl) lW (iO O) (fun h7 => ?_) (fun h7 => ?_)
       ·(try simp only [aG] at h7)
        refine jB 20 O O O O (by kernel_rfl) (by kernel_rfl) lW (iO O) ?_
        refine jB 21 O O O O (by kernel_rfl) (by kernel_rfl) lW (iO O) ?_
        refine jB 22 O O O O (by kernel_rfl) (by kernel_rfl) lW (iO O) ?_
        refine jB 23 O O O O (by kernel_rfl) (by kernel_rfl) lW (iO O) ?_
        refine jB 24 O O O O (by kernel_rfl) (by kernel_rfl) lW (iO O) ?_
        refine iE 25 O lW (fun _ => oP O O) (oH (aZ (DZ (aI ?_))))
        have hbad : CG b k = false := by first | exact VW k1 (by omega) | (obtain rfl : k = 1 := (by omega); exact Z9 (by omega))
        refine aF (cO O (lg O (iJ O (aC (aY (aC (aY (aC (Fp wS O O ?_)))))))))
        exact ⟨by rw [Eu hk1 hbad hk2]; rfl, Xu⟩
       ·(try simp only [aG] at h7)
        refine bQ 20 O O O (by kernel_rfl) (by kernel_rfl) lW (fun _ => oh O) (iO O) ?_
        refine bQ 21 O O O (by kernel_rfl) (by kernel_rfl) lW (fun _ => oh O) (iO O) ?_
        refine bQ 22 O O O (by kernel_rfl) (by kernel_rfl) lW (fun _ => dP bH gZ O O (by omega)) (iO O) ?_
        refine jW 23 O O O (by kernel_rfl) (by kernel_rfl) lW (by decide) (fun W hW => fB (dG bY O) O (by first | exact mP.yc (hv _ ((Kp.h hW))) (by omega) | exact mP.I8 (hv _ ((Kp.h hW))) (by omega) | exact mP.Ib (hv _ ((Kp.h hW))) (by omega))) (iO O) ?_
        refine bQ 24 O O O (by kernel_rfl) (by kernel_rfl) lW (fun _ => fZ O O) (iO O) ?_
        refine iE 25 O lW (fun _ => y5 O O) (oH (aZ (dw O (fun h8 => ?_) (fun h8 => ?_))))
        ·(try simp only [aG] at h8)
         refine aI ?_
         have hbad : CG b k = false := by first | exact VW k1 (by omega) | (obtain rfl : k = 1 := (by omega); exact Z9 (by omega))
         refine aF (cO O (lg O (iJ O (aC (aY (aC (aY (aC (Fp wS O O ?_)))))))))
         exact ⟨by rw [Eu hk1 hbad hk2]; rfl, Xu⟩
        ·(try simp only [aG] at h8)
         refine gX ?_
         have hok : CG b k = true := by first | exact okj (by omega) (by omega) | (obtain rfl : k = 1 := (by omega); exact ok1 (by omega) (by omega))
         have hgood : zL b (k + 1) = true := by simp only [zL, k4, hok, Bool.and_true]
         refine aF (cO O (aT (gY O O (by omega)) (lg O (dJ (aS ?_)))))
         refine fG (k + 1) ?_ ?_ ?_ ?_
         ·exact rJ
         ·exact vV
         ·(try dsimp only)
          first | done | exact ⟨⟨by omega, by omega, by omega, hgood⟩, Xu⟩
         ·(try dsimp only); omega
     ·(try simp only [aG] at h5)
      refine jB 3 O O O O (by kernel_rfl) (by kernel_rfl) pX (iO O) ?_
      refine jB 4 O O O O (by kernel_rfl) (by kernel_rfl) pX (iO O) ?_
      refine jB 5 O O O O (by kernel_rfl) (by kernel_rfl) pX (iO O) ?_
      refine jB 6 O O O O (by kernel_rfl) (by kernel_rfl) pX (iO O) ?_
      refine jB 7 O O O O (by kernel_rfl) (by kernel_rfl) pX (iO O) ?_
      refine jB 8 O O O O (by kernel_rfl) (by kernel_rfl) pX (iO O) ?_
      refine jB 9 O O O O (by kernel_rfl) (by kernel_rfl) pX (iO O) ?_
      refine jB 10 O O O O (by kernel_rfl) (by kernel_rfl) pX (iO O) ?_
      refine iE 11 O pX (fun _ => y5 O O) (fM 12 O pX O ?_)
      refine bQ 13 O O O (by kernel_rfl) (by kernel_rfl) pX (fun _ => oh O) (iO O) ?_
      refine bQ 14 O O O (by kernel_rfl) (by kernel_rfl) pX (fun _ => oh O) (iO O) ?_
      refine bQ 15 O O O (by kernel_rfl) (by kernel_rfl) pX (fun _ => dP bH gZ O O (by omega)) (iO O) ?_
      refine jW 16 O O O (by kernel_rfl) (by kernel_rfl) pX (by decide) (fun W hW => fB (dG bY O) O (by first | exact mP.yc (hv _ ((Kp.h hW))) (by omega) | exact mP.I8 (hv _ ((Kp.h hW))) (by omega) | exact mP.Ib (hv _ ((Kp.h hW))) (by omega))) (iO O) ?_
      refine bQ 17 O O O (by kernel_rfl) (by kernel_rfl) pX (fun _ => fJ O O) (iO O) ?_
      refine iE 18 O pX (fun _ => y5 O O) ?_
      refine rO 19 O O (by kernel_rfl) (by kernel_rfl) pX (iO O) (fun h9 => ?_) (fun h9 => ?_)
      ·(try simp only [aG] at h9)
       refine jB 20 O O O O (by kernel_rfl) (by kernel_rfl) pX (iO O) ?_
       refine jB 21 O O O O (by kernel_rfl) (by kernel_rfl) pX (iO O) ?_
       refine jB 22 O O O O (by kernel_rfl) (by kernel_rfl) pX (iO O) ?_
       refine jB 23 O O O O (by kernel_rfl) (by kernel_rfl) pX (iO O) ?_
       refine jB 24 O O O O (by kernel_rfl) (by kernel_rfl) pX (iO O) ?_
       refine iE 25 O pX (fun _ => oP O O) (oH (aZ (DZ (aI ?_))))
       have hbad : CG b k = false := by first | exact VW k1 (by omega) | (obtain rfl : k = 1 := (by omega); exact Z9 (by omega))
       refine aF (cO O (lg O (iJ O (aC (aY (aC (aY (aC (Fp wS O O ?_)))))))))
       exact ⟨by rw [Eu hk1 hbad hk2]; rfl, Xu⟩
      ·(try simp only [aG] at h9)
       refine bQ 20 O O O (by kernel_rfl) (by kernel_rfl) pX (fun _ => oh O) (iO O) ?_
       refine bQ 21 O O O (by kernel_rfl) (by kernel_rfl) pX (fun _ => oh O) (iO O) ?_
       refine bQ 22 O O O (by kernel_rfl) (by kernel_rfl) pX (fun _ => dP bH gZ O O (by omega)) (iO O) ?_
       refine jW 23 O O O (by kernel_rfl) (by kernel_rfl) pX (by decide) (fun W hW => fB (dG bY O) O (by first | exact mP.yc (hv _ ((Kp.h hW))) (by omega) | exact mP.I8 (hv _ ((Kp.h hW))) (by omega) | exact mP.Ib (hv _ ((Kp.h hW))) (by omega))) (iO O) ?_
       refine bQ 24 O O O (by kernel_rfl) (by kernel_rfl) pX (fun _ => fZ O O) (iO O) ?_
       refine iE 25 O pX (fun _ => y5 O O) (oH (aZ (dw O (fun h10 => ?_) (fun h10 => ?_))))
       ·(try simp only [aG] at h10)
        refine aI ?_
        have hbad : CG b k = false := by first | exact VW k1 (by omega) | (obtain rfl : k = 1 := (by omega); exact Z9 (by omega))
        refine aF (cO O (lg O (iJ O (aC (aY (aC (aY (aC (Fp wS O O ?_)))))))))
        exact ⟨by rw [Eu hk1 hbad hk2]; rfl, Xu⟩
       ·(try simp only [aG] at h10)
        refine gX ?_
        have hok : CG b k = true := by first | exact okj (by omega) (by omega) | (obtain rfl : k = 1 := (by omega); exact ok1 (by omega) (by omega))
        have hgood : zL b (k + 1) = true := by simp only [zL, k4, hok, Bool.and_true]
        refine aF (cO O (aT (gY O O (by omega)) (lg O (dJ (aS ?_)))))
        refine fG (k + 1) ?_ ?_ ?_ ?_
        ·exact rJ
        ·exact vV
        ·(try dsimp only)
         first | done | exact ⟨⟨by omega, by omega, by omega, hgood⟩, Xu⟩
        ·(try dsimp only); omega
    ·(try simp only [aG] at h4)
     refine iZ (bC (bC (dK (aZ (bT O (cO O (lg O (iJ O (Fp wS O O ?_)))))))))
     refine ⟨?_, HL⟩
     have hm : min (kV (b.getD 0 0)) b.length = k := by omega
     rw [Q8 hne (by omega) (by rw [hm]; exact k4), hm]
   ·(try simp only [aG] at h3)
    refine dB (dB (dB (dB (kP O O (iR (yh (iZ (bC (bC (dK (aZ (bT O (cO O (lg O (iJ O (Fp wS O O ?_))))))))))))))))
    refine ⟨?_, HL⟩
    have hm : min (kV (b.getD 0 0)) b.length = k := by omega
    rw [Q8 hne (by omega) (by rw [hm]; exact k4), hm]
theorem acX (H : V w0 w F) (hv : jZ w0 F .u8 v b) (hb : Jv b) (hl : 1 ≤ b.length ∧ b.length ≤ 4) : iK prog 189 #[v] w fun v' w' => v' = .int .i32 (KE b b.length) ∧ V w0 w' F := by
 have y0 := EM hb 0
 have y1 := EM hb 1
 have y2 := EM hb 2
 have y3 := EM hb 3
 refine jl func189 ntmps189 ?_
 refine kG O (aI (bT O (aT (kT (hv _ (H)) bH O) (iR (bK (kQ (aT (fA O O) (iU O (dw O (fun h1 => ?_) (fun h1 => ?_))))))))))
 ·(try simp only [aG] at h1)
  refine bT O ?_
  obtain ⟨bv, ov, cv, ev⟩ := mP.qX (hv _ (H)) (by omega)
  cases ev
  refine aT (dP bH gZ O O (by omega)) (aT (fB (dG bY O) O (mP.XH 0 (hv _ (H)) (by omega))) ?_)
  refine aT (kH O (by rw [underlying5]; rfl) fO (lq (by omega))) ?_
  refine iJ O (aY (aC (dO results189 O ?_)))
  exact ⟨by unfold KE; rw [if_pos (by omega)], H⟩
 ·(try simp only [aG] at h1)
  refine kQ (aT (fA O O) (iU O (dw O (fun h2 => ?_) (fun h2 => ?_))))
  ·(try simp only [aG] at h2)
   refine aI ?_
   have aa4 := H.drew
   have yA := V.kp (aa4)
   refine tH [2, 8] yA O (fM 0 O yA O ?_)
   obtain ⟨bv, ov, cv, ev⟩ := mP.qX (hv _ (aa4)) (by omega)
   cases ev
   refine iE 1 O yA (fun _ => dP bH gZ O O (by omega)) (iD 2 O yA (fun W hW => fB (dG bY O) O (mP.XH 0 (hv _ ((Kp.h hW))) (by omega))) (iE 3 O yA (fun _ => jP 5 31 32 (by decide) (by decide) (by decide) O O (by omega)) ?_))
   refine iE 4 O yA (fun _ => kH O (by rw [underlying5]; rfl) fO (lq (by omega))) ?_
   refine iE 5 O yA (fun _ => I9 6 64 (by decide) (by decide) O O (lq (by omega))) (fM 6 O yA O (iE 7 O yA (fun _ => dP bH gZ O O (by omega)) (iD 8 O yA (fun W hW => fB (dG bY O) O (mP.XH 1 (hv _ ((Kp.h hW))) (by omega))) (iE 9 O yA (fun _ => jP 6 63 64 (by decide) (by decide) (by decide) O O (by omega)) ?_))))
   refine iE 10 O yA (fun _ => kH O (by rw [underlying5]; rfl) fO (lq (by omega))) ?_
   refine iE 11 O yA (fun _ => yM 6 64 (by decide) O O (by omega)) (iE 12 O yA (fun _ => eH O) (oH (aZ (kN (aY (aC (dO results189 O ?_)))))))
   exact ⟨by unfold KE; rw [if_neg (by omega), if_pos (by omega)], aa4⟩
  ·(try simp only [aG] at h2)
   refine kQ (aT (fA O O) (iU O (dw O (fun h3 => ?_) (fun h3 => ?_))))
   ·(try simp only [aG] at h3)
    refine aI ?_
    have aiy := H.drew
    have Af := V.kp (aiy)
    refine tH [2, 8, 15] Af O (fM 0 O Af O ?_)
    obtain ⟨bv, ov, cv, ev⟩ := mP.qX (hv _ (aiy)) (by omega)
    cases ev
    refine iE 1 O Af (fun _ => dP bH gZ O O (by omega)) (iD 2 O Af (fun W hW => fB (dG bY O) O (mP.XH 0 (hv _ ((Kp.h hW))) (by omega))) (iE 3 O Af (fun _ => jP 4 15 16 (by decide) (by decide) (by decide) O O (by omega)) ?_))
    refine iE 4 O Af (fun _ => kH O (by rw [underlying5]; rfl) fO (lq (by omega))) ?_
    refine iE 5 O Af (fun _ => I9 12 4096 (by decide) (by decide) O O (lq (by omega))) (fM 6 O Af O (iE 7 O Af (fun _ => dP bH gZ O O (by omega)) (iD 8 O Af (fun W hW => fB (dG bY O) O (mP.XH 1 (hv _ ((Kp.h hW))) (by omega))) (iE 9 O Af (fun _ => jP 6 63 64 (by decide) (by decide) (by decide) O O (by omega)) ?_))))
    refine iE 10 O Af (fun _ => kH O (by rw [underlying5]; rfl) fO (lq (by omega))) ?_
    refine iE 11 O Af (fun _ => I9 6 64 (by decide) (by decide) O O (lq (by omega))) (iE 12 O Af (fun _ => yM 12 4096 (by decide) O O (by omega)) (fM 13 O Af O (iE 14 O Af (fun _ => dP bH gZ O O (by omega)) (iD 15 O Af (fun W hW => fB (dG bY O) O (mP.XH 2 (hv _ ((Kp.h hW))) (by omega))) (iE 16 O Af (fun _ => jP 6 63 64 (by decide) (by decide) (by decide) O O (by omega)) ?_)))))
    refine iE 17 O Af (fun _ => kH O (by rw [underlying5]; rfl) fO (lq (by omega))) ?_
    refine iE 18 O Af (fun _ => yM 6 64 (by decide) O O (by omega)) (iE 19 O Af (fun _ => eH O) (oH (aZ (kN (aY (aC (dO results189 O ?_)))))))
    exact ⟨by unfold KE; rw [if_neg (by omega), if_neg (by omega), if_pos (by omega)], aiy⟩
   ·(try simp only [aG] at h3)
    refine eG (aS (aZ (aI ?_)))
    have aiz := H.drew
    have xB := V.kp (aiz)
    refine tH [2, 8, 15, 22] xB O (fM 0 O xB O ?_)
    obtain ⟨bv, ov, cv, ev⟩ := mP.qX (hv _ (aiz)) (by omega)
    cases ev
    refine iE 1 O xB (fun _ => dP bH gZ O O (by omega)) (iD 2 O xB (fun W hW => fB (dG bY O) O (mP.XH 0 (hv _ ((Kp.h hW))) (by omega))) (iE 3 O xB (fun _ => jP 3 7 8 (by decide) (by decide) (by decide) O O (by omega)) ?_))
    refine iE 4 O xB (fun _ => kH O (by rw [underlying5]; rfl) fO (lq (by omega))) ?_
    refine iE 5 O xB (fun _ => I9 18 262144 (by decide) (by decide) O O (lq (by omega))) (fM 6 O xB O (iE 7 O xB (fun _ => dP bH gZ O O (by omega)) (iD 8 O xB (fun W hW => fB (dG bY O) O (mP.XH 1 (hv _ ((Kp.h hW))) (by omega))) (iE 9 O xB (fun _ => jP 6 63 64 (by decide) (by decide) (by decide) O O (by omega)) ?_))))
    refine iE 10 O xB (fun _ => kH O (by rw [underlying5]; rfl) fO (lq (by omega))) ?_
    refine iE 11 O xB (fun _ => I9 12 4096 (by decide) (by decide) O O (lq (by omega))) (iE 12 O xB (fun _ => yM 18 262144 (by decide) O O (by omega)) (fM 13 O xB O (iE 14 O xB (fun _ => dP bH gZ O O (by omega)) (iD 15 O xB (fun W hW => fB (dG bY O) O (mP.XH 2 (hv _ ((Kp.h hW))) (by omega))) (iE 16 O xB (fun _ => jP 6 63 64 (by decide) (by decide) (by decide) O O (by omega)) ?_)))))
    refine iE 17 O xB (fun _ => kH O (by rw [underlying5]; rfl) fO (lq (by omega))) ?_
    refine iE 18 O xB (fun _ => I9 6 64 (by decide) (by decide) O O (lq (by omega))) (iE 19 O xB (fun _ => yM 12 4096 (by decide) O O (by omega)) (fM 20 O xB O (iE 21 O xB (fun _ => dP bH gZ O O (by omega)) (iD 22 O xB (fun W hW => fB (dG bY O) O (mP.XH 3 (hv _ ((Kp.h hW))) (by omega))) (iE 23 O xB (fun _ => jP 6 63 64 (by decide) (by decide) (by decide) O O (by omega)) ?_)))))
    refine iE 24 O xB (fun _ => kH O (by rw [underlying5]; rfl) fO (lq (by omega))) ?_
    refine iE 25 O xB (fun _ => yM 6 64 (by decide) O O (by omega)) (iE 26 O xB (fun _ => eH O) (oH (aZ (kN (dO results189 O ?_)))))
    exact ⟨by unfold KE; rw [if_neg (by omega), if_neg (by omega), if_neg (by omega)], aiz⟩
theorem ae7 (H : V w0 w F) (hw : -2147483648 ≤ r ∧ r < 2147483648) : iK prog 198 #[.int .i32 r] w fun v' w' => V w0 w' (kF 5 .u8 v' (Lib.encodeRuneZ r) • F) := by
 refine jl func198 ntmps198 ?_
 refine kG O ?_
 refine yV [] (fun (q : Int) => [(0, .int .i32 q)]) (fun (q : Int) W => ((0 ≤ q ∧ q < 55296 ∨ 57343 < q ∧ q ≤ 1114111) ∧ Lib.encodeRuneZ r = Lib.encodeRuneZ q) ∧ V w0 W F) (Sub.nil _) ?_ ?_
 ·rintro q w1 ⟨⟨hq1, hq2⟩, HJ⟩
  dsimp only [List.cons_append, List.nil_append]
  rw [hq2]
  refine aI (bK (bT O (aT (fJ O O) (iU O (dw O (fun h1 => ?_) (fun h1 => ?_))))))
  ·(try simp only [aG] at h1)
   refine bT O ?_
   refine aT (jq O (by rw [underlying21]; rfl) bY) ?_
   refine jT (jV (k := .u8) (l := [_]) HJ bH gZ mG O O O (by decide)) ?_
   rintro l2 w2 H2
   refine iJ O (aY (aC (dO results198 O ?_)))
   rw [Lib.encodeRuneZ_one (by omega) (by omega)]
   have HX := H2
   rw [show q % 256 = q from by omega] at HX
   exact HX
  ·(try simp only [aG] at h1)
   refine bT O (aT (fJ O O) (iU O (dw O (fun h2 => ?_) (fun h2 => ?_))))
   ·(try simp only [aG] at h2)
    refine bT O (aT (zV 6 64 (by decide) (by decide) O O) ?_)
    refine aT (jq O (by rw [underlying21]; rfl) bY) ?_
    refine aT (ny 6 64 (by decide) O O (by omega)) (cO O (aT (Et 6 63 64 (by decide) (by decide) (by decide) O O (by omega)) ?_))
    refine aT (jq O (by rw [underlying21]; rfl) bY) ?_
    refine aT (ny 7 128 (by decide) O O (by omega)) (jT (jV (k := .u8) (l := [_, _]) HJ bH gZ mG O O O (by decide)) ?_)
    rintro l3 w3 H3
    refine iJ O (aY (aC (dO results198 O ?_)))
    rw [Lib.encodeRuneZ_two (by omega) (by omega)]
    have HX := H3
    rw [show q / 64 % 256 = q / 64 from by omega, show q % 64 % 256 = q % 64 from by omega] at HX
    exact HX
   ·(try simp only [aG] at h2)
    refine bT O (aT (fJ O O) (iU O (dw O (fun h3 => ?_) (fun h3 => ?_))))
    ·(try simp only [aG] at h3)
     refine bT O (aT (zV 12 4096 (by decide) (by decide) O O) ?_)
     refine aT (jq O (by rw [underlying21]; rfl) bY) ?_
     refine aT (ny 5 32 (by decide) O O (by omega)) (cO O (aT (zV 6 64 (by decide) (by decide) O O) (aT (Et 6 63 64 (by decide) (by decide) (by decide) O O (by omega)) ?_)))
     refine aT (jq O (by rw [underlying21]; rfl) bY) ?_
     refine aT (ny 7 128 (by decide) O O (by omega)) (cO O (aT (Et 6 63 64 (by decide) (by decide) (by decide) O O (by omega)) ?_))
     refine aT (jq O (by rw [underlying21]; rfl) bY) ?_
     refine aT (ny 7 128 (by decide) O O (by omega)) (jT (jV (k := .u8) (l := [_, _, _]) HJ bH gZ mG O O O (by decide)) ?_)
     rintro l4 w4 H4
     refine iJ O (aY (aC (dO results198 O ?_)))
     rw [Lib.encodeRuneZ_three (by omega)]
     have HX := H4
     rw [show q / 4096 % 256 = q / 4096 from by omega, show q / 64 % 64 % 256 = q / 64 % 64 from by omega, show q % 64 % 256 = q % 64 from by omega] at HX
     exact HX
    ·(try simp only [aG] at h3)
     refine eG (aS (aZ (bT O (aT (zV 18 262144 (by decide) (by decide) O O) ?_))))
     refine aT (jq O (by rw [underlying21]; rfl) bY) ?_
     refine aT (ny 4 16 (by decide) O O (by omega)) (cO O (aT (zV 12 4096 (by decide) (by decide) O O) (aT (Et 6 63 64 (by decide) (by decide) (by decide) O O (by omega)) ?_)))
     refine aT (jq O (by rw [underlying21]; rfl) bY) ?_
     refine aT (ny 7 128 (by decide) O O (by omega)) (cO O (aT (zV 6 64 (by decide) (by decide) O O) (aT (Et 6 63 64 (by decide) (by decide) (by decide) O O (by omega)) ?_)))
     refine aT (jq O (by rw [underlying21]; rfl) bY) ?_
     refine aT (ny 7 128 (by decide) O O (by omega)) (cO O (aT (Et 6 63 64 (by decide) (by decide) (by decide) O O (by omega)) ?_))
     refine aT (jq O (by rw [underlying21]; rfl) bY) ?_
     refine aT (ny 7 128 (by decide) O O (by omega)) (jT (jV (k := .u8) (l := [_, _, _, _]) HJ bH gZ mG O O O (by decide)) ?_)
     rintro l5 w5 H5
     refine iJ O (dO results198 O ?_)
     rw [Lib.encodeRuneZ_four (by omega) (by omega)]
     have HX := H5
     rw [show q / 262144 % 256 = q / 262144 from by omega, show q / 4096 % 64 % 256 = q / 4096 % 64 from by omega, show q / 64 % 64 % 256 = q / 64 % 64 from by omega, show q % 64 % 256 = q % 64 from by omega] at HX
     exact HX
 ·skip
  refine bT O (fH O func204 (Xt) ?_)
  rintro _ _ ⟨rfl, rfl⟩
  refine aT (jG O) (jo O (fun h4 => ?_) (fun h4 => ?_))
  ·(try simp only [aG] at h4)
   have hval : lD r = false := by simpa using h4
   refine aF (lg O (dJ ?_))
   refine ji (_) rJ (Sub.nil _) (by (try dsimp only); exact ⟨⟨by omega, by first | rfl | (rw [OO hval]; rfl)⟩, H⟩)
  ·(try simp only [aG] at h4)
   have hval : lD r = true := by simpa using h4
   have ahg := hval
   unfold lD at ahg
   simp only [decide_eq_true_eq] at ahg
   refine eG ?_
   refine ji (_) rJ (Sub.nil _) (by (try dsimp only); exact ⟨⟨by omega, by first | rfl | (rw [OO hval]; rfl)⟩, H⟩)
end
end Go.Proofs.YtnhhmieghbfalaaGreatDoor
end
