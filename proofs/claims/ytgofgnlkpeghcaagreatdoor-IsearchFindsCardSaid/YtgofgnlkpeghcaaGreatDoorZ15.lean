import Derived.Test.YtgofgnlkpeghcaaGreatDoorZ4
import Derived.Test.YtgofgnlkpeghcaaGreatDoorZ5
import Derived.Test.YtgofgnlkpeghcaaGreatDoorZ14
set_option linter.unusedSimpArgs false
set_option linter.unusedVariables false
/- Texts of mine, joined, their names in short: Utf2 Utf3 Utf4. -/
section
namespace Go.Proofs.YtgofgnlkpeghcaaGreatDoor
open Go.RowKit
open _root_.Go.Proofs.Tryz
theorem J6 {r : Int} (h : kN r = false) : Lib.encodeRuneZ r = [239, 191, 189] := Lib.encodeRuneZ_bad (by
  unfold kN at h
  simp only [decide_eq_false_iff_not] at h
  omega)
section
variable {w0 w : World} {F : HP} {v : Value} {b l : List Int} {r x y : Int}
theorem W9 (H : V w0 w F) (hT : Cj w0) (hv : jm w0 F .u8 v b) (hb : GY b) (hne : b ≠ []) : iM prog 82 #[v] w fun v' w' => v' = .tuple #[.int .i32 (rX b).1, .int .i64 ((rX b).2 : Nat)] ∧ V w0 w' F := by
 have hl := List.length_pos_iff.2 hne
 have y0 := C9 hb 0
 refine iQ func82 ntmps82 ?_
 refine jw (iC O (sS O (bY O (aW (jJ (hv _ (H)) bf O) (bT O (jd (bg ?_)))))))
 obtain ⟨av, cv, ev, -⟩ := jP.open (hv _ (H))
 subst ev
 refine gq [(0, _), (6, _), (7, _)] (fun (k : Nat) => [(8, .int .i64 (k : Int))]) (fun (k : Nat) W => k = 0 ∧ V w0 W F) (fun (k : Nat) => 0) (0) Du oO ⟨O, H⟩ ?_
 rintro k w2 ⟨rfl, HL⟩
 dsimp only [List.cons_append, List.nil_append]
 refine jw (aW (fG O O) (rV (wcA O (fun h1 => ?_))))
 (try simp only [aF] at h1)
 refine iy (aO (bg (jw ?_)))
 obtain ⟨bv, ov, rfl⟩ := jP.pos (hv _ (HL)) (by omega)
 refine aW (dD bf eP O O (by omega)) ?_
 refine aW (eG (dn bD O) O (by first | exact jP.sO (hv _ (HL)) (by omega) | exact jP.EF (hv _ (HL)) (by omega) | exact jP.Ey (hv _ (HL)) (by omega))) ?_
 simp only [Int.natCast_zero]
 refine sS O (bY O (aW (fG O O) (jv O (fun h2 => ?_) (fun h2 => ?_))))
 ·(try simp only [aF] at h2)
  refine bY O ?_
  refine aW (iZ O (by rw [underlying5]; rfl) dM (jC (by omega))) ?_
  refine iC O (ig O (aC (aX (aC (aC (aX (aC (Dw results82 O O ?_))))))))
  exact ⟨by rw [NM hne (by omega)]; rfl, HL⟩
 ·(try simp only [aF] at h2)
  refine iy (eH ?_)
  refine vT (by decide) ?_
  refine aT (aT (bU (aZ (bY O (fE O func129 (aam HL hT (fun W HW => hv _ (HW)) (by assumption) (by assumption)) ?_)))))
  rintro _ w3 ⟨rfl, H3⟩
  refine bT O (sD O O (sD O O (iC O (ig O (Dw results82 O O ?_)))))
  exact ⟨O, H3⟩
theorem Vb (H : V w0 w (jR 5 .u8 v l • F)) (hl : l.length ≤ 70368744177664) (hr : ¬ (0 ≤ r ∧ r ≤ 127)) (hw : -2147483648 ≤ r ∧ r < 2147483648) :
  iM prog 161 #[v, .int .i32 r] w fun v' w' => V w0 w' (jR 5 .u8 v' (l ++ Lib.encodeRuneZ r) • F) := by
 refine qI func161 ntmps161 ?_
 refine kQ O (bY O ?_)
 refine aW (NI O (by rw [underlying21]; rfl) underlying237) ?_
 refine iP O (bg (bY O (aW (qc O O) (iP O (dA O (fun h1 => ?_) (fun h1 => ?_))))))
 ·(try simp only [aF] at h1)
  refine bY O (bT O (aW (vW 6 64 (by decide) (by decide) O O) ?_))
  refine aW (iq O (by rw [underlying21]; rfl) bD) ?_
  refine aW (kS 6 64 (by decide) O O (by omega)) (bT O ?_)
  refine aW (iq O (by rw [underlying21]; rfl) bD) ?_
  refine aW (iR 6 63 64 (by decide) (by decide) (by decide) O O (by omega)) (aW (kS 7 128 (by decide) O O (by omega)) (iY (iU (k := .u8) (l := [_, _]) H bf eP kD O O O (by decide)) ?_))
  rintro l1 w1 H1
  refine iY (dL H1.f2 ((H1).aN) bf Jg O O (by first | omega | (simp only [List.length_append, List.length_nil, List.length_cons]; omega) | (simp; omega)) (by first | omega | (simp only [List.length_append, List.length_nil, List.length_cons]; omega) | (simp; omega))) ?_
  rintro l2 w2 H2
  try simp only [List.nil_append] at H2
  refine ig O (aX (fD nO O ?_))
  rw [Lib.encodeRuneZ_two (by omega) (by omega)]
  have HX := H2.f2.right
  rw [show r / 64 % 256 = r / 64 from by omega, show r % 256 % 64 = r % 64 from by omega] at HX
  exact HX
 ·(try simp only [aF] at h1)
  refine aO (bY O (aW (fG O O) (iP O (dA O (fun h2 => ?_) (fun h2 => ?_)))))
  ·(try simp only [aF] at h2)
   refine iy (dA O (fun h3 => ?_) (fun h3 => ?_))
   ·(try simp only [aF] at h3)
    refine bY O (bT O (aW (vW 12 4096 (by decide) (by decide) O O) ?_))
    refine aW (iq O (by rw [underlying21]; rfl) bD) ?_
    refine aW (kS 5 32 (by decide) O O (by omega)) (bT O (aW (vW 6 64 (by decide) (by decide) O O) ?_))
    refine aW (iq O (by rw [underlying21]; rfl) bD) ?_
    refine aW (iR 6 63 64 (by decide) (by decide) (by decide) O O (by omega)) (aW (kS 7 128 (by decide) O O (by omega)) (bT O ?_))
    refine aW (iq O (by rw [underlying21]; rfl) bD) ?_
    refine aW (iR 6 63 64 (by decide) (by decide) (by decide) O O (by omega)) (aW (kS 7 128 (by decide) O O (by omega)) (iY (iU (k := .u8) (l := [_, _, _]) H bf eP kD O O O (by decide)) ?_))
    rintro l3 w3 H3
    refine iY (dL H3.f2 ((H3).aN) bf Jg O O (by first | omega | (simp only [List.length_append, List.length_nil, List.length_cons]; omega) | (simp; omega)) (by first | omega | (simp only [List.length_append, List.length_nil, List.length_cons]; omega) | (simp; omega))) ?_
    rintro l4 w4 H4
    try simp only [List.nil_append] at H4
    refine ig O (aX (fD nO O ?_))
    rw [Lib.encodeRuneZ_three (by omega)]
    have HX := H4.f2.right
    rw [show r / 4096 % 256 = r / 4096 from by omega, show r / 64 % 256 % 64 = r / 64 % 64 from by omega, show r % 256 % 64 = r % 64 from by omega] at HX
    exact HX
   ·(try simp only [aF] at h3)
    refine bY O (aW (iT O O) (mX O (fun h4 => ?_) (fun h4 => ?_)))
    ·(try simp only [aF] at h4)
     refine bW (bT O (bW (aW (qc O O) (nZ O O (iP O (dA O (fun h5 => ?_) (fun h5 => ?_)))))))
     ·(try simp only [aF] at h5)
      refine bY O (bT O (aW (vW 18 262144 (by decide) (by decide) O O) ?_))
      refine aW (iq O (by rw [underlying21]; rfl) bD) ?_
      refine aW (kS 4 16 (by decide) O O (by omega)) (bT O (aW (vW 12 4096 (by decide) (by decide) O O) ?_))
      refine aW (iq O (by rw [underlying21]; rfl) bD) ?_
      refine aW (iR 6 63 64 (by decide) (by decide) (by decide) O O (by omega)) (aW (kS 7 128 (by decide) O O (by omega)) (bT O (aW (vW 6 64 (by decide) (by decide) O O) ?_)))
      refine aW (iq O (by rw [underlying21]; rfl) bD) ?_
      refine aW (iR 6 63 64 (by decide) (by decide) (by decide) O O (by omega)) (aW (kS 7 128 (by decide) O O (by omega)) (bT O ?_))
      refine aW (iq O (by rw [underlying21]; rfl) bD) ?_
      refine aW (iR 6 63 64 (by decide) (by decide) (by decide) O O (by omega)) (aW (kS 7 128 (by decide) O O (by omega)) (iY (iU (k := .u8) (l := [_, _, _, _]) H bf eP kD O O O (by decide)) ?_))
      rintro l5 w5 H5
      refine iY (dL H5.f2 ((H5).aN) bf Jg O O (by first | omega | (simp only [List.length_append, List.length_nil, List.length_cons]; omega) | (simp; omega)) (by first | omega | (simp only [List.length_append, List.length_nil, List.length_cons]; omega) | (simp; omega))) ?_
      rintro l6 w6 H6
      try simp only [List.nil_append] at H6
      refine ig O (aX (fD nO O ?_))
      rw [Lib.encodeRuneZ_four (by omega) (by omega)]
      have HX := H6.f2.right
      rw [show r / 262144 % 256 = r / 262144 from by omega, show r / 4096 % 256 % 64 = r / 4096 % 64 from by omega, show r / 64 % 256 % 64 = r / 64 % 64 from by omega, show r % 256 % 64 = r % 64 from by omega] at HX
      exact HX
     ·(try simp only [aF] at h5)
      refine bY O (iY (iU (k := .u8) (l := [239, 191, 189]) H bf eP kD O O O (by decide)) ?_)
      rintro l7 w7 H7
      refine iY (dL H7.f2 ((H7).aN) bf Jg O O (by first | omega | (simp only [List.length_append, List.length_nil, List.length_cons]; omega) | (simp; omega)) (by first | omega | (simp only [List.length_append, List.length_nil, List.length_cons]; omega) | (simp; omega))) ?_
      rintro l8 w8 H8
      try simp only [List.nil_append] at H8
      refine ig O (aX (fD nO O ?_))
      rw [Lib.encodeRuneZ_bad (by omega)]
      exact H8.f2.right
    ·(try simp only [aF] at h4)
     refine dF (dF (kX O O (iP O (vS (bY O (iY (iU (k := .u8) (l := [239, 191, 189]) H bf eP kD O O O (by decide)) ?_))))))
     rintro l9 w9 H9
     refine iY (dL H9.f2 ((H9).aN) bf Jg O O (by first | omega | (simp only [List.length_append, List.length_nil, List.length_cons]; omega) | (simp; omega)) (by first | omega | (simp only [List.length_append, List.length_nil, List.length_cons]; omega) | (simp; omega))) ?_
     rintro l10 w10 sF
     try simp only [List.nil_append] at sF
     refine ig O (aX (fD nO O ?_))
     rw [Lib.encodeRuneZ_bad (by omega)]
     exact sF.f2.right
  ·(try simp only [aF] at h2)
   refine aA (bT O (aW (fG O O) (mX O (fun h6 => ?_) (fun h6 => ?_))))
   ·(try simp only [aF] at h6)
    refine bW (bT O (bW (aW (qc O O) (nZ O O (iP O (dA O (fun h7 => ?_) (fun h7 => ?_)))))))
    ·(try simp only [aF] at h7)
     refine bY O (bT O (aW (vW 12 4096 (by decide) (by decide) O O) ?_))
     refine aW (iq O (by rw [underlying21]; rfl) bD) ?_
     refine aW (kS 5 32 (by decide) O O (by omega)) (bT O (aW (vW 6 64 (by decide) (by decide) O O) ?_))
     refine aW (iq O (by rw [underlying21]; rfl) bD) ?_
     refine aW (iR 6 63 64 (by decide) (by decide) (by decide) O O (by omega)) (aW (kS 7 128 (by decide) O O (by omega)) (bT O ?_))
     refine aW (iq O (by rw [underlying21]; rfl) bD) ?_
     refine aW (iR 6 63 64 (by decide) (by decide) (by decide) O O (by omega)) (aW (kS 7 128 (by decide) O O (by omega)) (iY (iU (k := .u8) (l := [_, _, _]) H bf eP kD O O O (by decide)) ?_))
     rintro l11 Iq sG
     refine iY (dL sG.f2 ((sG).aN) bf Jg O O (by first | omega | (simp only [List.length_append, List.length_nil, List.length_cons]; omega) | (simp; omega)) (by first | omega | (simp only [List.length_append, List.length_nil, List.length_cons]; omega) | (simp; omega))) ?_
     rintro l12 w12 tN
     try simp only [List.nil_append] at tN
     refine ig O (aX (fD nO O ?_))
     rw [Lib.encodeRuneZ_three (by omega)]
     have HX := tN.f2.right
     rw [show r / 4096 % 256 = r / 4096 from by omega, show r / 64 % 256 % 64 = r / 64 % 64 from by omega, show r % 256 % 64 = r % 64 from by omega] at HX
     exact HX
    ·(try simp only [aF] at h7)
     refine bY O (aW (iT O O) (mX O (fun h8 => ?_) (fun h8 => ?_)))
     ·(try simp only [aF] at h8)
      refine bW (bT O (bW (aW (qc O O) (nZ O O (iP O (dA O (fun h9 => ?_) (fun h9 => ?_)))))))
      ·(try simp only [aF] at h9)
       refine bY O (bT O (aW (vW 18 262144 (by decide) (by decide) O O) ?_))
       refine aW (iq O (by rw [underlying21]; rfl) bD) ?_
       refine aW (kS 4 16 (by decide) O O (by omega)) (bT O (aW (vW 12 4096 (by decide) (by decide) O O) ?_))
       refine aW (iq O (by rw [underlying21]; rfl) bD) ?_
       refine aW (iR 6 63 64 (by decide) (by decide) (by decide) O O (by omega)) (aW (kS 7 128 (by decide) O O (by omega)) (bT O (aW (vW 6 64 (by decide) (by decide) O O) ?_)))
       refine aW (iq O (by rw [underlying21]; rfl) bD) ?_
       refine aW (iR 6 63 64 (by decide) (by decide) (by decide) O O (by omega)) (aW (kS 7 128 (by decide) O O (by omega)) (bT O ?_))
       refine aW (iq O (by rw [underlying21]; rfl) bD) ?_
       refine aW (iR 6 63 64 (by decide) (by decide) (by decide) O O (by omega)) (aW (kS 7 128 (by decide) O O (by omega)) (iY (iU (k := .u8) (l := [_, _, _, _]) H bf eP kD O O O (by decide)) ?_))
       rintro l13 Qz Ak
       refine iY (dL Ak.f2 ((Ak).aN) bf Jg O O (by first | omega | (simp only [List.length_append, List.length_nil, List.length_cons]; omega) | (simp; omega)) (by first | omega | (simp only [List.length_append, List.length_nil, List.length_cons]; omega) | (simp; omega))) ?_
       rintro l14 TL Dh
       try simp only [List.nil_append] at Dh
       refine ig O (aX (fD nO O ?_))
       rw [Lib.encodeRuneZ_four (by omega) (by omega)]
       have HX := Dh.f2.right
       rw [show r / 262144 % 256 = r / 262144 from by omega, show r / 4096 % 256 % 64 = r / 4096 % 64 from by omega, show r / 64 % 256 % 64 = r / 64 % 64 from by omega, show r % 256 % 64 = r % 64 from by omega] at HX
       exact HX
      ·(try simp only [aF] at h9)
       refine bY O (iY (iU (k := .u8) (l := [239, 191, 189]) H bf eP kD O O O (by decide)) ?_)
       rintro l15 Ws CG
       refine iY (dL CG.f2 ((CG).aN) bf Jg O O (by first | omega | (simp only [List.length_append, List.length_nil, List.length_cons]; omega) | (simp; omega)) (by first | omega | (simp only [List.length_append, List.length_nil, List.length_cons]; omega) | (simp; omega))) ?_
       rintro l16 w16 yj
       try simp only [List.nil_append] at yj
       refine ig O (aX (fD nO O ?_))
       rw [Lib.encodeRuneZ_bad (by omega)]
       exact yj.f2.right
     ·(try simp only [aF] at h8)
      refine dF (dF (kX O O (iP O (vS (bY O (iY (iU (k := .u8) (l := [239, 191, 189]) H bf eP kD O O O (by decide)) ?_))))))
      rintro l17 w17 EH
      refine iY (dL EH.f2 ((EH).aN) bf Jg O O (by first | omega | (simp only [List.length_append, List.length_nil, List.length_cons]; omega) | (simp; omega)) (by first | omega | (simp only [List.length_append, List.length_nil, List.length_cons]; omega) | (simp; omega))) ?_
      rintro l18 ZN EM
      try simp only [List.nil_append] at EM
      refine ig O (aX (fD nO O ?_))
      rw [Lib.encodeRuneZ_bad (by omega)]
      exact EM.f2.right
   ·(try simp only [aF] at h6)
    refine dF (dF (kX O O (iP O (vS (bY O (aW (iT O O) (mX O (fun h10 => ?_) (fun h10 => ?_))))))))
    ·(try simp only [aF] at h10)
     refine bW (bT O (bW (aW (qc O O) (nZ O O (iP O (dA O (fun h11 => ?_) (fun h11 => ?_)))))))
     ·(try simp only [aF] at h11)
      refine bY O (bT O (aW (vW 18 262144 (by decide) (by decide) O O) ?_))
      refine aW (iq O (by rw [underlying21]; rfl) bD) ?_
      refine aW (kS 4 16 (by decide) O O (by omega)) (bT O (aW (vW 12 4096 (by decide) (by decide) O O) ?_))
      refine aW (iq O (by rw [underlying21]; rfl) bD) ?_
      refine aW (iR 6 63 64 (by decide) (by decide) (by decide) O O (by omega)) (aW (kS 7 128 (by decide) O O (by omega)) (bT O (aW (vW 6 64 (by decide) (by decide) O O) ?_)))
      refine aW (iq O (by rw [underlying21]; rfl) bD) ?_
      refine aW (iR 6 63 64 (by decide) (by decide) (by decide) O O (by omega)) (aW (kS 7 128 (by decide) O O (by omega)) (bT O ?_))
      refine aW (iq O (by rw [underlying21]; rfl) bD) ?_
      refine aW (iR 6 63 64 (by decide) (by decide) (by decide) O O (by omega)) (aW (kS 7 128 (by decide) O O (by omega)) (iY (iU (k := .u8) (l := [_, _, _, _]) H bf eP kD O O O (by decide)) ?_))
      rintro l19 ZO DY
      refine iY (dL DY.f2 ((DY).aN) bf Jg O O (by first | omega | (simp only [List.length_append, List.length_nil, List.length_cons]; omega) | (simp; omega)) (by first | omega | (simp only [List.length_append, List.length_nil, List.length_cons]; omega) | (simp; omega))) ?_
      rintro l20 YT EI
      try simp only [List.nil_append] at EI
      refine ig O (aX (fD nO O ?_))
      rw [Lib.encodeRuneZ_four (by omega) (by omega)]
      have HX := EI.f2.right
      rw [show r / 262144 % 256 = r / 262144 from by omega, show r / 4096 % 256 % 64 = r / 4096 % 64 from by omega, show r / 64 % 256 % 64 = r / 64 % 64 from by omega, show r % 256 % 64 = r % 64 from by omega] at HX
      exact HX
     ·(try simp only [aF] at h11)
      refine bY O (iY (iU (k := .u8) (l := [239, 191, 189]) H bf eP kD O O O (by decide)) ?_)
      rintro l21 YU wG
      refine iY (dL wG.f2 ((wG).aN) bf Jg O O (by first | omega | (simp only [List.length_append, List.length_nil, List.length_cons]; omega) | (simp; omega)) (by first | omega | (simp only [List.length_append, List.length_nil, List.length_cons]; omega) | (simp; omega))) ?_
      rintro l22 w22 IQ
      try simp only [List.nil_append] at IQ
      refine ig O (aX (fD nO O ?_))
      rw [Lib.encodeRuneZ_bad (by omega)]
      exact IQ.f2.right
    ·(try simp only [aF] at h10)
     refine dF (dF (kX O O (iP O (vS (bY O (iY (iU (k := .u8) (l := [239, 191, 189]) H bf eP kD O O O (by decide)) ?_))))))
     rintro l23 YV DC
     refine iY (dL DC.f2 ((DC).aN) bf Jg O O (by first | omega | (simp only [List.length_append, List.length_nil, List.length_cons]; omega) | (simp; omega)) (by first | omega | (simp only [List.length_append, List.length_nil, List.length_cons]; omega) | (simp; omega))) ?_
     rintro l24 w24 MN
     try simp only [List.nil_append] at MN
     refine ig O (aX (fD nO O ?_))
     rw [Lib.encodeRuneZ_bad (by omega)]
     exact MN.f2.right
end
section
variable {w0 w : World} {F : HP} {v : Value} {b l : List Int} {r x y : Int}
theorem Jh (H : V w0 w (jR 5 .u8 v l • F)) (hl : l.length ≤ 70368744177664) (hw : -2147483648 ≤ r ∧ r < 2147483648) :
    iM prog 149 #[v, .int .i32 r] w fun v' w' => V w0 w' (jR 5 .u8 v' (l ++ Lib.encodeRuneZ r) • F) := by
  refine qI func149 ntmps149 ?_
  refine kQ O (aO (bY O ?_))
  refine aW (NI O (by rw [underlying21]; rfl) underlying237) ?_
  refine aW (qc O O) (jv O (fun h1 => ?_) (fun h1 => ?_))
  · (try simp only [aF] at h1)
    refine bY O (bT O ?_)
    refine aW (iq O (by rw [underlying21]; rfl) bD) ?_
    refine iY (iU (k := .u8) (l := [_]) H bf eP kD O O O (by decide)) ?_
    rintro l1 w1 H1
    refine iY (dL H1.f2 ((H1).aN) bf Jg O O (by first | omega | (simp only [List.length_append, List.length_nil, List.length_cons]; omega) | (simp; omega)) (by first | omega | (simp only [List.length_append, List.length_nil, List.length_cons]; omega) | (simp; omega))) ?_
    rintro l2 w2 H2
    try simp only [List.nil_append] at H2
    refine ig O (aC (fD results149 O ?_))
    rw [Lib.encodeRuneZ_one (by omega) (by omega)]
    have HX := H2.f2.right
    rw [show r % 256 = r from by omega] at HX
    exact HX
  · (try simp only [aF] at h1)
    refine iy (bY O (bT O (fE O func161 (Vb H (by omega) (by omega) hw) ?_)))
    rintro u3 w3 H3
    refine ig O (fD results149 O ?_)
    exact H3
theorem aby (hx : 0 ≤ x ∧ x < 256) : iM prog 137 #[.int .u8 x] w fun v w' => v = .int .i64 (kR x : Nat) ∧ w = w' := by
 refine iQ func137 ntmps137 ?_
 refine kQ O (aO (bg (bY O (aW (fG O O) (iP O (dA O (fun h1 => ?_) (fun h1 => ?_)))))))
 ·(try simp only [aF] at h1)
  refine mP O (aX (aC (fD kM O ?_)))
  exact ⟨by unfold kR; rw [if_pos (by omega)]; rfl, O⟩
 ·(try simp only [aF] at h1)
  refine bY O (aW (nM O O) (mX O (fun h2 => ?_) (fun h2 => ?_)))
  ·(try simp only [aF] at h2)
   refine bW (bT O (bW (aW (qc O O) (nZ O O (iP O (dA O (fun h3 => ?_) (fun h3 => ?_)))))))
   ·(try simp only [aF] at h3)
    refine mP O (aX (aC (fD kM O ?_)))
    exact ⟨by unfold kR; rw [if_neg (by omega), if_pos (by omega)]; rfl, O⟩
   ·(try simp only [aF] at h3)
    refine bY O (aW (nM O O) (mX O (fun h4 => ?_) (fun h4 => ?_)))
    ·(try simp only [aF] at h4)
     refine bW (bT O (bW (aW (qc O O) (nZ O O (iP O (dA O (fun h5 => ?_) (fun h5 => ?_)))))))
     ·(try simp only [aF] at h5)
      refine mP O (aX (aC (fD kM O ?_)))
      exact ⟨by unfold kR; rw [if_neg (by omega), if_neg (by omega), if_pos (by omega)]; rfl, O⟩
     ·(try simp only [aF] at h5)
      refine bY O (aW (nM O O) (mX O (fun h6 => ?_) (fun h6 => ?_)))
      ·(try simp only [aF] at h6)
       refine bW (bT O (bW (aW (qc O O) (nZ O O (iP O (dA O (fun h7 => ?_) (fun h7 => ?_)))))))
       ·(try simp only [aF] at h7)
        refine mP O (aX (aC (fD kM O ?_)))
        exact ⟨by unfold kR; rw [if_neg (by omega), if_neg (by omega), if_neg (by omega), if_pos (by omega)]; rfl, O⟩
       ·(try simp only [aF] at h7)
        refine dS (aP (aZ (mP O (fD kM O ?_))))
        exact ⟨by unfold kR; rw [if_neg (by omega), if_neg (by omega), if_neg (by omega), if_neg (by omega)]; rfl, O⟩
      ·(try simp only [aF] at h6)
       refine dF (dF (kX O O (iP O (vS (dS (aP (aZ (mP O (fD kM O ?_)))))))))
       exact ⟨by unfold kR; rw [if_neg (by omega), if_neg (by omega), if_neg (by omega), if_neg (by omega)]; rfl, O⟩
    ·(try simp only [aF] at h4)
     refine dF (dF (kX O O (iP O (vS (bY O (aW (nM O O) (mX O (fun h8 => ?_) (fun h8 => ?_))))))))
     ·(try simp only [aF] at h8)
      refine bW (bT O (bW (aW (qc O O) (nZ O O (iP O (dA O (fun h9 => ?_) (fun h9 => ?_)))))))
      ·(try simp only [aF] at h9)
       refine mP O (aX (aC (fD kM O ?_)))
       exact ⟨by unfold kR; rw [if_neg (by omega), if_neg (by omega), if_neg (by omega), if_pos (by omega)]; rfl, O⟩
      ·(try simp only [aF] at h9)
       refine dS (aP (aZ (mP O (fD kM O ?_))))
       exact ⟨by unfold kR; rw [if_neg (by omega), if_neg (by omega), if_neg (by omega), if_neg (by omega)]; rfl, O⟩
     ·(try simp only [aF] at h8)
      refine dF (dF (kX O O (iP O (vS (dS (aP (aZ (mP O (fD kM O ?_)))))))))
      exact ⟨by unfold kR; rw [if_neg (by omega), if_neg (by omega), if_neg (by omega), if_neg (by omega)]; rfl, O⟩
  ·(try simp only [aF] at h2)
   refine dF (dF (kX O O (iP O (vS (bY O (aW (nM O O) (mX O (fun h10 => ?_) (fun h10 => ?_))))))))
   ·(try simp only [aF] at h10)
    refine bW (bT O (bW (aW (qc O O) (nZ O O (iP O (dA O (fun h11 => ?_) (fun h11 => ?_)))))))
    ·(try simp only [aF] at h11)
     refine mP O (aX (aC (fD kM O ?_)))
     exact ⟨by unfold kR; rw [if_neg (by omega), if_neg (by omega), if_pos (by omega)]; rfl, O⟩
    ·(try simp only [aF] at h11)
     refine bY O (aW (nM O O) (mX O (fun h12 => ?_) (fun h12 => ?_)))
     ·(try simp only [aF] at h12)
      refine bW (bT O (bW (aW (qc O O) (nZ O O (iP O (dA O (fun h13 => ?_) (fun h13 => ?_)))))))
      ·(try simp only [aF] at h13)
       refine mP O (aX (aC (fD kM O ?_)))
       exact ⟨by unfold kR; rw [if_neg (by omega), if_neg (by omega), if_neg (by omega), if_pos (by omega)]; rfl, O⟩
      ·(try simp only [aF] at h13)
       refine dS (aP (aZ (mP O (fD kM O ?_))))
       exact ⟨by unfold kR; rw [if_neg (by omega), if_neg (by omega), if_neg (by omega), if_neg (by omega)]; rfl, O⟩
     ·(try simp only [aF] at h12)
      refine dF (dF (kX O O (iP O (vS (dS (aP (aZ (mP O (fD kM O ?_)))))))))
      exact ⟨by unfold kR; rw [if_neg (by omega), if_neg (by omega), if_neg (by omega), if_neg (by omega)]; rfl, O⟩
   ·(try simp only [aF] at h10)
    refine dF (dF (kX O O (iP O (vS (bY O (aW (nM O O) (mX O (fun h14 => ?_) (fun h14 => ?_))))))))
    ·(try simp only [aF] at h14)
     refine bW (bT O (bW (aW (qc O O) (nZ O O (iP O (dA O (fun h15 => ?_) (fun h15 => ?_)))))))
     ·(try simp only [aF] at h15)
      refine mP O (aX (aC (fD kM O ?_)))
      exact ⟨by unfold kR; rw [if_neg (by omega), if_neg (by omega), if_neg (by omega), if_pos (by omega)]; rfl, O⟩
     ·(try simp only [aF] at h15)
      refine dS (aP (aZ (mP O (fD kM O ?_))))
      exact ⟨by unfold kR; rw [if_neg (by omega), if_neg (by omega), if_neg (by omega), if_neg (by omega)]; rfl, O⟩
    ·(try simp only [aF] at h14)
     refine dF (dF (kX O O (iP O (vS (dS (aP (aZ (mP O (fD kM O ?_)))))))))
     exact ⟨by unfold kR; rw [if_neg (by omega), if_neg (by omega), if_neg (by omega), if_neg (by omega)]; rfl, O⟩
theorem Xa : iM prog 138 #[.int .u8 x, .int .u8 y] w fun v w' => v = .bool (decide (D8 x ≤ y ∧ y ≤ xW x)) ∧ w = w' := by
  refine qI func138 ntmps138 ?_
  refine kQ O (jw (iC O (sS O (bY O (jd (bg (jw (aW (kP O O) (iP O (dA O (fun h1 => ?_) (fun h1 => ?_)))))))))))
  · (try simp only [aF] at h1)
    refine aA (iC O (bZ (aP (aZ (bY O (bT O (aW (nM O O) (mX O (fun h2 => ?_) (fun h2 => ?_)))))))))
    · (try simp only [aF] at h2)
      refine bW (bT O (bW (bT O (bW (aW (qc O O) (nZ O O (ig O (fD qy O ?_))))))))
      refine ⟨?_, O⟩
      congr 1
      symm
      unfold D8 xW
      first
        | (rw [decide_eq_true_eq]; repeat' split <;> omega)
        | (rw [decide_eq_false_iff_not]; repeat' split <;> omega)
        | (rw [decide_eq_decide]; repeat' split <;> omega)
    · (try simp only [aF] at h2)
      refine dF (dF (dF (kX O O (ig O (fD qy O ?_)))))
      refine ⟨?_, O⟩
      congr 1
      symm
      unfold D8 xW
      first
        | (rw [decide_eq_true_eq]; repeat' split <;> omega)
        | (rw [decide_eq_false_iff_not]; repeat' split <;> omega)
        | (rw [decide_eq_decide]; repeat' split <;> omega)
  · (try simp only [aF] at h1)
    refine jw (aW (kP O O) (iP O (dA O (fun h3 => ?_) (fun h3 => ?_))))
    · (try simp only [aF] at h3)
      refine aA (iC O (bZ (aP (aZ (bY O (bT O (aW (nM O O) (mX O (fun h4 => ?_) (fun h4 => ?_)))))))))
      · (try simp only [aF] at h4)
        refine bW (bT O (bW (bT O (bW (aW (qc O O) (nZ O O (ig O (fD qy O ?_))))))))
        refine ⟨?_, O⟩
        congr 1
        symm
        unfold D8 xW
        first
          | (rw [decide_eq_true_eq]; repeat' split <;> omega)
          | (rw [decide_eq_false_iff_not]; repeat' split <;> omega)
          | (rw [decide_eq_decide]; repeat' split <;> omega)
      · (try simp only [aF] at h4)
        refine dF (dF (dF (kX O O (ig O (fD qy O ?_)))))
        refine ⟨?_, O⟩
        congr 1
        symm
        unfold D8 xW
        first
          | (rw [decide_eq_true_eq]; repeat' split <;> omega)
          | (rw [decide_eq_false_iff_not]; repeat' split <;> omega)
          | (rw [decide_eq_decide]; repeat' split <;> omega)
    · (try simp only [aF] at h3)
      refine jw (aW (kP O O) (iP O (dA O (fun h5 => ?_) (fun h5 => ?_))))
      · (try simp only [aF] at h5)
        refine aA (iC O (bZ (aP (aZ (bY O (bT O (aW (nM O O) (mX O (fun h6 => ?_) (fun h6 => ?_)))))))))
        · (try simp only [aF] at h6)
          refine bW (bT O (bW (bT O (bW (aW (qc O O) (nZ O O (ig O (fD qy O ?_))))))))
          refine ⟨?_, O⟩
          congr 1
          symm
          unfold D8 xW
          first
            | (rw [decide_eq_true_eq]; repeat' split <;> omega)
            | (rw [decide_eq_false_iff_not]; repeat' split <;> omega)
            | (rw [decide_eq_decide]; repeat' split <;> omega)
        · (try simp only [aF] at h6)
          refine dF (dF (dF (kX O O (ig O (fD qy O ?_)))))
          refine ⟨?_, O⟩
          congr 1
          symm
          unfold D8 xW
          first
            | (rw [decide_eq_true_eq]; repeat' split <;> omega)
            | (rw [decide_eq_false_iff_not]; repeat' split <;> omega)
            | (rw [decide_eq_decide]; repeat' split <;> omega)
      · (try simp only [aF] at h5)
        refine jw (aW (kP O O) (iP O (dA O (fun h7 => ?_) (fun h7 => ?_))))
        · (try simp only [aF] at h7)
          refine aA (iC O (bZ (aP (aZ (bY O (bT O (aW (nM O O) (mX O (fun h8 => ?_) (fun h8 => ?_)))))))))
          · (try simp only [aF] at h8)
            refine bW (bT O (bW (bT O (bW (aW (qc O O) (nZ O O (ig O (fD qy O ?_))))))))
            refine ⟨?_, O⟩
            congr 1
            symm
            unfold D8 xW
            first
              | (rw [decide_eq_true_eq]; repeat' split <;> omega)
              | (rw [decide_eq_false_iff_not]; repeat' split <;> omega)
              | (rw [decide_eq_decide]; repeat' split <;> omega)
          · (try simp only [aF] at h8)
            refine dF (dF (dF (kX O O (ig O (fD qy O ?_)))))
            refine ⟨?_, O⟩
            congr 1
            symm
            unfold D8 xW
            first
              | (rw [decide_eq_true_eq]; repeat' split <;> omega)
              | (rw [decide_eq_false_iff_not]; repeat' split <;> omega)
              | (rw [decide_eq_decide]; repeat' split <;> omega)
        · (try simp only [aF] at h7)
          refine dS (aP (aZ (bY O (bT O (aW (nM O O) (mX O (fun h9 => ?_) (fun h9 => ?_)))))))
          · (try simp only [aF] at h9)
            refine bW (bT O (bW (bT O (bW (aW (qc O O) (nZ O O (ig O (fD qy O ?_))))))))
            refine ⟨?_, O⟩
            congr 1
            symm
            unfold D8 xW
            first
              | (rw [decide_eq_true_eq]; repeat' split <;> omega)
              | (rw [decide_eq_false_iff_not]; repeat' split <;> omega)
              | (rw [decide_eq_decide]; repeat' split <;> omega)
          · (try simp only [aF] at h9)
            refine dF (dF (dF (kX O O (ig O (fD qy O ?_)))))
            refine ⟨?_, O⟩
            congr 1
            symm
            unfold D8 xW
            first
              | (rw [decide_eq_true_eq]; repeat' split <;> omega)
              | (rw [decide_eq_false_iff_not]; repeat' split <;> omega)
              | (rw [decide_eq_decide]; repeat' split <;> omega)
end
section
variable {w0 w : World} {F : HP} {v : Value} {b l : List Int} {r x y : Int}
theorem abz (H : V w0 w F) (hv : jm w0 F .u8 v b) (hb : GY b) : iM prog 91 #[v] w fun v' w' => v' = .tuple #[.int .i64 ((lN b).1 : Nat), .int .i64 ((lN b).2 : Nat)] ∧ V w0 w' F := by
 have y0 := C9 hb 0
 have hn4 := NH (b.getD 0 0)
 obtain ⟨_, cv, _, hcv1, hcv2, _⟩ := (hv _ H).open
 refine iQ func91 ntmps91 ?_
 refine jw (iC O (sS O (bY O (aW (jJ (hv _ (H)) bf O) (aW (kP O O) (jv O (fun h1 => ?_) (fun h1 => ?_)))))))
 ·(try simp only [aF] at h1)
  refine jw (iC O (ig O (aC (Dw results91 O O ?_))))
  obtain rfl : b = [] := List.eq_nil_of_length_eq_zero (by omega)
  exact ⟨O, H⟩
 ·(try simp only [aF] at h1)
  refine iy (aO ?_)
  have hne : b ≠ [] := by rintro rfl; simp at h1
  refine aA (bT O ?_)
  obtain ⟨bv, ov, cv, ev⟩ := jP.nR (hv _ (H)) (by omega)
  cases ev
  refine aW (dD bf eP O O (by omega)) (aW (eG (dn bD O) O (jP.TK 0 (hv _ (H)) (by omega))) (fE O func137 (aby (by omega)) ?_))
  rintro _ _ ⟨rfl, rfl⟩
  refine sS O (bY O (aW (kP O O) (jv O (fun h2 => ?_) (fun h2 => ?_))))
  ·(try simp only [aF] at h2)
   refine jw (iC O (ig O (aC (Dw results91 O O ?_))))
   exact ⟨by rw [NK (by omega)]; rfl, H⟩
  ·(try simp only [aF] at h2)
   refine iy (kQ O (aO (bg ?_)))
   refine gq [(0, _), (4, _)] (fun (k : Nat) => [(5, .int .i64 (k : Int))]) (fun (k : Nat) W => (1 ≤ k ∧ k ≤ kR (b.getD 0 0) ∧ k ≤ b.length ∧ yV b k = true) ∧ V w0 W F) (fun (k : Nat) => kR (b.getD 0 0) - k) (1) rP oO ⟨⟨by omega, by omega, by omega, O⟩, H⟩ ?_
   rintro k w2 ⟨⟨k1, k2, k3, k4⟩, HL⟩
   dsimp only [List.cons_append, List.nil_append]
   refine aO (bY O (bT O (aW (fG O O) (mX O (fun h3 => ?_) (fun h3 => ?_)))))
   ·(try simp only [aF] at h3)
    refine bW (bT O (bW (bT O (bW (aW (jS bf O) (bW (aW (fG O O) (nZ O O (jv O (fun h4 => ?_) (fun h4 => ?_))))))))))
    ·(try simp only [aF] at h4)
     refine iy (bg (aO (aO ?_)))
     have hk1 : k < kR (b.getD 0 0) := by omega
     have hk2 : k < b.length := by omega
     have SG := HL.drew
     have nJ := V.kp (SG)
     refine uU [5, 8, 16, 23] nJ O (gQ 0 O nJ O (iL 1 O nJ (fun _ => kP O O) ?_))
     refine Dv 2 O O (by kernel_rfl) (by kernel_rfl) nJ (lI O) (fun h5 => ?_) (fun h5 => ?_)
     ·(try simp only [aF] at h5)
      refine fC 3 O O O (by kernel_rfl) (by kernel_rfl) nJ (fun _ => wI O) (lI O) ?_
      refine fC 4 O O O (by kernel_rfl) (by kernel_rfl) nJ (fun _ => dD bf eP O O (by omega)) (lI O) ?_
      refine sH 5 O O O (by kernel_rfl) (by kernel_rfl) nJ (by decide) (fun W hW => eG (dn bD O) O (jP.TK 0 (hv _ ((Kp.h hW))) (by omega))) (lI O) ?_
      refine fC 6 O O O (by kernel_rfl) (by kernel_rfl) nJ (fun _ => wI O) (lI O) ?_
      refine fC 7 O O O (by kernel_rfl) (by kernel_rfl) nJ (fun _ => dD bf eP O O (by omega)) (lI O) ?_
      refine sH 8 O O O (by kernel_rfl) (by kernel_rfl) nJ (by decide) (fun W hW => eG (dn bD O) O (jP.TK 1 (hv _ ((Kp.h hW))) (by omega))) (lI O) ?_
      refine V4 9 O O O (by kernel_rfl) (Ae (Af O func138 O O) (Xa)) (lI O) ?_
      rintro _ _ ⟨rfl, rfl⟩
      have nT := V.kp (SG)
      refine fH nT (by kernel_rfl) ?_
      refine fC 10 O O O (by kernel_rfl) (by kernel_rfl) nT (fun _ => mG O) (lI O) ?_
      refine iL 11 O nT (fun _ => zK O O) ?_
      refine Dv 12 O O (by kernel_rfl) (by kernel_rfl) nT (lI O) (fun h6 => ?_) (fun h6 => ?_)
      ·(try simp only [aF] at h6)
       refine oC 13 O O O O (by kernel_rfl) (by kernel_rfl) nT (lI O) ?_
       refine oC 14 O O O O (by kernel_rfl) (by kernel_rfl) nT (lI O) ?_
       refine oC 15 O O O O (by kernel_rfl) (by kernel_rfl) nT (lI O) ?_
       refine oC 16 O O O O (by kernel_rfl) (by kernel_rfl) nT (lI O) ?_
       refine oC 17 O O O O (by kernel_rfl) (by kernel_rfl) nT (lI O) ?_
       refine iL 18 O nT (fun _ => zK O O) (gQ 19 O nT O ?_)
       refine oC 20 O O O O (by kernel_rfl) (by kernel_rfl) nT (lI O) ?_
       refine oC 21 O O O O (by kernel_rfl) (by kernel_rfl) nT (lI O) ?_
       refine oC 22 O O O O (by kernel_rfl) (by kernel_rfl) nT (lI O) ?_
       refine oC 23 O O O O (by kernel_rfl) (by kernel_rfl) nT (lI O) ?_
       refine oC 24 O O O O (by kernel_rfl) (by kernel_rfl) nT (lI O) ?_
       refine iL 25 O nT (fun _ => zK O O) (qj (aZ (GV (aO ?_))))
       have hbad : Cc b k = false := by first | exact Rt k1 (by omega) | (obtain rfl : k = 1 := (by omega); exact Wn (by omega))
       refine aA (bT O (iC O (ig O (aC (aX (aC (aX (aC (Dw results91 O O ?_)))))))))
       exact ⟨by rw [Bg hk1 hbad hk2]; rfl, SG⟩
      ·(try simp only [aF] at h6)
       refine fC 13 O O O (by kernel_rfl) (by kernel_rfl) nT (fun _ => wI O) (lI O) ?_
       refine fC 14 O O O (by kernel_rfl) (by kernel_rfl) nT (fun _ => wI O) (lI O) ?_
       refine fC 15 O O O (by kernel_rfl) (by kernel_rfl) nT (fun _ => dD bf eP O O (by omega)) (lI O) ?_
       refine sH 16 O O O (by kernel_rfl) (by kernel_rfl) nT (by decide) (fun W hW => eG (dn bD O) O (by first | exact jP.sO (hv _ ((Kp.h hW))) (by omega) | exact jP.EF (hv _ ((Kp.h hW))) (by omega) | exact jP.Ey (hv _ ((Kp.h hW))) (by omega))) (lI O) ?_
       refine fC 17 O O O (by kernel_rfl) (by kernel_rfl) nT (fun _ => fG O O) (lI O) ?_
       refine iL 18 O nT (fun _ => zL O O) ?_
       refine Dv 19 O O (by kernel_rfl) (by kernel_rfl) nT (lI O) (fun h7 => ?_) (fun h7 => ?_)
       ·(try simp only [aF] at h7)
        refine oC 20 O O O O (by kernel_rfl) (by kernel_rfl) nT (lI O) ?_
        refine oC 21 O O O O (by kernel_rfl) (by kernel_rfl) nT (lI O) ?_
        refine oC 22 O O O O (by kernel_rfl) (by kernel_rfl) nT (lI O) ?_
        refine oC 23 O O O O (by kernel_rfl) (by kernel_rfl) nT (lI O) ?_
        refine oC 24 O O O O (by kernel_rfl) (by kernel_rfl) nT (lI O) ?_
        refine iL 25 O nT (fun _ => zK O O) (qj (aZ (GV (aO ?_))))
        have hbad : Cc b k = false := by first | exact Rt k1 (by omega) | (obtain rfl : k = 1 := (by omega); exact Wn (by omega))
        refine aA (bT O (iC O (ig O (aC (aX (aC (aX (aC (Dw results91 O O ?_)))))))))
        exact ⟨by rw [Bg hk1 hbad hk2]; rfl, SG⟩
       ·(try simp only [aF] at h7)
        refine fC 20 O O O (by kernel_rfl) (by kernel_rfl) nT (fun _ => wI O) (lI O) ?_
        refine fC 21 O O O (by kernel_rfl) (by kernel_rfl) nT (fun _ => wI O) (lI O) ?_
        refine fC 22 O O O (by kernel_rfl) (by kernel_rfl) nT (fun _ => dD bf eP O O (by omega)) (lI O) ?_
        refine sH 23 O O O (by kernel_rfl) (by kernel_rfl) nT (by decide) (fun W hW => eG (dn bD O) O (by first | exact jP.sO (hv _ ((Kp.h hW))) (by omega) | exact jP.EF (hv _ ((Kp.h hW))) (by omega) | exact jP.Ey (hv _ ((Kp.h hW))) (by omega))) (lI O) ?_
        refine fC 24 O O O (by kernel_rfl) (by kernel_rfl) nT (fun _ => iT O O) (lI O) ?_
        refine iL 25 O nT (fun _ => zL O O) (qj (aZ (dA O (fun h8 => ?_) (fun h8 => ?_))))
        ·(try simp only [aF] at h8)
         refine aO ?_
         have hbad : Cc b k = false := by first | exact Rt k1 (by omega) | (obtain rfl : k = 1 := (by omega); exact Wn (by omega))
         refine aA (bT O (iC O (ig O (aC (aX (aC (aX (aC (Dw results91 O O ?_)))))))))
         exact ⟨by rw [Bg hk1 hbad hk2]; rfl, SG⟩
        ·(try simp only [aF] at h8)
         refine iy ?_
         have hok : Cc b k = true := by first | exact okj (by omega) (by omega) | (obtain rfl : k = 1 := (by omega); exact ok1 (by omega) (by omega))
         have hgood : yV b (k + 1) = true := by simp only [yV, k4, hok, Bool.and_true]
         refine aA (bT O (aW (fP O O (by omega)) (iC O (bZ (aP ?_)))))
         refine dN (k + 1) ?_ ?_ ?_ ?_
         ·exact oO
         ·exact rP
         ·(try dsimp only)
          first | done | exact ⟨⟨by omega, by omega, by omega, hgood⟩, SG⟩
         ·(try dsimp only); omega
     ·(try simp only [aF] at h5)
      refine oC 3 O O O O (by kernel_rfl) (by kernel_rfl) nJ (lI O) ?_
      refine oC 4 O O O O (by kernel_rfl) (by kernel_rfl) nJ (lI O) ?_
      refine oC 5 O O O O (by kernel_rfl) (by kernel_rfl) nJ (lI O) ?_
      refine oC 6 O O O O (by kernel_rfl) (by kernel_rfl) nJ (lI O) ?_
      refine oC 7 O O O O (by kernel_rfl) (by kernel_rfl) nJ (lI O) ?_
      refine oC 8 O O O O (by kernel_rfl) (by kernel_rfl) nJ (lI O) ?_
      refine oC 9 O O O O (by kernel_rfl) (by kernel_rfl) nJ (lI O) ?_
      refine oC 10 O O O O (by kernel_rfl) (by kernel_rfl) nJ (lI O) ?_
      refine iL 11 O nJ (fun _ => zL O O) (gQ 12 O nJ O ?_)
      refine fC 13 O O O (by kernel_rfl) (by kernel_rfl) nJ (fun _ => wI O) (lI O) ?_
      refine fC 14 O O O (by kernel_rfl) (by kernel_rfl) nJ (fun _ => wI O) (lI O) ?_
      refine fC 15 O O O (by kernel_rfl) (by kernel_rfl) nJ (fun _ => dD bf eP O O (by omega)) (lI O) ?_
      refine sH 16 O O O (by kernel_rfl) (by kernel_rfl) nJ (by decide) (fun W hW => eG (dn bD O) O (by first | exact jP.sO (hv _ ((Kp.h hW))) (by omega) | exact jP.EF (hv _ ((Kp.h hW))) (by omega) | exact jP.Ey (hv _ ((Kp.h hW))) (by omega))) (lI O) ?_
      refine fC 17 O O O (by kernel_rfl) (by kernel_rfl) nJ (fun _ => fG O O) (lI O) ?_
      refine iL 18 O nJ (fun _ => zL O O) ?_
      refine Dv 19 O O (by kernel_rfl) (by kernel_rfl) nJ (lI O) (fun h9 => ?_) (fun h9 => ?_)
      ·(try simp only [aF] at h9)
       refine oC 20 O O O O (by kernel_rfl) (by kernel_rfl) nJ (lI O) ?_
       refine oC 21 O O O O (by kernel_rfl) (by kernel_rfl) nJ (lI O) ?_
       refine oC 22 O O O O (by kernel_rfl) (by kernel_rfl) nJ (lI O) ?_
       refine oC 23 O O O O (by kernel_rfl) (by kernel_rfl) nJ (lI O) ?_
       refine oC 24 O O O O (by kernel_rfl) (by kernel_rfl) nJ (lI O) ?_
       refine iL 25 O nJ (fun _ => zK O O) (qj (aZ (GV (aO ?_))))
       have hbad : Cc b k = false := by first | exact Rt k1 (by omega) | (obtain rfl : k = 1 := (by omega); exact Wn (by omega))
       refine aA (bT O (iC O (ig O (aC (aX (aC (aX (aC (Dw results91 O O ?_)))))))))
       exact ⟨by rw [Bg hk1 hbad hk2]; rfl, SG⟩
      ·(try simp only [aF] at h9)
       refine fC 20 O O O (by kernel_rfl) (by kernel_rfl) nJ (fun _ => wI O) (lI O) ?_
       refine fC 21 O O O (by kernel_rfl) (by kernel_rfl) nJ (fun _ => wI O) (lI O) ?_
       refine fC 22 O O O (by kernel_rfl) (by kernel_rfl) nJ (fun _ => dD bf eP O O (by omega)) (lI O) ?_
       refine sH 23 O O O (by kernel_rfl) (by kernel_rfl) nJ (by decide) (fun W hW => eG (dn bD O) O (by first | exact jP.sO (hv _ ((Kp.h hW))) (by omega) | exact jP.EF (hv _ ((Kp.h hW))) (by omega) | exact jP.Ey (hv _ ((Kp.h hW))) (by omega))) (lI O) ?_
       refine fC 24 O O O (by kernel_rfl) (by kernel_rfl) nJ (fun _ => iT O O) (lI O) ?_
       refine iL 25 O nJ (fun _ => zL O O) (qj (aZ (dA O (fun h10 => ?_) (fun h10 => ?_))))
       ·(try simp only [aF] at h10)
        refine aO ?_
        have hbad : Cc b k = false := by first | exact Rt k1 (by omega) | (obtain rfl : k = 1 := (by omega); exact Wn (by omega))
        refine aA (bT O (iC O (ig O (aC (aX (aC (aX (aC (Dw results91 O O ?_)))))))))
        exact ⟨by rw [Bg hk1 hbad hk2]; rfl, SG⟩
       ·(try simp only [aF] at h10)
        refine iy ?_
        have hok : Cc b k = true := by first | exact okj (by omega) (by omega) | (obtain rfl : k = 1 := (by omega); exact ok1 (by omega) (by omega))
        have hgood : yV b (k + 1) = true := by simp only [yV, k4, hok, Bool.and_true]
        refine aA (bT O (aW (fP O O (by omega)) (iC O (bZ (aP ?_)))))
        refine dN (k + 1) ?_ ?_ ?_ ?_
        ·exact oO
        ·exact rP
        ·(try dsimp only)
         first | done | exact ⟨⟨by omega, by omega, by omega, hgood⟩, SG⟩
        ·(try dsimp only); omega
    ·(try simp only [aF] at h4)
     refine eH (aT (aT (bU (aZ (bY O (bT O (iC O (ig O (Dw results91 O O ?_)))))))))
     refine ⟨?_, HL⟩
     have hm : min (kR (b.getD 0 0)) b.length = k := by omega
     rw [NJ hne (by omega) (by rw [hm]; exact k4), hm]
   ·(try simp only [aF] at h3)
    refine dF (dF (dF (dF (kX O O (jd (vS (eH (aT (aT (bU (aZ (bY O (bT O (iC O (ig O (Dw results91 O O ?_))))))))))))))))
    refine ⟨?_, HL⟩
    have hm : min (kR (b.getD 0 0)) b.length = k := by omega
    rw [NJ hne (by omega) (by rw [hm]; exact k4), hm]
theorem Zh (H : V w0 w F) (hv : jm w0 F .u8 v b) (hb : GY b) (hl : 1 ≤ b.length ∧ b.length ≤ 4) : iM prog 92 #[v] w fun v' w' => v' = .int .i32 (Lu b b.length) ∧ V w0 w' F := by
 have y0 := C9 hb 0
 have y1 := C9 hb 1
 have y2 := C9 hb 2
 have y3 := C9 hb 3
 refine iQ func92 ntmps92 ?_
 refine kQ O (aO (bY O (aW (jJ (hv _ (H)) bf O) (jd (bg (jw (aW (kP O O) (iP O (dA O (fun h1 => ?_) (fun h1 => ?_))))))))))
 ·(try simp only [aF] at h1)
  refine bY O ?_
  obtain ⟨bv, ov, cv, ev⟩ := jP.nR (hv _ (H)) (by omega)
  cases ev
  refine aW (dD bf eP O O (by omega)) (aW (eG (dn bD O) O (jP.TK 0 (hv _ (H)) (by omega))) ?_)
  refine aW (iZ O (by rw [underlying5]; rfl) dM (jC (by omega))) ?_
  refine ig O (aX (aC (fD results92 O ?_)))
  exact ⟨by unfold Lu; rw [if_pos (by omega)], H⟩
 ·(try simp only [aF] at h1)
  refine jw (aW (kP O O) (iP O (dA O (fun h2 => ?_) (fun h2 => ?_))))
  ·(try simp only [aF] at h2)
   refine aO ?_
   have Xb := H.drew
   have sN := V.kp (Xb)
   refine uU [2, 8] sN O (gQ 0 O sN O ?_)
   obtain ⟨bv, ov, cv, ev⟩ := jP.nR (hv _ (Xb)) (by omega)
   cases ev
   refine iL 1 O sN (fun _ => dD bf eP O O (by omega)) (iO 2 O sN (fun W hW => eG (dn bD O) O (jP.TK 0 (hv _ ((Kp.h hW))) (by omega))) (iL 3 O sN (fun _ => iR 5 31 32 (by decide) (by decide) (by decide) O O (by omega)) ?_))
   refine iL 4 O sN (fun _ => iZ O (by rw [underlying5]; rfl) dM (jC (by omega))) ?_
   refine iL 5 O sN (fun _ => Ez 6 64 (by decide) (by decide) O O (jC (by omega))) (gQ 6 O sN O (iL 7 O sN (fun _ => dD bf eP O O (by omega)) (iO 8 O sN (fun W hW => eG (dn bD O) O (jP.TK 1 (hv _ ((Kp.h hW))) (by omega))) (iL 9 O sN (fun _ => iR 6 63 64 (by decide) (by decide) (by decide) O O (by omega)) ?_))))
   refine iL 10 O sN (fun _ => iZ O (by rw [underlying5]; rfl) dM (jC (by omega))) ?_
   refine iL 11 O sN (fun _ => tH 6 64 (by decide) O O (by omega)) (iL 12 O sN (fun _ => fU O) (qj (aZ (mZ (aX (aC (fD results92 O ?_)))))))
   exact ⟨by unfold Lu; rw [if_neg (by omega), if_pos (by omega)], Xb⟩
  ·(try simp only [aF] at h2)
   refine jw (aW (kP O O) (iP O (dA O (fun h3 => ?_) (fun h3 => ?_))))
   ·(try simp only [aF] at h3)
    refine aO ?_
    have aex := H.drew
    have wu := V.kp (aex)
    refine uU [2, 8, 15] wu O (gQ 0 O wu O ?_)
    obtain ⟨bv, ov, cv, ev⟩ := jP.nR (hv _ (aex)) (by omega)
    cases ev
    refine iL 1 O wu (fun _ => dD bf eP O O (by omega)) (iO 2 O wu (fun W hW => eG (dn bD O) O (jP.TK 0 (hv _ ((Kp.h hW))) (by omega))) (iL 3 O wu (fun _ => iR 4 15 16 (by decide) (by decide) (by decide) O O (by omega)) ?_))
    refine iL 4 O wu (fun _ => iZ O (by rw [underlying5]; rfl) dM (jC (by omega))) ?_
    refine iL 5 O wu (fun _ => Ez 12 4096 (by decide) (by decide) O O (jC (by omega))) (gQ 6 O wu O (iL 7 O wu (fun _ => dD bf eP O O (by omega)) (iO 8 O wu (fun W hW => eG (dn bD O) O (jP.TK 1 (hv _ ((Kp.h hW))) (by omega))) (iL 9 O wu (fun _ => iR 6 63 64 (by decide) (by decide) (by decide) O O (by omega)) ?_))))
    refine iL 10 O wu (fun _ => iZ O (by rw [underlying5]; rfl) dM (jC (by omega))) ?_
    refine iL 11 O wu (fun _ => Ez 6 64 (by decide) (by decide) O O (jC (by omega))) (iL 12 O wu (fun _ => tH 12 4096 (by decide) O O (by omega)) (gQ 13 O wu O (iL 14 O wu (fun _ => dD bf eP O O (by omega)) (iO 15 O wu (fun W hW => eG (dn bD O) O (jP.TK 2 (hv _ ((Kp.h hW))) (by omega))) (iL 16 O wu (fun _ => iR 6 63 64 (by decide) (by decide) (by decide) O O (by omega)) ?_)))))
    refine iL 17 O wu (fun _ => iZ O (by rw [underlying5]; rfl) dM (jC (by omega))) ?_
    refine iL 18 O wu (fun _ => tH 6 64 (by decide) O O (by omega)) (iL 19 O wu (fun _ => fU O) (qj (aZ (mZ (aX (aC (fD results92 O ?_)))))))
    exact ⟨by unfold Lu; rw [if_neg (by omega), if_neg (by omega), if_pos (by omega)], aex⟩
   ·(try simp only [aF] at h3)
    refine dS (aP (aZ (aO ?_)))
    have aey := H.drew
    have rO := V.kp (aey)
    refine uU [2, 8, 15, 22] rO O (gQ 0 O rO O ?_)
    obtain ⟨bv, ov, cv, ev⟩ := jP.nR (hv _ (aey)) (by omega)
    cases ev
    refine iL 1 O rO (fun _ => dD bf eP O O (by omega)) (iO 2 O rO (fun W hW => eG (dn bD O) O (jP.TK 0 (hv _ ((Kp.h hW))) (by omega))) (iL 3 O rO (fun _ => iR 3 7 8 (by decide) (by decide) (by decide) O O (by omega)) ?_))
    refine iL 4 O rO (fun _ => iZ O (by rw [underlying5]; rfl) dM (jC (by omega))) ?_
    refine iL 5 O rO (fun _ => Ez 18 262144 (by decide) (by decide) O O (jC (by omega))) (gQ 6 O rO O (iL 7 O rO (fun _ => dD bf eP O O (by omega)) (iO 8 O rO (fun W hW => eG (dn bD O) O (jP.TK 1 (hv _ ((Kp.h hW))) (by omega))) (iL 9 O rO (fun _ => iR 6 63 64 (by decide) (by decide) (by decide) O O (by omega)) ?_))))
    refine iL 10 O rO (fun _ => iZ O (by rw [underlying5]; rfl) dM (jC (by omega))) ?_
    refine iL 11 O rO (fun _ => Ez 12 4096 (by decide) (by decide) O O (jC (by omega))) (iL 12 O rO (fun _ => tH 18 262144 (by decide) O O (by omega)) (gQ 13 O rO O (iL 14 O rO (fun _ => dD bf eP O O (by omega)) (iO 15 O rO (fun W hW => eG (dn bD O) O (jP.TK 2 (hv _ ((Kp.h hW))) (by omega))) (iL 16 O rO (fun _ => iR 6 63 64 (by decide) (by decide) (by decide) O O (by omega)) ?_)))))
    refine iL 17 O rO (fun _ => iZ O (by rw [underlying5]; rfl) dM (jC (by omega))) ?_
    refine iL 18 O rO (fun _ => Ez 6 64 (by decide) (by decide) O O (jC (by omega))) (iL 19 O rO (fun _ => tH 12 4096 (by decide) O O (by omega)) (gQ 20 O rO O (iL 21 O rO (fun _ => dD bf eP O O (by omega)) (iO 22 O rO (fun W hW => eG (dn bD O) O (jP.TK 3 (hv _ ((Kp.h hW))) (by omega))) (iL 23 O rO (fun _ => iR 6 63 64 (by decide) (by decide) (by decide) O O (by omega)) ?_)))))
    refine iL 24 O rO (fun _ => iZ O (by rw [underlying5]; rfl) dM (jC (by omega))) ?_
    refine iL 25 O rO (fun _ => tH 6 64 (by decide) O O (by omega)) (iL 26 O rO (fun _ => fU O) (qj (aZ (mZ (fD results92 O ?_)))))
    exact ⟨by unfold Lu; rw [if_neg (by omega), if_neg (by omega), if_neg (by omega)], aey⟩
theorem abA (H : V w0 w F) (hw : -2147483648 ≤ r ∧ r < 2147483648) : iM prog 153 #[.int .i32 r] w fun v' w' => V w0 w' (jR 5 .u8 v' (Lib.encodeRuneZ r) • F) := by
 refine iQ func153 ntmps153 ?_
 refine kQ O ?_
 refine rU [] (fun (q : Int) => [(0, .int .i32 q)]) (fun (q : Int) W => ((0 ≤ q ∧ q < 55296 ∨ 57343 < q ∧ q ≤ 1114111) ∧ Lib.encodeRuneZ r = Lib.encodeRuneZ q) ∧ V w0 W F) (Sub.nil _) ?_ ?_
 ·rintro q w1 ⟨⟨hq1, hq2⟩, HJ⟩
  dsimp only [List.cons_append, List.nil_append]
  rw [hq2]
  refine aO (bg (bY O (aW (fG O O) (iP O (dA O (fun h1 => ?_) (fun h1 => ?_))))))
  ·(try simp only [aF] at h1)
   refine bY O ?_
   refine aW (iq O (by rw [underlying21]; rfl) bD) ?_
   refine iY (iU (k := .u8) (l := [_]) HJ bf eP kD O O O (by decide)) ?_
   rintro l2 w2 H2
   refine ig O (aX (aC (fD results153 O ?_)))
   rw [Lib.encodeRuneZ_one (by omega) (by omega)]
   have HX := H2
   rw [show q % 256 = q from by omega] at HX
   exact HX
  ·(try simp only [aF] at h1)
   refine bY O (aW (fG O O) (iP O (dA O (fun h2 => ?_) (fun h2 => ?_))))
   ·(try simp only [aF] at h2)
    refine bY O (aW (vW 6 64 (by decide) (by decide) O O) ?_)
    refine aW (iq O (by rw [underlying21]; rfl) bD) ?_
    refine aW (kS 6 64 (by decide) O O (by omega)) (bT O (aW (Bf 6 63 64 (by decide) (by decide) (by decide) O O (by omega)) ?_))
    refine aW (iq O (by rw [underlying21]; rfl) bD) ?_
    refine aW (kS 7 128 (by decide) O O (by omega)) (iY (iU (k := .u8) (l := [_, _]) HJ bf eP kD O O O (by decide)) ?_)
    rintro l3 w3 H3
    refine ig O (aX (aC (fD results153 O ?_)))
    rw [Lib.encodeRuneZ_two (by omega) (by omega)]
    have HX := H3
    rw [show q / 64 % 256 = q / 64 from by omega, show q % 64 % 256 = q % 64 from by omega] at HX
    exact HX
   ·(try simp only [aF] at h2)
    refine bY O (aW (fG O O) (iP O (dA O (fun h3 => ?_) (fun h3 => ?_))))
    ·(try simp only [aF] at h3)
     refine bY O (aW (vW 12 4096 (by decide) (by decide) O O) ?_)
     refine aW (iq O (by rw [underlying21]; rfl) bD) ?_
     refine aW (kS 5 32 (by decide) O O (by omega)) (bT O (aW (vW 6 64 (by decide) (by decide) O O) (aW (Bf 6 63 64 (by decide) (by decide) (by decide) O O (by omega)) ?_)))
     refine aW (iq O (by rw [underlying21]; rfl) bD) ?_
     refine aW (kS 7 128 (by decide) O O (by omega)) (bT O (aW (Bf 6 63 64 (by decide) (by decide) (by decide) O O (by omega)) ?_))
     refine aW (iq O (by rw [underlying21]; rfl) bD) ?_
     refine aW (kS 7 128 (by decide) O O (by omega)) (iY (iU (k := .u8) (l := [_, _, _]) HJ bf eP kD O O O (by decide)) ?_)
     rintro l4 w4 H4
     refine ig O (aX (aC (fD results153 O ?_)))
     rw [Lib.encodeRuneZ_three (by omega)]
     have HX := H4
     rw [show q / 4096 % 256 = q / 4096 from by omega, show q / 64 % 64 % 256 = q / 64 % 64 from by omega, show q % 64 % 256 = q % 64 from by omega] at HX
     exact HX
    ·(try simp only [aF] at h3)
     refine dS (aP (aZ (bY O (aW (vW 18 262144 (by decide) (by decide) O O) ?_))))
     refine aW (iq O (by rw [underlying21]; rfl) bD) ?_
     refine aW (kS 4 16 (by decide) O O (by omega)) (bT O (aW (vW 12 4096 (by decide) (by decide) O O) (aW (Bf 6 63 64 (by decide) (by decide) (by decide) O O (by omega)) ?_)))
     refine aW (iq O (by rw [underlying21]; rfl) bD) ?_
     refine aW (kS 7 128 (by decide) O O (by omega)) (bT O (aW (vW 6 64 (by decide) (by decide) O O) (aW (Bf 6 63 64 (by decide) (by decide) (by decide) O O (by omega)) ?_)))
     refine aW (iq O (by rw [underlying21]; rfl) bD) ?_
     refine aW (kS 7 128 (by decide) O O (by omega)) (bT O (aW (Bf 6 63 64 (by decide) (by decide) (by decide) O O (by omega)) ?_))
     refine aW (iq O (by rw [underlying21]; rfl) bD) ?_
     refine aW (kS 7 128 (by decide) O O (by omega)) (iY (iU (k := .u8) (l := [_, _, _, _]) HJ bf eP kD O O O (by decide)) ?_)
     rintro l5 w5 H5
     refine ig O (fD results153 O ?_)
     rw [Lib.encodeRuneZ_four (by omega) (by omega)]
     have HX := H5
     rw [show q / 262144 % 256 = q / 262144 from by omega, show q / 4096 % 64 % 256 = q / 4096 % 64 from by omega, show q / 64 % 64 % 256 = q / 64 % 64 from by omega, show q % 64 % 256 = q % 64 from by omega] at HX
     exact HX
 ·skip
  refine bY O (fE O func162 (SE) ?_)
  rintro _ _ ⟨rfl, rfl⟩
  refine aW (mG O) (jv O (fun h4 => ?_) (fun h4 => ?_))
  ·(try simp only [aF] at h4)
   have hval : kN r = false := by simpa using h4
   refine aA (iC O (bZ ?_))
   refine gB (_) oO (Sub.nil _) (by (try dsimp only); exact ⟨⟨by omega, by first | rfl | (rw [J6 hval]; rfl)⟩, H⟩)
  ·(try simp only [aF] at h4)
   have hval : kN r = true := by simpa using h4
   have adD := hval
   unfold kN at adD
   simp only [decide_eq_true_eq] at adD
   refine dS ?_
   refine gB (_) oO (Sub.nil _) (by (try dsimp only); exact ⟨⟨by omega, by first | rfl | (rw [J6 hval]; rfl)⟩, H⟩)
end
end Go.Proofs.YtgofgnlkpeghcaaGreatDoor
end
