import Derived.Test.YtnhhmieghbfalaaGreatZ4
import Derived.Test.YtnhhmieghbfalaaGreatZ3
import Derived.Test.YtnhhmieghbfalaaGreatProg
set_option linter.unusedSimpArgs false
set_option linter.unusedVariables false
/- Texts of mine, joined, their names in short: Buf3 LineP Fun Imm Tab Move BLive Same Apply BufP Ring. -/
section
namespace Go.Proofs.YtnhhmieghbfalaaGreat
open Go.RowKit
open _root_.Go.Proofs.Tryz
section
variable {w0 w : World} {F : HP} {p : Nat} {L : List Int} {pt mk : Int} {v : Value} {l : List Int} {i j : Int}
theorem Kv {i j : Nat} (H : V w0 w (jo p L pt mk • F)) (hr : jY w0 F .i32 v l) (hb : i ≤ j ∧ j ≤ L.length) (hl : (L.length : Int) - ((j : Int) - i) + l.length ≤ 1024) :
    iQ prog 77 #[.pointer (some ⟨p, 0, none⟩), .int .i64 i, .int .i64 j, v] w fun v' w' => ∃ d s, v' = .tuple #[.agg (dY i d s), .int .i64 0] ∧
      V w0 w' (jg 21 .i32 d ((L.drop i).take (j - i)) • jg 21 .i32 s l • jo p (L.take i ++ l ++ L.drop j) (dP pt i j l.length) (dR mk i j l.length) • F) := by
  obtain ⟨a, c, rfl, hac, aes, _⟩ := (hr w H.right).open
  obtain ⟨hL4, hpt, hmk⟩ : L.length ≤ 1024 ∧ (0 ≤ pt ∧ pt ≤ L.length) ∧ (-1 ≤ mk ∧ mk ≤ L.length) := by obtain ⟨a, c, xs, f, t, h1, h2, h3, h4, h5, h6, h7, hc1, hc2, hl, H1⟩ := H.buf; exact ⟨h4, h6, h7⟩
  have hg1 := TY (L := L) (i := i) (r := l.length) (by omega)
  have hg2 := QJ (L := L) (i := i) (r := l.length) (by omega)
  have hg3 := QK (L := L) (i := i) (r := l.length) (by omega)
  have hL' : L.take i ++ l ++ L.drop j = (jv (mZ L i l.length) i l).take (i + l.length) ++ (jv (mZ L i l.length) i l).drop (i + l.length + 16 + (j - i)) := by
    rw [IB (by omega), QI (by omega) (by omega), hg2]
    congr 1
    rw [← List.drop_drop, hg3, List.drop_drop]
    congr 1; omega
  have hlen' : (L.take i ++ l ++ L.drop j).length = L.length - (j - i) + l.length := by simp; omega
  refine Hg func77 ntmps77 ?_
  refine lQ (jW (vU H bV) ?_)
  rintro _ w1 ⟨b1, rfl, H1⟩
  refine jZ O (bY O (fO O func41 (uM H1.right) ?_))
  rintro _ w2 ⟨rfl, hD⟩
  have HL := H1.wK hD
  refine uK O (bI (bY O (fO O func81 (yu HL.right) ?_)))
  rintro _ _ ⟨rfl, rfl⟩
  refine jZ O (eP O (fun h1 => ?_) (fun h1 => ?_))
  · (try simp only [aK] at h1)
    exfalso; first | contradiction | omega
  · (try simp only [aK] at h1)
    refine bY O (aZ (iE O O) (qG O (fun h2 => ?_) (fun h2 => ?_)))
    · (try simp only [aK] at h2)
      exfalso; first | contradiction | omega
    · (try simp only [aK] at h2)
      refine bK (dn O (bK (dn O (bK (aZ (gG O O) (lH O O (qG O (fun h3 => ?_) (fun h3 => ?_))))))))
      · (try simp only [aK] at h3)
        exfalso; first | contradiction | omega
      · (try simp only [aK] at h3)
        refine bK (dn O (bK (dn O (bK (aZ (iE O O) (lH O O (qG O (fun h4 => ?_) (fun h4 => ?_))))))))
        · (try simp only [aK] at h4)
          exfalso; first | contradiction | omega
        · (try simp only [aK] at h4)
          refine bK (dn O (bK (dn O (bK (aZ (gG O O) (lH O O (jZ O (Qs O (fun h5 => ?_)))))))))
          (try simp only [aK] at h5)
          refine bY O (aZ (iW aA O) (jw O O (dn O (aZ (lJ O O (by omega)) (aZ (lJ O O (by omega)) (aZ (lJ O O (by omega)) (aZ (gG O O) (jZ O (Qs O (fun h6 => ?_))))))))))
          (try simp only [aK] at h6)
          refine fV (aX (bC (bY O (dn O (fO O func85 (yj HL.swap) ?_)))))
          rintro u w8 H8
          obtain ⟨au, cu, hu, _⟩ := (H8.aG).form
          subst hu
          refine jw O O (aZ (sW aA iy O O O (by omega)) ?_)
          refine fO O func6 (rJ H8 (fun W HW => oL.cut HW.aG (i := i) (j := j) (by omega) (by omega)) (by simp; omega)) ?_
          rintro d w9 H9
          have HC := H9.swap.right
          obtain ⟨ad, cd, hd, _⟩ := (HC.aG).form
          subst hd
          refine dn O (fO O func6 (rJ HC hr.under.under.under (by omega)) ?_)
          rintro s w10 rD
          obtain ⟨ai, ci, hs, _⟩ := (rD.aG).form
          subst hs
          refine aZ (jd (pl := #[(0, 1), (1, 1), (2, 1)]) (dY i (.slice ad ((L.drop i).take (j - i)).length cd) (.slice ai l.length ci)) aP bV (fun w => by kernel_rfl) O (by kernel_rfl)) (jW (vU rD bV) ?_)
          rintro _ Hr ⟨b11, rfl, rX⟩
          refine aC (dM (cs := dY i (.slice ad ((L.drop i).take (j - i)).length cd) (.slice ai l.length ci)) rX bF O O O O (ku O O)) ?_
          rintro _ w12 vN
          refine pG O (jw O O (aZ (iW aA O) (fO O func118 (Pj vN.r4 (by omega) (by omega)) ?_)))
          rintro _ TB ⟨x, AB⟩
          obtain ⟨ax, cx, hx, _⟩ := (AB.swap.aG).form
          subst hx
          refine pG O (dA O (Z 3 bM O ah O (dL ay O AB.get.2 O (jw O O (aZ (lJ O O (by omega)) (aZ (fZ O O (by omega)) (dA O (Z 3 bM O ah O (aC (fE AB ah O O O (by rw [pI]; decide)) ?_)))))))))
          rintro _ Qu AL
          rw [EU] at AL
          have aeu := AL.get.2
          refine qJ ?_
          refine qx (n := 11) [0, 1, 2, 3, 4, 5, 6, 7, 8, 9, 10] (fun W => W.heap[p]? = some (.cells (jm (.slice ax (mZ L i l.length).length cx) i ((i + l.length + 16 : Nat) + ((j : Int) - i)) pt mk) 134 (0, 0))) (by kernel_rfl) (by kernel_rfl) O ?_
          have hS0 : (fun W => W.heap[p]? = some (.cells (jm (.slice ax (mZ L i l.length).length cx) i ((i + l.length + 16 : Nat) + ((j : Int) - i)) pt mk) 134 (0, 0))) (Qu.drew) := aeu
          have XL := AL.drew
          refine gK 0 O hS0 O (jL 1 O hS0 O (fH 2 O hS0 1 bM O bg O (iY 3 O hS0 (fun W hW => jQ aA O hW O) (gK 4 O hS0 O (jL 5 O hS0 O (fH 6 O hS0 2 bM O ah O (iY 7 O hS0 (fun W hW => jQ ay O hW O) (jR 8 O hS0 (fun _ => sW aA iy O O O (by omega)) ?_))))))))
          refine gK 9 O hS0 O (lU 10 O (Dc (i := i) (m := l) XL.swap (hr _ XL.right.right.right.right.right.right) aA (by kernel_rfl) O O (by omega)) ?_)
          rintro _ TD ⟨rfl, Bz⟩
          have HS := Bz.swap
          refine Iw (by kernel_rfl) ?_
          refine qN (bC (bY O (dA O (Z 2 bM O ah O (dL ay O HS.get.2 O (dn O (aZ (iW aA O) (aZ (fZ O O (by omega)) (dA O (Z 2 bM O ah O (aC (fE HS ah O O O (by rw [pI]; decide)) ?_)))))))))))
          rintro _ w16 wE
          rw [BG] at wE
          refine qJ (bI (bY O (dA O (Z 4 bM O ah O (dL ay O wE.get.2 O (dn O (aZ (gG O O) (jZ O (eP O (fun h7 => ?_) (fun h7 => ?_))))))))))
          · (try simp only [aK] at h7)
            refine aB (lM O O (Z 4 bM O ah O (dL ay O wE.get.2 O (dn O (aZ (iW aA O) (jw O O (aZ (lJ O O (by omega)) (aZ (lJ O O (by omega)) (aZ (fZ O O (by omega)) (dA O (Z 4 bM O ah O (aC (fE wE ah O O O (by rw [pI]; decide)) ?_))))))))))))
            rintro _ ZQ Dh
            rw [Eu] at Dh
            refine cO (aX (bC (aO (bI (bY O (dA O (Z 5 bM O ah O (dL ay O Dh.get.2 O (dn O (aZ (gG O O) (jZ O (eP O (fun h8 => ?_) (fun h8 => ?_)))))))))))))
            · (try simp only [aK] at h8)
              refine aB (lM O O (Z 5 bM O ah O (dL ay O Dh.get.2 O (dn O (aZ (iW aA O) (jw O O (aZ (lJ O O (by omega)) (aZ (lJ O O (by omega)) (aZ (fZ O O (by omega)) (dA O (Z 5 bM O ah O (aC (fE Dh ah O O O (by rw [pI]; decide)) ?_))))))))))))
              rintro _ Xv Ef
              rw [sZ] at Ef
              refine cO (aX (bC (aO ?_)))
              have tK := Ef.Jc
              refine aB (aZ (dF aP O bF O O tK.get.2) (aC (dM (cs := dY i (.slice ad ((L.drop i).take (j - i)).length cd) (.slice ai l.length ci)) tK.r6 bF O O O O (ku O O)) ?_))
              rintro _ Xw zN
              refine jP O ?_
              refine jl (.inl O) lX O O aP O (by rw [lY]; rfl) zN.get.2 ?_
              refine ⟨_, _, O, ?_⟩
              first
                | rw [show dP pt i j l.length = pt + ((l.length : Int) - ((j : Int) - i)) from by unfold dP; rw [if_pos (by omega)]]
                | rw [show dP pt i j l.length = (i : Int) + l.length from by unfold dP; rw [if_neg (by omega), if_pos (by omega)]]
                | rw [show dP pt i j l.length = pt from by unfold dP; rw [if_neg (by omega), if_neg (by omega)]]
              first
                | rw [show dR mk i j l.length = mk + ((l.length : Int) - ((j : Int) - i)) from by unfold dR; rw [if_pos (by omega)]]
                | rw [show dR mk i j l.length = (i : Int) from by unfold dR; rw [if_neg (by omega), if_pos (by omega)]]
                | rw [show dR mk i j l.length = mk from by unfold dR; rw [if_neg (by omega), if_neg (by omega)]]
              refine (V.wR (f := i + l.length) (t := i + l.length + 16 + (j - i)) (v := .slice ax (mZ L i l.length).length cx) (xs := jv (mZ L i l.length) i l) (by omega) (by rw [fM (by omega)]; omega) hL' (by omega) (by rw [fM (by omega)]; omega) (by omega) (by omega) ?_).d3.swap
              rw [show ((i + l.length : Nat) : Int) = (i : Int) + l.length from by omega, show ((i + l.length + 16 + (j - i) : Nat) : Int) = ((i + l.length + 16 : Nat) : Int) + ((j : Int) - i) from by omega]
              exact zN.right.right
            · (try simp only [aK] at h8)
              refine bY O (dA O (Z 5 bM O ah O (dL ay O Dh.get.2 O (dn O (aZ (gG O O) (jZ O (eP O (fun h9 => ?_) (fun h9 => ?_))))))))
              · (try simp only [aK] at h9)
                refine aB (jw O O (dA O (Z 5 bM O ah O (aC (fE Dh ah O O O (by rw [pI]; decide)) ?_))))
                rintro _ XM Ci
                rw [sZ] at Ci
                refine cO (aX (bC (aO ?_)))
                have tK := Ci.Jc
                refine aB (aZ (dF aP O bF O O tK.get.2) (aC (dM (cs := dY i (.slice ad ((L.drop i).take (j - i)).length cd) (.slice ai l.length ci)) tK.r6 bF O O O O (ku O O)) ?_))
                rintro _ Xx tK
                refine jP O ?_
                refine jl (.inl O) lX O O aP O (by rw [lY]; rfl) tK.get.2 ?_
                refine ⟨_, _, O, ?_⟩
                first
                  | rw [show dP pt i j l.length = pt + ((l.length : Int) - ((j : Int) - i)) from by unfold dP; rw [if_pos (by omega)]]
                  | rw [show dP pt i j l.length = (i : Int) + l.length from by unfold dP; rw [if_neg (by omega), if_pos (by omega)]]
                  | rw [show dP pt i j l.length = pt from by unfold dP; rw [if_neg (by omega), if_neg (by omega)]]
                first
                  | rw [show dR mk i j l.length = mk + ((l.length : Int) - ((j : Int) - i)) from by unfold dR; rw [if_pos (by omega)]]
                  | rw [show dR mk i j l.length = (i : Int) from by unfold dR; rw [if_neg (by omega), if_pos (by omega)]]
                  | rw [show dR mk i j l.length = mk from by unfold dR; rw [if_neg (by omega), if_neg (by omega)]]
                refine (V.wR (f := i + l.length) (t := i + l.length + 16 + (j - i)) (v := .slice ax (mZ L i l.length).length cx) (xs := jv (mZ L i l.length) i l) (by omega) (by rw [fM (by omega)]; omega) hL' (by omega) (by rw [fM (by omega)]; omega) (by omega) (by omega) ?_).d3.swap
                rw [show ((i + l.length : Nat) : Int) = (i : Int) + l.length from by omega, show ((i + l.length + 16 + (j - i) : Nat) : Int) = ((i + l.length + 16 : Nat) : Int) + ((j : Int) - i) from by omega]
                exact tK.right.right
              · (try simp only [aK] at h9)
                refine fV (aX (bC (aO ?_)))
                have tK := Dh.Jc
                refine aB (aZ (dF aP O bF O O tK.get.2) (aC (dM (cs := dY i (.slice ad ((L.drop i).take (j - i)).length cd) (.slice ai l.length ci)) tK.r6 bF O O O O (ku O O)) ?_))
                rintro _ w22 FN
                refine jP O ?_
                refine jl (.inl O) lX O O aP O (by rw [lY]; rfl) FN.get.2 ?_
                refine ⟨_, _, O, ?_⟩
                first
                  | rw [show dP pt i j l.length = pt + ((l.length : Int) - ((j : Int) - i)) from by unfold dP; rw [if_pos (by omega)]]
                  | rw [show dP pt i j l.length = (i : Int) + l.length from by unfold dP; rw [if_neg (by omega), if_pos (by omega)]]
                  | rw [show dP pt i j l.length = pt from by unfold dP; rw [if_neg (by omega), if_neg (by omega)]]
                first
                  | rw [show dR mk i j l.length = mk + ((l.length : Int) - ((j : Int) - i)) from by unfold dR; rw [if_pos (by omega)]]
                  | rw [show dR mk i j l.length = (i : Int) from by unfold dR; rw [if_neg (by omega), if_pos (by omega)]]
                  | rw [show dR mk i j l.length = mk from by unfold dR; rw [if_neg (by omega), if_neg (by omega)]]
                refine (V.wR (f := i + l.length) (t := i + l.length + 16 + (j - i)) (v := .slice ax (mZ L i l.length).length cx) (xs := jv (mZ L i l.length) i l) (by omega) (by rw [fM (by omega)]; omega) hL' (by omega) (by rw [fM (by omega)]; omega) (by omega) (by omega) ?_).d3.swap
                rw [show ((i + l.length : Nat) : Int) = (i : Int) + l.length from by omega, show ((i + l.length + 16 + (j - i) : Nat) : Int) = ((i + l.length + 16 : Nat) : Int) + ((j : Int) - i) from by omega]
                exact FN.right.right
          · (try simp only [aK] at h7)
            refine bY O (dA O (Z 4 bM O ah O (dL ay O wE.get.2 O (dn O (aZ (Cc O O) (jZ O (eP O (fun h10 => ?_) (fun h10 => ?_))))))))
            · (try simp only [aK] at h10)
              refine aB (jw O O (dn O (aZ (iW aA O) (aZ (fZ O O (by omega)) (dA O (Z 4 bM O ah O (aC (fE wE ah O O O (by rw [pI]; decide)) ?_)))))))
              rintro _ ZR BA
              rw [Eu] at BA
              refine cO (aX (bC (aO (bI (bY O (dA O (Z 5 bM O ah O (dL ay O BA.get.2 O (dn O (aZ (gG O O) (jZ O (eP O (fun h11 => ?_) (fun h11 => ?_)))))))))))))
              · (try simp only [aK] at h11)
                refine aB (lM O O (Z 5 bM O ah O (dL ay O BA.get.2 O (dn O (aZ (iW aA O) (jw O O (aZ (lJ O O (by omega)) (aZ (lJ O O (by omega)) (aZ (fZ O O (by omega)) (dA O (Z 5 bM O ah O (aC (fE BA ah O O O (by rw [pI]; decide)) ?_))))))))))))
                rintro _ w24 JD
                rw [sZ] at JD
                refine cO (aX (bC (aO ?_)))
                have tK := JD.Jc
                refine aB (aZ (dF aP O bF O O tK.get.2) (aC (dM (cs := dY i (.slice ad ((L.drop i).take (j - i)).length cd) (.slice ai l.length ci)) tK.r6 bF O O O O (ku O O)) ?_))
                rintro _ w25 JE
                refine jP O ?_
                refine jl (.inl O) lX O O aP O (by rw [lY]; rfl) JE.get.2 ?_
                refine ⟨_, _, O, ?_⟩
                first
                  | rw [show dP pt i j l.length = pt + ((l.length : Int) - ((j : Int) - i)) from by unfold dP; rw [if_pos (by omega)]]
                  | rw [show dP pt i j l.length = (i : Int) + l.length from by unfold dP; rw [if_neg (by omega), if_pos (by omega)]]
                  | rw [show dP pt i j l.length = pt from by unfold dP; rw [if_neg (by omega), if_neg (by omega)]]
                first
                  | rw [show dR mk i j l.length = mk + ((l.length : Int) - ((j : Int) - i)) from by unfold dR; rw [if_pos (by omega)]]
                  | rw [show dR mk i j l.length = (i : Int) from by unfold dR; rw [if_neg (by omega), if_pos (by omega)]]
                  | rw [show dR mk i j l.length = mk from by unfold dR; rw [if_neg (by omega), if_neg (by omega)]]
                refine (V.wR (f := i + l.length) (t := i + l.length + 16 + (j - i)) (v := .slice ax (mZ L i l.length).length cx) (xs := jv (mZ L i l.length) i l) (by omega) (by rw [fM (by omega)]; omega) hL' (by omega) (by rw [fM (by omega)]; omega) (by omega) (by omega) ?_).d3.swap
                rw [show ((i + l.length : Nat) : Int) = (i : Int) + l.length from by omega, show ((i + l.length + 16 + (j - i) : Nat) : Int) = ((i + l.length + 16 : Nat) : Int) + ((j : Int) - i) from by omega]
                exact JE.right.right
              · (try simp only [aK] at h11)
                refine bY O (dA O (Z 5 bM O ah O (dL ay O BA.get.2 O (dn O (aZ (gG O O) (jZ O (eP O (fun h12 => ?_) (fun h12 => ?_))))))))
                · (try simp only [aK] at h12)
                  refine aB (jw O O (dA O (Z 5 bM O ah O (aC (fE BA ah O O O (by rw [pI]; decide)) ?_))))
                  rintro _ w26 EW
                  rw [sZ] at EW
                  refine cO (aX (bC (aO ?_)))
                  have tK := EW.Jc
                  refine aB (aZ (dF aP O bF O O tK.get.2) (aC (dM (cs := dY i (.slice ad ((L.drop i).take (j - i)).length cd) (.slice ai l.length ci)) tK.r6 bF O O O O (ku O O)) ?_))
                  rintro _ w27 FP
                  refine jP O ?_
                  refine jl (.inl O) lX O O aP O (by rw [lY]; rfl) FP.get.2 ?_
                  refine ⟨_, _, O, ?_⟩
                  first
                    | rw [show dP pt i j l.length = pt + ((l.length : Int) - ((j : Int) - i)) from by unfold dP; rw [if_pos (by omega)]]
                    | rw [show dP pt i j l.length = (i : Int) + l.length from by unfold dP; rw [if_neg (by omega), if_pos (by omega)]]
                    | rw [show dP pt i j l.length = pt from by unfold dP; rw [if_neg (by omega), if_neg (by omega)]]
                  first
                    | rw [show dR mk i j l.length = mk + ((l.length : Int) - ((j : Int) - i)) from by unfold dR; rw [if_pos (by omega)]]
                    | rw [show dR mk i j l.length = (i : Int) from by unfold dR; rw [if_neg (by omega), if_pos (by omega)]]
                    | rw [show dR mk i j l.length = mk from by unfold dR; rw [if_neg (by omega), if_neg (by omega)]]
                  refine (V.wR (f := i + l.length) (t := i + l.length + 16 + (j - i)) (v := .slice ax (mZ L i l.length).length cx) (xs := jv (mZ L i l.length) i l) (by omega) (by rw [fM (by omega)]; omega) hL' (by omega) (by rw [fM (by omega)]; omega) (by omega) (by omega) ?_).d3.swap
                  rw [show ((i + l.length : Nat) : Int) = (i : Int) + l.length from by omega, show ((i + l.length + 16 + (j - i) : Nat) : Int) = ((i + l.length + 16 : Nat) : Int) + ((j : Int) - i) from by omega]
                  exact FP.right.right
                · (try simp only [aK] at h12)
                  refine fV (aX (bC (aO ?_)))
                  have tK := BA.Jc
                  refine aB (aZ (dF aP O bF O O tK.get.2) (aC (dM (cs := dY i (.slice ad ((L.drop i).take (j - i)).length cd) (.slice ai l.length ci)) tK.r6 bF O O O O (ku O O)) ?_))
                  rintro _ w28 MR
                  refine jP O ?_
                  refine jl (.inl O) lX O O aP O (by rw [lY]; rfl) MR.get.2 ?_
                  refine ⟨_, _, O, ?_⟩
                  first
                    | rw [show dP pt i j l.length = pt + ((l.length : Int) - ((j : Int) - i)) from by unfold dP; rw [if_pos (by omega)]]
                    | rw [show dP pt i j l.length = (i : Int) + l.length from by unfold dP; rw [if_neg (by omega), if_pos (by omega)]]
                    | rw [show dP pt i j l.length = pt from by unfold dP; rw [if_neg (by omega), if_neg (by omega)]]
                  first
                    | rw [show dR mk i j l.length = mk + ((l.length : Int) - ((j : Int) - i)) from by unfold dR; rw [if_pos (by omega)]]
                    | rw [show dR mk i j l.length = (i : Int) from by unfold dR; rw [if_neg (by omega), if_pos (by omega)]]
                    | rw [show dR mk i j l.length = mk from by unfold dR; rw [if_neg (by omega), if_neg (by omega)]]
                  refine (V.wR (f := i + l.length) (t := i + l.length + 16 + (j - i)) (v := .slice ax (mZ L i l.length).length cx) (xs := jv (mZ L i l.length) i l) (by omega) (by rw [fM (by omega)]; omega) hL' (by omega) (by rw [fM (by omega)]; omega) (by omega) (by omega) ?_).d3.swap
                  rw [show ((i + l.length : Nat) : Int) = (i : Int) + l.length from by omega, show ((i + l.length + 16 + (j - i) : Nat) : Int) = ((i + l.length + 16 : Nat) : Int) + ((j : Int) - i) from by omega]
                  exact MR.right.right
            · (try simp only [aK] at h10)
              refine fV (aX (bC (aO (bI (bY O (dA O (Z 5 bM O ah O (dL ay O wE.get.2 O (dn O (aZ (gG O O) (jZ O (eP O (fun h13 => ?_) (fun h13 => ?_)))))))))))))
              · (try simp only [aK] at h13)
                refine aB (lM O O (Z 5 bM O ah O (dL ay O wE.get.2 O (dn O (aZ (iW aA O) (jw O O (aZ (lJ O O (by omega)) (aZ (lJ O O (by omega)) (aZ (fZ O O (by omega)) (dA O (Z 5 bM O ah O (aC (fE wE ah O O O (by rw [pI]; decide)) ?_))))))))))))
                rintro _ w29 Ji
                rw [sZ] at Ji
                refine cO (aX (bC (aO ?_)))
                have tK := Ji.Jc
                refine aB (aZ (dF aP O bF O O tK.get.2) (aC (dM (cs := dY i (.slice ad ((L.drop i).take (j - i)).length cd) (.slice ai l.length ci)) tK.r6 bF O O O O (ku O O)) ?_))
                rintro _ w30 JF
                refine jP O ?_
                refine jl (.inl O) lX O O aP O (by rw [lY]; rfl) JF.get.2 ?_
                refine ⟨_, _, O, ?_⟩
                first
                  | rw [show dP pt i j l.length = pt + ((l.length : Int) - ((j : Int) - i)) from by unfold dP; rw [if_pos (by omega)]]
                  | rw [show dP pt i j l.length = (i : Int) + l.length from by unfold dP; rw [if_neg (by omega), if_pos (by omega)]]
                  | rw [show dP pt i j l.length = pt from by unfold dP; rw [if_neg (by omega), if_neg (by omega)]]
                first
                  | rw [show dR mk i j l.length = mk + ((l.length : Int) - ((j : Int) - i)) from by unfold dR; rw [if_pos (by omega)]]
                  | rw [show dR mk i j l.length = (i : Int) from by unfold dR; rw [if_neg (by omega), if_pos (by omega)]]
                  | rw [show dR mk i j l.length = mk from by unfold dR; rw [if_neg (by omega), if_neg (by omega)]]
                refine (V.wR (f := i + l.length) (t := i + l.length + 16 + (j - i)) (v := .slice ax (mZ L i l.length).length cx) (xs := jv (mZ L i l.length) i l) (by omega) (by rw [fM (by omega)]; omega) hL' (by omega) (by rw [fM (by omega)]; omega) (by omega) (by omega) ?_).d3.swap
                rw [show ((i + l.length : Nat) : Int) = (i : Int) + l.length from by omega, show ((i + l.length + 16 + (j - i) : Nat) : Int) = ((i + l.length + 16 : Nat) : Int) + ((j : Int) - i) from by omega]
                exact JF.right.right
              · (try simp only [aK] at h13)
                refine bY O (dA O (Z 5 bM O ah O (dL ay O wE.get.2 O (dn O (aZ (gG O O) (jZ O (eP O (fun h14 => ?_) (fun h14 => ?_))))))))
                · (try simp only [aK] at h14)
                  refine aB (jw O O (dA O (Z 5 bM O ah O (aC (fE wE ah O O O (by rw [pI]; decide)) ?_))))
                  rintro _ w31 MS
                  rw [sZ] at MS
                  refine cO (aX (bC (aO ?_)))
                  have tK := MS.Jc
                  refine aB (aZ (dF aP O bF O O tK.get.2) (aC (dM (cs := dY i (.slice ad ((L.drop i).take (j - i)).length cd) (.slice ai l.length ci)) tK.r6 bF O O O O (ku O O)) ?_))
                  rintro _ w32 Ht
                  refine jP O ?_
                  refine jl (.inl O) lX O O aP O (by rw [lY]; rfl) Ht.get.2 ?_
                  refine ⟨_, _, O, ?_⟩
                  first
                    | rw [show dP pt i j l.length = pt + ((l.length : Int) - ((j : Int) - i)) from by unfold dP; rw [if_pos (by omega)]]
                    | rw [show dP pt i j l.length = (i : Int) + l.length from by unfold dP; rw [if_neg (by omega), if_pos (by omega)]]
                    | rw [show dP pt i j l.length = pt from by unfold dP; rw [if_neg (by omega), if_neg (by omega)]]
                  first
                    | rw [show dR mk i j l.length = mk + ((l.length : Int) - ((j : Int) - i)) from by unfold dR; rw [if_pos (by omega)]]
                    | rw [show dR mk i j l.length = (i : Int) from by unfold dR; rw [if_neg (by omega), if_pos (by omega)]]
                    | rw [show dR mk i j l.length = mk from by unfold dR; rw [if_neg (by omega), if_neg (by omega)]]
                  refine (V.wR (f := i + l.length) (t := i + l.length + 16 + (j - i)) (v := .slice ax (mZ L i l.length).length cx) (xs := jv (mZ L i l.length) i l) (by omega) (by rw [fM (by omega)]; omega) hL' (by omega) (by rw [fM (by omega)]; omega) (by omega) (by omega) ?_).d3.swap
                  rw [show ((i + l.length : Nat) : Int) = (i : Int) + l.length from by omega, show ((i + l.length + 16 + (j - i) : Nat) : Int) = ((i + l.length + 16 : Nat) : Int) + ((j : Int) - i) from by omega]
                  exact Ht.right.right
                · (try simp only [aK] at h14)
                  refine fV (aX (bC (aO ?_)))
                  have tK := wE.Jc
                  refine aB (aZ (dF aP O bF O O tK.get.2) (aC (dM (cs := dY i (.slice ad ((L.drop i).take (j - i)).length cd) (.slice ai l.length ci)) tK.r6 bF O O O O (ku O O)) ?_))
                  rintro _ w33 Pm
                  refine jP O ?_
                  refine jl (.inl O) lX O O aP O (by rw [lY]; rfl) Pm.get.2 ?_
                  refine ⟨_, _, O, ?_⟩
                  first
                    | rw [show dP pt i j l.length = pt + ((l.length : Int) - ((j : Int) - i)) from by unfold dP; rw [if_pos (by omega)]]
                    | rw [show dP pt i j l.length = (i : Int) + l.length from by unfold dP; rw [if_neg (by omega), if_pos (by omega)]]
                    | rw [show dP pt i j l.length = pt from by unfold dP; rw [if_neg (by omega), if_neg (by omega)]]
                  first
                    | rw [show dR mk i j l.length = mk + ((l.length : Int) - ((j : Int) - i)) from by unfold dR; rw [if_pos (by omega)]]
                    | rw [show dR mk i j l.length = (i : Int) from by unfold dR; rw [if_neg (by omega), if_pos (by omega)]]
                    | rw [show dR mk i j l.length = mk from by unfold dR; rw [if_neg (by omega), if_neg (by omega)]]
                  refine (V.wR (f := i + l.length) (t := i + l.length + 16 + (j - i)) (v := .slice ax (mZ L i l.length).length cx) (xs := jv (mZ L i l.length) i l) (by omega) (by rw [fM (by omega)]; omega) hL' (by omega) (by rw [fM (by omega)]; omega) (by omega) (by omega) ?_).d3.swap
                  rw [show ((i + l.length : Nat) : Int) = (i : Int) + l.length from by omega, show ((i + l.length + 16 + (j - i) : Nat) : Int) = ((i + l.length + 16 : Nat) : Int) + ((j : Int) - i) from by omega]
                  exact Pm.right.right
end
def mvP (n : Nat) (pt x : Int) : Int := if 0 ≤ x ∧ x ≤ n then x else pt
def mvE (n : Nat) (x : Int) : Int := if 0 ≤ x ∧ x ≤ n then 0 else 70
def lN (v : Value) (pt mk : Int) : Array Value := #[v, .int .i64 pt, .int .i64 mk]
theorem N8 {v : Value} {pt mk : Int} (h : v.oneCell' = true) : ∀ u ∈ (lN v pt mk).toList, u.oneCell' = true := by
  intro u hu
  simp [lN] at hu
  rcases hu with rfl | rfl | rfl
  · exact h
  · rfl
  · rfl
section
variable {w0 w : World} {F : HP} {p : Nat} {L : List Int} {pt mk x : Int} {v : Value} {l : List Int}
theorem FQ (H : V w0 w (jo p L pt mk • F)) : iQ prog 38 #[.pointer (some ⟨p, 0, none⟩)] w fun v' w' => ∃ u, v' = .agg (lN u pt mk) ∧ V w0 w' (jg 21 .i32 u L • jo p L pt mk • F) := by
 refine jH func38 ntmps38 ?_
 refine lQ (jW (vU H oU) ?_)
 rintro _ w1 ⟨b1, rfl, H1⟩
 refine pG O (fO O func85 (yj H1.swap) ?_)
 rintro u w2 H2
 obtain ⟨au, cu, hu, _⟩ := (H2.aG).form
 subst hu
 refine dn O (fO O func34 (rM H2.swap) ?_)
 rintro _ _ ⟨rfl, rfl⟩
 refine dn O (fO O func86 (Ph H2.swap) ?_)
 rintro _ _ ⟨rfl, rfl⟩
 refine aZ (jd (pl := #[(0, 1), (1, 1), (2, 1)]) (lN (.slice au L.length cu) pt mk) dU oU (fun w => by kernel_rfl) O (by kernel_rfl)) (aC (dM (cs := lN (.slice au L.length cu) pt mk) H2.Jc kH O O O O (N8 O)) ?_)
 rintro _ w5 H5
 refine XJ ?_
 refine U7 (.inl O) results38 O dU O (by rw [N9]; rfl) H5.get.2 ?_
 exact ⟨_, O, H5.right⟩
end
end Go.Proofs.YtnhhmieghbfalaaGreat
end
section
namespace Go.Proofs.YtnhhmieghbfalaaGreat
open Go.RowKit
section
variable {P : Program} {L : List (Nat × Value)} {w0 w : World} {F : HP} {ty : TypeId}
def Va (P : Program) (fv : Value) (vs : List Value) (w : World) (T : Value → World → Prop) : Prop :=
  ∃ f first cap fn c, fv = .func (.func f) (List.toArray first) (List.toArray cap) ∧ P.funcs[f]? = some fn ∧ (fn.name == "runtime.NumGoroutine") = false ∧ fn.body = some c ∧ iQ P f (first ++ vs ++ cap).toArray w T
theorem V8 {x : Operand} {args : List Operand} {ts : Array TypeId} {fv : Value} {vs : List Value} {T : Value → World → Prop} (hx : ev L x = some fv) (ha : GV L args = some vs) (h : Va P fv vs w T) :
    xu P L (.call ⟨.value x, args.toArray, ts⟩) ty w T := by
  obtain ⟨f, first, cap, fn, c, rfl, hf, hn, hb, hr⟩ := h
  exact oJ (TK hx ha hf hn hb) hr
def af8 (P : Program) (w0 : World) (F : HP) (fv : Value) (g : Int → Bool) : Prop :=
  fv.oneCell' = true ∧ ∀ (G : HP) (W : World), V w0 W (G • F) → ∀ r, Va P fv [.int .i32 r] W fun v W' => v = .bool (g r) ∧ V w0 W' (G • F)
end
def Eh (I : Hp) (k : IntKind) (v : Value) (l : List Int) : Prop := ∃ a c, v = .slice a l.length c ∧ l.length ≤ c ∧ (c : Int) ≤ 9223372036854775807 ∧
  (0 < l.length → ∃ b o cs e fr, a = some ⟨b, o, none⟩ ∧ I b = some (.cells cs e fr) ∧ ∀ j, j < l.length → cs[o + j]? = some (.int k (l.getD j 0)))
theorem Eh.mono {I I' : Hp} {k : IntKind} {v : Value} {l : List Int} (hl : Hp.le I I') (h : Eh I k v l) : Eh I' k v l := by
  obtain ⟨a, c, h1, h2, h3, h4⟩ := h
  exact ⟨a, c, h1, h2, h3, fun hp => let ⟨b, o, cs, e, fr, e1, e2, e3⟩ := h4 hp; ⟨b, o, cs, e, fr, e1, hl _ _ e2, e3⟩⟩
def qK (k : IntKind) (v : Value) (l : List Int) : HP := know (fun I => Eh I k v l) fun _ _ hl h => h.mono hl
theorem oL.mk {w : World} {k : IntKind} {v : Value} {l : List Int} {a : Option Addr} {c : Nat} (h1 : v = .slice a l.length c) (h2 : l.length ≤ c) (h3 : (c : Int) ≤ 9223372036854775807)
    (h4 : 0 < l.length → ∃ b o, a = some ⟨b, o, none⟩ ∧ ∀ j, j < l.length → w.cell? ⟨b, o + j, none⟩ = some (.int k (l.getD j 0))) : oL w k v l := by
  refine ⟨by simp, a, c, h1, h2, h3, fun hp => ?_⟩
  obtain ⟨b, o, e, hc⟩ := h4 hp
  refine ⟨b, o, e, fun j hj => ?_⟩
  rw [hc j (by omega)]
  simp [List.getD_eq_getElem?_getD, show j < l.length by omega]
theorem Eh.rd {w : World} {n : Nat} {I : Hp} {k : IntKind} {v : Value} {l : List Int} (h : Eh I k v l) (hI : ∀ k o, I k = some o → n ≤ k ∧ w.heap[k]? = some o) : oL w k v l := by
  obtain ⟨a, c, h1, h2, h3, h4⟩ := h
  exact oL.mk h1 h2 h3 fun hp => let ⟨b, o, cs, e, fr, e1, e2, e3⟩ := h4 hp; ⟨b, o, e1, fun j hj => mQ (hI _ _ e2).2 (e3 j hj)⟩
section
variable {w0 w : World} {F : HP} {e : TypeId} {k : IntKind} {v : Value} {l : List Int}
theorem V.pJ (H : V w0 w (qK k v l • F)) : oL w k v l := let ⟨I, h, hI⟩ := H.sV; h.rd hI
theorem oM {K K' : Hp → Prop} {hK : ∀ I I', Hp.le I I' → K I → K I'} {hK' : ∀ I I', Hp.le I I' → K' I → K' I'} (h : ∀ I, K I → K' I) (B : HP) : OZ (know K hK • B) (know K' hK' • B) := fun I x ha =>
  (rE K' hK' B I x).2 ⟨h I ((rE K hK B I x).1 ha).1, ((rE K hK B I x).1 ha).2⟩
theorem rF {K K' M : Hp → Prop} {hK : ∀ I I', Hp.le I I' → K I → K I'} {hK' : ∀ I I', Hp.le I I' → K' I → K' I'} {hM : ∀ I I', Hp.le I I' → M I → M I'} (h : ∀ I, K I → K' I → M I) (B : HP) : OZ (know K hK • know K' hK' • B) (know M hM • B) := fun I x ha => by
  have h1 := (rE K hK _ I x).1 ha
  have h2 := (rE K' hK' _ I x).1 h1.2
  exact (rE M hM B I x).2 ⟨h I h1.1 h2.1, h2.2⟩
theorem V.yw {K : Hp → Prop} {hK : ∀ I I', Hp.le I I' → K I → K I'} (h : ∀ I, K I) (H : V w0 w F) : V w0 w (know K hK • F) := H.CV fun I x ha => (rE K hK F I x).2 ⟨h I, ha⟩
theorem V.iZ (H : V w0 w (jg e k v l • F)) : V w0 w (qK k v l • F) := by
  rcases H.uh with ⟨a, rfl, h1, h2, H1⟩ | ⟨g, o, c, cur, rfl, h2, h3, h4, h5, H1⟩
  · have hl : l = [] := by simpa using h2
    subst hl
    exact H1.O4.CV fun I x ha => (rE _ _ F I x).2 ⟨⟨a, 0, rfl, by simp, by decide, fun h => by simp at h⟩, by rw [Go.Proofs.YtnhhmieghbfalaaGreat.qM] at ha; exact ha⟩
  · refine H1.freeze.CV (oM (fun I hI => ⟨_, c, rfl, h2, h3, fun _ => ⟨g, o, cur, e, (0, 0), rfl, hI, fun j hj => ?_⟩⟩) F)
    rw [h5 j (by omega)]
    simp [List.getD_eq_getElem?_getD, hj]
end
def XO (r : Int) : Bool := decide (0 ≤ r ∧ r < 55296 ∨ 57343 < r ∧ r ≤ 1114111)
def QL (r : Int) : Bool := decide (0 ≤ r ∧ r < 32 ∨ 127 ≤ r ∧ r ≤ 159)
def within (r : Int) (T : List (Int × Int)) : Bool := T.any fun x => decide (x.1 ≤ r ∧ r ≤ x.2)
def aaW : List (Int × Int) := [(768, 879), (1155, 1161), (1425, 1469), (1552, 1562), (1611, 1631), (3633, 3633), (3636, 3642), (3655, 3662), (6832, 6911), (7616, 7679), (8203, 8207), (8400, 8447), (12441, 12442), (65024, 65039), (65056, 65071)]
def aaX : List (Int × Int) := [(4352, 4447), (11904, 12350), (12353, 13311), (13312, 19903), (19968, 40959), (40960, 42191), (44032, 55203), (63744, 64255), (65072, 65135), (65280, 65376), (65504, 65510), (127744, 128591), (129280, 129535), (131072, 262141)]
def XP (r : Int) : Int := if !XO r || QL r || within r aaW then 0 else if within r aaX then 2 else 1
def JG (r : Int) : Bool :=
  if r < 192 then decide (48 ≤ r ∧ r ≤ 57 ∨ 65 ≤ r ∧ r ≤ 90 ∨ 97 ≤ r ∧ r ≤ 122)
  else if r = 215 ∨ r = 247 ∨ r = 65533 ∨ 8192 ≤ r ∧ r ≤ 8303 ∨ 12288 ≤ r ∧ r ≤ 12351 ∨ 65280 ≤ r ∧ r ≤ 65295 then false
  else XO r && decide (0 < XP r)
theorem V.cell {w0 w : World} {F : HP} (H : V w0 w F) {a : Addr} {v : Value} (h : w0.cell? a = some v) : w.cell? a = some v := (H.base.cell (World.block_lt_of_cell? _ _ h)).trans h
def Vb (T : List (Int × Int)) : List Value := T.flatMap fun x => [.int .i32 x.1, .int .i32 x.2]
structure ag1 (w : World) : Prop where
  af9 : Rd w 2 (.slice (some ⟨0, 0, none⟩) 15 15) 15 (Vb aaW)
  aga : Rd w 2 (.slice (some ⟨1, 0, none⟩) 14 14) 14 (Vb aaX)
section
variable {w0 w : World} {F : HP} {r : Int}
end
def XQ (g : Int → Bool) (l : List Int) (at_ : Nat) : Nat := at_ + ((l.drop at_).takeWhile g).length
def XR (g : Int → Bool) (l : List Int) (at_ : Nat) : Nat := at_ - ((l.take at_).reverse.takeWhile g).length
def FT (n : Nat) (x : Int) : Nat := (min (max x 0) n).toNat
section
variable {w0 w : World} {F G : HP} {v fv : Value} {l : List Int} {g : Int → Bool}
def ac3 (l : List Int) (x : Int) : Nat := XQ JG l (XQ (fun r => !JG r) l (FT l.length x))
def abE (l : List Int) (x : Int) : Nat := XR JG l (XR (fun r => !JG r) l (FT l.length x))
def Vd (r : Int) : Bool := decide (XP r ≠ 0) || QL r
def agb (l : List Int) (x : Int) : Nat := if FT l.length x < l.length then XQ (fun r => !Vd r) l (FT l.length x + 1) else l.length
def agc (l : List Int) (x : Int) : Nat := XR (fun r => !Vd r) l (FT l.length x) - 1
end
section
variable {w0 w : World} {F : HP} {p : Nat} {L : List Int} {pt mk : Int} {v : Value} {l : List Int}
end
end Go.Proofs.YtnhhmieghbfalaaGreat
end
section
namespace Go.Proofs.YtnhhmieghbfalaaGreat
open Go.RowKit
open _root_.Go.Proofs.Tryz
theorem QM (w : World) (v1 v2 : Value) (l1 l2 : List Int) (h1 : oL w .i32 v1 l1) (h2 : oL w .i32 v2 l2) :
  iQ prog 106 #[v1, v2] w fun v w' => v = .bool (l1 == l2) ∧ wP w w' := by
 obtain ⟨a1, c1, rfl, hc1, hm1, hr1⟩ := h1.open
 obtain ⟨a2, c2, rfl, hc2, hm2, hr2⟩ := h2.open
 clear h1 h2
 refine qQ func106 ntmps106 ?_
 refine kW O (aO (bY O (aZ (iW aA O) (dn O (aZ (iW aA O) (aZ (fF O O) (kE O (fun h1 => ?_) (fun h1 => ?_))))))))
 ·(try simp only [aK] at h1)
  refine nM O (aV (gy results106 O ?_))
  exact ⟨by rw [show (l1 == l2) = false from beq_eq_false_iff_ne.2 (by rintro rfl; exact h1 rfl)], wP.refl _⟩
 ·(try simp only [aK] at h1)
  refine gX (aO (kW O (bI ?_)))
  refine iC [(0, _), (1, _)] (fun (k : Nat) => [(5, .int .i64 (k : Int))]) (fun (k : Nat) W => k ≤ l1.length ∧ l1.length = l2.length ∧ l1.take k = l2.take k ∧ wP w W) (fun (k : Nat) => l1.length - k) (0) uj pY ⟨by omega, by omega, by simp, wP.refl _⟩ ?_
  rintro k w1 ⟨hk, hl, ht, hD⟩
  dsimp only [List.cons_append, List.nil_append]
  refine aO (bY O (dn O (aZ (iW aA O) (aZ (iE O O) (kE O (fun h2 => ?_) (fun h2 => ?_))))))
  ·(try simp only [aK] at h2)
   refine gX (aO (bI (aO ?_)))
   obtain ⟨b1, o1, rfl, hq1⟩ := hr1 (by omega)
   obtain ⟨b2, o2, rfl, hq2⟩ := hr2 (by omega)
   have hc1 := hq1 k (by omega)
   have hc2 := hq2 k (by omega)
   refine qx (n := 9) [0, 1, 2, 3, 4, 5, 6, 7, 8] (fun W => W.heap = w1.heap) (by kernel_rfl) (by kernel_rfl) O ?_
   have hS0 : (fun W => W.heap = w1.heap) (w1.drew) := rfl
   refine gK 0 O hS0 O (gK 1 O hS0 O (jR 2 O hS0 (fun _ => eG aA iy O O (by omega)) ?_))
   refine iY 3 O hS0 (fun W hW => jk (eH underlying21 O) O (by rw [AO (hW.trans hD.heap)]; simpa using hc1)) ?_
   refine gK 4 O hS0 O (gK 5 O hS0 O (jR 6 O hS0 (fun _ => eG aA iy O O (by omega)) ?_))
   refine iY 7 O hS0 (fun W hW => jk (eH underlying21 O) O (by rw [AO (hW.trans hD.heap)]; simpa using hc2)) ?_
   refine jR 8 O hS0 (fun _ => fF O O) (qN (bC (eP O (fun h3 => ?_) (fun h3 => ?_))))
   ·(try simp only [aK] at h3)
    refine nM O (dO (aV (aV (dO (aV (gy results106 O ?_))))))
    exact ⟨by rw [show (l1 == l2) = false from beq_eq_false_iff_ne.2 (by rintro rfl; exact h3 rfl)], hD.drew⟩
   ·(try simp only [aK] at h3)
    refine fV (aX (bC (aB (dn O (aZ (fZ O O (by omega)) (oD O (cO ?_)))))))
    refine eX (k + 1) ?_ ?_ ?_ ?_
    ·exact pY
    ·exact uj
    ·(try dsimp only)
     first | done | exact ⟨by omega, by omega, FM (by omega) (by omega) ht (by simpa using h3), hD.drew⟩
    ·(try dsimp only); omega
  ·(try simp only [aK] at h2)
   refine gY (aY (aY (dw (bC (nM O (gy results106 O ?_))))))
   exact ⟨by rw [show (l1 == l2) = true from beq_iff_eq.2 (by rw [List.take_of_length_le (by omega), List.take_of_length_le (by omega)] at ht; exact ht)], hD⟩
theorem QN (w : World) (v1 v2 : Value) (l : List Int) (h1 : oL w .i32 v1 l) (h2 : oL w .i32 v2 l) :
    iQ prog 106 #[v1, v2] w fun v w' => v = .bool true ∧ wP w w' := by
  have := QM w v1 v2 l l h1 h2
  simpa using this
end Go.Proofs.YtnhhmieghbfalaaGreat
end
section
namespace Go.Proofs.YtnhhmieghbfalaaGreat
open Go.RowKit
section
variable {w0 w : World} {F : HP} {p : Nat} {L : List Int} {pt mk a : Int} {d i : Value} {dl il : List Int}
end
end Go.Proofs.YtnhhmieghbfalaaGreat
end
section
namespace Go.Proofs.YtnhhmieghbfalaaGreat
open Go.RowKit
open _root_.Go.Proofs.Tryz
def kQ (L : List Int) (i j : Int) (l : List Int) : Int := if i < 0 ∨ L.length < i ∨ j < i ∨ L.length < j then 70 else if 1024 < L.length - (j - i) + l.length then 3 else 0
def lZ (L : List Int) (i j : Int) (l : List Int) : List Int := if kQ L i j l = 0 then L.take i.toNat ++ l ++ L.drop j.toNat else L
def rG (L : List Int) (pt i j : Int) (l : List Int) : Int := if kQ L i j l = 0 then dP pt i j l.length else pt
def tN (L : List Int) (mk i j : Int) (l : List Int) : Int := if kQ L i j l = 0 then dR mk i j l.length else mk
def rH (L : List Int) (i j : Int) (l : List Int) : Int := if kQ L i j l = 0 then i else 0
def ng (L : List Int) (i j : Int) (l : List Int) : List Int := if kQ L i j l = 0 then (L.drop i.toNat).take (j - i).toNat else []
def ni (L : List Int) (i j : Int) (l : List Int) : List Int := if kQ L i j l = 0 then l else []
section
variable {w0 w : World} {F : HP} {p : Nat} {L : List Int} {pt mk : Int} {v d s : Value} {l dl il : List Int} {i j a x : Int}
theorem Jj (H : V w0 w (jo p L pt mk • F)) (hr : jY w0 F .i32 v l) :
    iQ prog 77 #[.pointer (some ⟨p, 0, none⟩), .int .i64 i, .int .i64 j, v] w fun v' w' => ∃ d s, v' = .tuple #[.agg #[.int .i64 (rH L i j l), d, s], .int .i64 (kQ L i j l)] ∧
      V w0 w' (jg 21 .i32 d (ng L i j l) • jg 21 .i32 s (ni L i j l) • jo p (lZ L i j l) (rG L pt i j l) (tN L mk i j l) • F) := by
  unfold rH lZ rG tN ng ni
  by_cases h1 : i < 0 ∨ L.length < i ∨ j < i ∨ L.length < j
  · have e : kQ L i j l = 70 := by unfold kQ; rw [if_pos h1]
    simp only [e, show ¬ (70 : Int) = 0 from by decide, if_false]
    exact (Jh H hr h1).mono fun v' w' h => ⟨_, _, h.1, (h.2.xC none).xC none⟩
  · have h2 : 0 ≤ i ∧ i ≤ j ∧ j ≤ L.length := by omega
    by_cases h3 : 1024 < L.length - (j - i) + l.length
    · have e : kQ L i j l = 3 := by unfold kQ; rw [if_neg h1, if_pos h3]
      simp only [e, show ¬ (3 : Int) = 0 from by decide, if_false]
      exact (Ho H hr h2 h3).mono fun v' w' h => ⟨_, _, h.1, (h.2.xC none).xC none⟩
    · have e : kQ L i j l = 0 := by unfold kQ; rw [if_neg h1, if_neg h3]
      simp only [e, if_true]
      obtain ⟨i', rfl⟩ := Int.eq_ofNat_of_zero_le h2.1
      obtain ⟨j', rfl⟩ := Int.eq_ofNat_of_zero_le (show 0 ≤ j by omega)
      have hij : i' ≤ j' ∧ j' ≤ L.length := by omega
      have := Kv (i := i') (j := j') H hr hij (by omega)
      simpa only [Int.toNat_natCast, show ((j' : Int) - (i' : Int)).toNat = j' - i' from by omega, dY] using this
def smE (L : List Int) (x : Int) : Int := if x < -1 ∨ L.length < x then 70 else 0
def smM (L : List Int) (mk x : Int) : Int := if x < -1 ∨ L.length < x then mk else x
def swE (mk : Int) : Int := if mk < 0 then 6 else 0
def swP (pt mk : Int) : Int := if mk < 0 then pt else mk
def swM (pt mk : Int) : Int := if mk < 0 then mk else pt
theorem MV (H : V w0 w (jo p L pt mk • F)) : iQ prog 72 #[.pointer (some ⟨p, 0, none⟩)] w fun v' w' => ∃ q, v' = .pointer (some ⟨q, 0, none⟩) ∧ V w0 w' (jo q L pt mk • jo p L pt mk • F) := by
 refine jH func72 ntmps72 ?_
 refine kW O (aO (bY O (fO O func81 (yu H) ?_)))
 rintro _ _ ⟨rfl, rfl⟩
 refine iF (vX (gX (aO ?_)))
 obtain ⟨ag2, ag3, ag4, f_p, t_p, ac4, ac5, ac6, ac7, ac8, ac9, ag5, ag6, ag7, agd, ada⟩ := (H).buf
 refine aB (lM O O (aZ (dF bM O sizeOf134 O O (ada).get.2) (jW (gq (l := [_, _, _, _, _, _]) ada zeroValue134 O) ?_)))
 rintro _ w3 ⟨b3, rfl, H3⟩
 refine aC (dD 0 (l' := [_, _, _, _, _, _]) (us := [_, _, _, _, _, _]) H3 sizeOf134 O O O (aH (aW (by first | rfl | exact Rd.one ((H3.f3).aG)) (aH (aH (aH (aH bG)))))) O O) ?_
 rintro _ w4 H4
 refine pG O (dA O (Z 1 bM O bg O (dL aA O (H4.f2).get.2 O (fO O func6 (rJ H4 (fun W HW => (HW.f3).aG) (by omega)) ?_))))
 rintro u5 w5 H5
 refine Z 1 bM O bg O (aC (dX 1 (l' := [_, _, _, _, _, _]) H5.f2 bg O O (by first | rfl | exact Rd.one ((H5).aG)) O O) ?_)
 rintro _ w6 H6
 refine iF (nM O (gy results72 O ?_))
 exact ⟨_, O, (V.wR ac4 ac5 ac6 ac7 ac8 ac9 (by omega) (V.wR ac4 ac5 ac6 ac7 ac8 ac9 (by omega) H6.f4.f4.f4.f4).f2.f3.f2).f2⟩
def QO (L : List Int) (a : Int) (dl : List Int) : Bool := decide ((dl.length : Int) ≤ L.length - a) && ((L.drop a.toNat).take dl.length == dl)
def Ua (L : List Int) (a : Int) (dl il : List Int) : Int := if a < 0 ∨ L.length < a then 70 else if QO L a dl then kQ L a (a + dl.length) il else 71
def Kw (L : List Int) (a : Int) (dl il : List Int) : List Int := if Ua L a dl il = 0 then lZ L a (a + dl.length) il else L
def aev (L : List Int) (pt a : Int) (dl il : List Int) : Int := if Ua L a dl il = 0 then rG L pt a (a + dl.length) il else pt
def aew (L : List Int) (mk a : Int) (dl il : List Int) : Int := if Ua L a dl il = 0 then tN L mk a (a + dl.length) il else mk
end
def dS (s : List Value) (h n p : Nat) : Array Value := (Value.bool true :: (s ++ [.int .i64 h, .int .i64 n, .int .i64 p])).toArray
section
variable {s : List Value} {h n p : Nat}
theorem pF (hs : s.length = 60) : (dS s h n p).size = 64 := by simp [dS, hs]
theorem Ag : (dS s h n p)[0]? = some (.bool true) := by simp [dS]
theorem Oa (hs : s.length = 60) {i : Nat} (hi : i < 60) : (dS s h n p)[1 + i]? = some (s.getD i undef) := by
  simp [dS, Nat.add_comm 1 i, List.getElem?_append_left (show i < s.length by omega), List.getD_eq_getElem?_getD, show i < s.length by omega]
theorem AQ (hs : s.length = 60) : (dS s h n p)[61]? = some (.int .i64 h) := by simp [dS, hs]
theorem qc (hs : s.length = 60) : (dS s h n p)[62]? = some (.int .i64 n) := by simp [dS, hs]
theorem Ky (hs : s.length = 60) : (dS s h n p)[63]? = some (.int .i64 p) := by simp [dS, hs]
theorem MW (hs : s.length = 60) (x : Nat) : (dS s h n p).setIfInBounds 61 (.int .i64 x) = dS s x n p := by
  apply Array.ext'; simp [dS, List.set_append, hs]
theorem MX (hs : s.length = 60) (x : Nat) : (dS s h n p).setIfInBounds 62 (.int .i64 x) = dS s h x p := by
  apply Array.ext'; simp [dS, List.set_append, hs]
theorem qR (hs : s.length = 60) (x : Nat) : (dS s h n p).setIfInBounds 63 (.int .i64 x) = dS s h n x := by
  apply Array.ext'; simp [dS, List.set_append, hs]
theorem Ah (hs : s.length = 60) {i : Nat} (hi : i < 60) (v : Value) : (dS s h n p).setIfInBounds (1 + i) v = dS (s.set i v) h n p := by
  apply Array.ext'; simp [dS, Nat.add_comm 1 i, List.set_append, hs, hi]
end
def QS (I : Hp) (s : List Value) (h : Nat) (E : List (List Int)) : Prop := ∀ i, i < E.length → Eh I .i32 (s.getD ((h + i) % 60) undef) (E.getD i [])
def BH (s : List Value) (h : Nat) (E : List (List Int)) : HP := know (fun I => QS I s h E) fun _ _ hl hk i hi => (hk i hi).mono hl
def fJ (p : Nat) (E : List (List Int)) (place : Nat) : HP := wF fun (x : List Value × Nat) =>
  fact (x.1.length = 60 ∧ x.2 < 60 ∧ E.length ≤ 60 ∧ (place < E.length ∨ place = 0) ∧ (∀ e ∈ E, e.length ≤ 1024) ∧ ∀ v ∈ x.1, v.oneCell' = true) • eF p (.cells (dS x.1 x.2 E.length place) 158 (0, 0)) • BH x.1 x.2 E
section
variable {w0 w : World} {F : HP} {p place : Nat} {E : List (List Int)}
theorem V.ring (H : V w0 w (fJ p E place • F)) : ∃ s h, s.length = 60 ∧ h < 60 ∧ E.length ≤ 60 ∧ (place < E.length ∨ place = 0) ∧ (∀ e ∈ E, e.length ≤ 1024) ∧ (∀ v ∈ s, v.oneCell' = true) ∧ V w0 w (eF p (.cells (dS s h E.length place) 158 (0, 0)) • BH s h E • F) := by
  obtain ⟨⟨s, h⟩, H⟩ := H.oN
  obtain ⟨⟨h1, h2, h3, h4, h5, h6⟩, H⟩ := H.flat.fact
  exact ⟨s, h, h1, h2, h3, h4, h5, h6, H.flat⟩
theorem V.yx {s : List Value} {h : Nat} (h1 : s.length = 60) (h2 : h < 60) (h3 : E.length ≤ 60) (h4 : place < E.length ∨ place = 0) (h5 : ∀ e ∈ E, e.length ≤ 1024) (h6 : ∀ v ∈ s, v.oneCell' = true) (H : V w0 w (eF p (.cells (dS s h E.length place) 158 (0, 0)) • BH s h E • F)) : V w0 w (fJ p E place • F) :=
  V.ji (s, h) (V.deep (V.oG ⟨h1, h2, h3, h4, h5, h6⟩ H.deep))
theorem Pn (H : V w0 w F) : iQ prog 69 #[] w fun v w' => ∃ p, v = .pointer (some ⟨p, 0, none⟩) ∧ V w0 w' (fJ p [] 0 • F) := by
  refine abD func69 ntmps69 ?_
  refine kW O (lQ (aZ (jd (pl := #[(0, 1), (1, 60), (61, 1), (62, 1), (63, 1)]) (dS (List.replicate 60 (.slice none 0 0)) 0 0 0) dh zeroValue158 (fun w => by kernel_rfl) O (by kernel_rfl)) (jW (NV H O) ?_)))
  rintro _ w1 ⟨b1, rfl, H1⟩
  refine jP O (gy results69 O ?_)
  refine ⟨b1, O, V.yx (s := List.replicate 60 (.slice none 0 0)) (h := 0) (by simp) (by omega) (by simp) (.inr O) (by simp) (by intro v hv; rw [List.eq_of_mem_replicate hv]; rfl) ?_⟩
  exact V.swap (V.yw (fun I i hi => by simp at hi) H1)
theorem lV (t : TypeId) {cs : Array Value} {fr : Nat × Nat} {m : Bool} (hb : w.heap[p]? = some (.cells cs t fr)) (h0 : cs[0]? = some (.bool m)) :
    iQ prog 102 #[.pointer (some ⟨p, 0, none⟩)] w fun v w' => v = .bool (!m) ∧ w = w' := by
  refine jH func102 ntmps102 ?_
  refine kW O (bY O (aZ (nG underlying63 O O) (JC O (fun h1 => ?_))))
  (try simp only [aK] at h1)
  refine bK (dn O (bK (dA O (bK (Z 0 dh O aN O (bK (dL bf O hb h0 (bK (aZ (kY O) (lH O O (jP O (gy results102 O ?_))))))))))))
  exact ⟨O, O⟩
theorem V.Di {s : List Value} {h i : Nat} (H : V w0 w (BH s h E • F)) (hi : i < E.length) : oL w .i32 (s.getD ((h + i) % 60) undef) (E.getD i []) := let ⟨I, k, hI⟩ := H.sV; (k i hi).rd hI
theorem xE {s : List Value} {h n m : Nat} {t : TypeId} {fr : Nat × Nat} {k : Nat} (hs : s.length = 60) (hh : h < 60) (hk : k < 60) (hb : w.heap[p]? = some (.cells (dS s h n m) t fr)) :
  iQ prog 103 #[.pointer (some ⟨p, 0, none⟩), .int .i64 k] w fun v w' => v = s.getD ((h + k) % 60) undef ∧ wP w w' := by
 refine qQ func103 ntmps103 ?_
 refine kW O (aO ?_)
 refine qx (n := 13) [0, 1, 2, 3, 4, 5, 6, 7, 8, 9, 10, 11, 12] (fun W => W.heap = w.heap) (by kernel_rfl) (by kernel_rfl) O ?_
 have hS0 : (fun W => W.heap = w.heap) (w.drew) := rfl
 refine gK 0 O hS0 O (gK 1 O hS0 O (jL 2 O hS0 O (fH 3 O hS0 61 dh O ah O ?_)))
 refine iY 4 O hS0 (fun W hW => jQ ay O (by rw [hW]; exact hb) (AQ hs)) ?_
 refine gK 5 O hS0 O (jR 6 O hS0 (fun _ => fZ O O (by omega)) ?_)
 refine jR 7 O hS0 (fun _ => aaT O O (by omega) (by  omega)) ?_
 refine jL 8 O hS0 O (fH 9 O hS0 1 dh O sizeOf156 O (jR 10 O hS0 (fun _ => zO underlying156 bg O O (by omega)) ?_))
 refine iY 11 O hS0 (fun W hW => jQ aA O (by rw [hW]; exact hb) (by rw [show (1 + (((h : Int) + (k : Int)) % 60).toNat * 1) = 1 + (h + k) % 60 from by omega]; exact Oa hs (by omega))) ?_
 refine jR 12 O hS0 (fun _ => iV O) (qN (bC (oP (gy results103 O ?_))))
 exact ⟨O, ⟨1, O⟩⟩
theorem Po (H : V w0 w (fJ p E place • F)) : iQ prog 49 #[.pointer (some ⟨p, 0, none⟩)] w fun v w' => v = .int .i64 E.length ∧ w = w' := by
  obtain ⟨s, h, hs, hh, hE, hp, hm, ho, H1⟩ := H.ring
  have hb := H1.get.2
  refine jH func49 ntmps49 ?_
  refine kW O (aO (bY O (fO O func102 (lV _ hb Ag) ?_)))
  rintro _ _ ⟨rfl, rfl⟩
  refine iF (vX (gX (bY O (dA O (Z 62 dh O ah O (dL ay O hb (qc hs) (jP O (gy results49 O ?_))))))))
  exact ⟨O, O⟩
theorem Pq {s : List Value} {u : Value} {i : Nat} (h : ∀ v ∈ s, v.oneCell' = true) (hu : u.oneCell' = true) : ∀ v ∈ s.set i u, v.oneCell' = true := by
  intro v hv
  rcases List.mem_or_eq_of_mem_set hv with hv | rfl
  · exact h v hv
  · exact hu
theorem Ub {I : Hp} {s : List Value} {h : Nat} {l : List Int} {v : Value} (hs : s.length = 60) (hh : h < 60) (hE : E.length ≤ 60) (hS : QS I s h E) (hv : Eh I .i32 v l) :
    QS I (s.set ((h + 59) % 60) v) ((h + 59) % 60) ((l :: E).take 60) := by
  intro i hi
  have ag8 : i < 60 ∧ i < E.length + 1 := by simp at hi; omega
  rw [List.getD_eq_getElem?_getD (l := (l :: E).take 60), List.getElem?_take, if_pos (by omega)]
  cases i with
  | zero =>
    have e : ((h + 59) % 60 + 0) % 60 = (h + 59) % 60 := by omega
    rw [e, List.getD_eq_getElem?_getD, List.getElem?_set_self (by omega)]
    exact hv
  | succ i =>
    have e : ((h + 59) % 60 + (i + 1)) % 60 = (h + i) % 60 := by omega
    have hne : ¬ (h + 59) % 60 = (h + i) % 60 := by omega
    rw [e, List.getD_eq_getElem?_getD, List.getElem?_set_ne hne, ← List.getD_eq_getElem?_getD]
    have := hS i (by omega)
    simpa [List.getD_eq_getElem?_getD] using this
theorem Ew {v : Value} {l : List Int} (H : V w0 w (fJ p E place • F)) (hr : jY w0 F .i32 v l) (hl : l.length ≤ 1024) :
    iQ prog 123 #[.pointer (some ⟨p, 0, none⟩), v] w fun _ w' => V w0 w' (fJ p ((l :: E).take 60) 0 • F) := by
  obtain ⟨s, h, hs, hh, hE, hp, hm, ho, H⟩ := H.ring
  have hh' : (h + 59) % 60 < 60 := by omega
  refine qQ func123 ntmps123 ?_
  refine bY O (lM O O (Z 61 dh O ah O (dL ay O H.get.2 (AQ hs) (aZ (fZ O O (by omega)) (aZ (lJ O O (by omega)) ?_)))))
  refine aZ (aaT O O (by omega) (by  omega)) ?_
  refine dA O (Z 61 dh O ah O (aC (fE H ah O O O (by rw [pF hs]; decide)) ?_))
  rintro _ w1 H1
  rw [show (((h : Int) + 60 - 1) % 60) = (((h + 59) % 60 : Nat) : Int) from by omega, MW hs] at H1
  refine qJ ?_
  refine qx (n := 11) [0, 1, 2, 3, 4, 5, 6, 7, 8, 9, 10] (fun W => W.heap[p]? = some (.cells (dS s ((h + 59) % 60) E.length place) 158 (0, 0))) (by kernel_rfl) (by kernel_rfl) O ?_
  have hS0 : (fun W => W.heap[p]? = some (.cells (dS s ((h + 59) % 60) E.length place) 158 (0, 0))) (w1.drew) := H1.get.2
  have H1d := H1.drew
  refine gK 0 O hS0 O (gK 1 O hS0 O (jL 2 O hS0 O (fH 3 O hS0 61 dh O ah O (iY 4 O hS0 (fun W hW => jQ ay O hW (AQ hs)) (gK 5 O hS0 O (jL 7 O hS0 O (fH 8 O hS0 1 dh O sizeOf156 O (lU 6 O (xB O func6 (rJ H1d hr.under.under (by omega))) ?_))))))))
  rintro u w2 H2
  have hS2 : (fun W => W.heap[p]? = some (.cells (dS s ((h + 59) % 60) E.length place) 158 (0, 0))) w2 := H2.swap.get.2
  refine Et hS2 ?_
  refine jR 9 O hS2 (fun _ => zO underlying156 bg O O (by omega)) ?_
  refine gJ 10 O (by kernel_rfl) (fE H2.swap bg O O H2.aG.one (by rw [pF hs]; omega)) ?_
  rintro _ w3 H3
  rw [show (1 + ((((h + 59) % 60 : Nat) : Int)).toNat * 1) = 1 + (h + 59) % 60 from by omega, Ah hs hh'] at H3
  have hs' : (s.set ((h + 59) % 60) u).length = 60 := by simp [hs]
  have ho' := Pq ho (u := u) (i := (h + 59) % 60) H2.aG.one
  refine Iw (by kernel_rfl) ?_
  refine qN (bC (bY O (lM O O (Z 62 dh O ah O (dL ay O H3.get.2 (qc hs') (aZ (fZ O O (by omega)) (aZ (QB O O) (dA O (Z 62 dh O ah O (aC (fE H3 ah O O O (by rw [pF hs']; decide)) ?_))))))))))
  rintro _ w4 H4
  rw [show min ((E.length : Int) + 1) 60 = ((min (E.length + 1) 60 : Nat) : Int) from by omega, MX hs'] at H4
  refine iF (aB (lM O O (Z 63 dh O ah O (aC (fE H4 ah O O O (by rw [pF hs']; decide)) ?_))))
  rintro _ w5 H5
  rw [show (Value.int .i64 0) = .int .i64 ((0 : Nat) : Int) from rfl, qR hs'] at H5
  refine cO (kG (.inr O) results123 ?_)
  have hlen : ((l :: E).take 60).length = min (E.length + 1) 60 := by simp; omega
  refine V.yx hs' hh' (by omega) (.inr O) ?_ ho' ?_
  · intro e he
    rcases List.mem_cons.1 (List.mem_of_mem_take he) with rfl | he
    · exact hl
    · exact hm e he
  · rw [hlen]
    exact (H5.swap.iZ.Jc.CV (rF (fun I a b => Ub hs hh hE a b) _)).swap
end
end Go.Proofs.YtnhhmieghbfalaaGreat
end
