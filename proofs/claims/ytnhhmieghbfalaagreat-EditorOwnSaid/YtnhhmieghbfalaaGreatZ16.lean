import Derived.Test.YtnhhmieghbfalaaGreatZ4
import Derived.Test.YtnhhmieghbfalaaGreatZ15
import Derived.Test.YtnhhmieghbfalaaGreatZ6
set_option linter.unusedSimpArgs false
set_option linter.unusedVariables false
/- Texts of mine, joined, their names in short: Ref7c RefAny RefRing. -/
section
namespace Go.Proofs.YtnhhmieghbfalaaGreat
open Go.RowKit
open _root_.Go.Proofs.Tryz
theorem Xh {pt i j m n : Int} (h : 0 ≤ i ∧ i ≤ j ∧ j ≤ n) (hp : 0 ≤ pt ∧ pt ≤ n) (hm : 0 ≤ m) : 0 ≤ dP pt i j m ∧ dP pt i j m ≤ n - (j - i) + m := by
  unfold dP
  by_cases h1 : j < pt
  · rw [if_pos h1]; omega
  · rw [if_neg h1]
    by_cases h2 : i ≤ pt
    · rw [if_pos h2]; omega
    · rw [if_neg h2]; omega
theorem Xi {mk i j m n : Int} (h : 0 ≤ i ∧ i ≤ j ∧ j ≤ n) (hp : -1 ≤ mk ∧ mk ≤ n) (hm : 0 ≤ m) : -1 ≤ dR mk i j m ∧ dR mk i j m ≤ n - (j - i) + m := by
  unfold dR
  by_cases h1 : j < mk
  · rw [if_pos h1]; omega
  · rw [if_neg h1]
    by_cases h2 : i < mk
    · rw [if_pos h2]; omega
    · rw [if_neg h2]; omega
theorem L6 {pt i j n : Int} (h : ¬ (i ≤ pt ∧ pt ≤ j)) : (if j < pt then pt + n - (j - i) else pt) = dP pt i j n := by
  unfold dP
  by_cases h1 : j < pt
  · rw [if_pos h1, if_pos h1]; omega
  · rw [if_neg h1, if_neg h1, if_neg (by omega)]
theorem wY {mk i j n : Int} (h : ¬ (i < mk ∧ mk ≤ j)) : (if j < mk then mk + n - (j - i) else mk) = dR mk i j n := by
  unfold dR
  by_cases h1 : j < mk
  · rw [if_pos h1, if_pos h1]; omega
  · rw [if_neg h1, if_neg h1, if_neg (by omega)]
section
variable {w0 w : World} {F : HP} {p : Nat} {L : List Int} {pt mk x : Int} {v : Value} {l : List Int}
theorem Jy {i j : Int} (H : V w0 w (kN p L pt mk • F)) (hr : jY w0 F .i32 v l) (hb : i < 0 ∨ L.length < i ∨ j < i ∨ L.length < j) :
  iQ prog 82 #[.pointer (some ⟨p, 0, none⟩), .int .i64 i, .int .i64 j, v] w fun v' w' => v' = .tuple #[.agg (dY 0 (.slice none 0 0) (.slice none 0 0)), .int .i64 70] ∧ V w0 w' (kN p L pt mk • F) := by
 obtain ⟨a, c, rfl, _, _, _⟩ := (hr w H.right).open
 obtain ⟨aL, cL, g1, g2, g3, hc1, hc2, HB⟩ := H.ref
 refine Hg func82 ntmps82 ?_
 refine lQ (jW (vU HB bV) ?_)
 rintro _ w1 ⟨b1, rfl, H1⟩
 refine uK O (bY O (dn O (fO O func120 (rV H1.swap.get.2) ?_)))
 rintro _ _ ⟨rfl, rfl⟩
 refine aZ (kY O) (qG O (fun h1 => ?_) (fun h1 => ?_))
 ·(try simp only [aK] at h1)
  refine cZ (cZ (cZ (cZ (nX O O (dn O (cZ (cZ (cZ (nX O O (iF (Ko (lQ (aZ (jd (pl := #[(0, 1), (1, 1), (2, 1)]) (dY 0 (.slice none 0 0) (.slice none 0 0)) aP bV (fun w => by kernel_rfl) O (by kernel_rfl)) (aC (dM (cs := dY 0 (.slice none 0 0) (.slice none 0 0)) H1 bF O O O O (ku O O)) ?_))))))))))))))
  rintro _ w3 H3
  refine jP O (aV ?_)
  refine jl (.inl O) nK O O aP O (by rw [lY]; rfl) H3.get.2 ?_
  exact ⟨O, V.oC g1 g2 g3 H3.right⟩
 ·(try simp only [aK] at h1)
  refine bK (dn O (bK (dn O (bK (fO O func120 (rV H1.swap.get.2) ?_)))))
  rintro _ _ ⟨rfl, rfl⟩
  refine bK (aZ (kY O) (lH O O (qG O (fun h2 => ?_) (fun h2 => ?_))))
  ·(try simp only [aK] at h2)
   refine cZ (cZ (cZ (nX O O (iF (Ko (lQ (aZ (jd (pl := #[(0, 1), (1, 1), (2, 1)]) (dY 0 (.slice none 0 0) (.slice none 0 0)) aP bV (fun w => by kernel_rfl) O (by kernel_rfl)) (aC (dM (cs := dY 0 (.slice none 0 0) (.slice none 0 0)) H1 bF O O O O (ku O O)) ?_))))))))
   rintro _ w5 H5
   refine jP O (aV ?_)
   refine jl (.inl O) nK O O aP O (by rw [lY]; rfl) H5.get.2 ?_
   exact ⟨O, V.oC g1 g2 g3 H5.right⟩
  ·(try simp only [aK] at h2)
   refine bK (dn O (bK (dn O (bK (aZ (iE O O) (lH O O (iF (wcA O (fun h3 => ?_)))))))))
   (try simp only [aK] at h3)
   refine lQ (aZ (jd (pl := #[(0, 1), (1, 1), (2, 1)]) (dY 0 (.slice none 0 0) (.slice none 0 0)) aP bV (fun w => by kernel_rfl) O (by kernel_rfl)) (aC (dM (cs := dY 0 (.slice none 0 0) (.slice none 0 0)) H1 bF O O O O (ku O O)) ?_))
   rintro _ w6 H6
   refine jP O (aV ?_)
   refine jl (.inl O) nK O O aP O (by rw [lY]; rfl) H6.get.2 ?_
   exact ⟨O, V.oC g1 g2 g3 H6.right⟩
theorem Ik {i j : Int} (H : V w0 w (kN p L pt mk • F)) (hr : jY w0 F .i32 v l) (hb : 0 ≤ i ∧ i ≤ j ∧ j ≤ L.length) (hl : 1024 < L.length - (j - i) + l.length) (hlb : l.length ≤ 140737488355328) :
  iQ prog 82 #[.pointer (some ⟨p, 0, none⟩), .int .i64 i, .int .i64 j, v] w fun v' w' => v' = .tuple #[.agg (dY 0 (.slice none 0 0) (.slice none 0 0)), .int .i64 3] ∧ V w0 w' (kN p L pt mk • F) := by
 obtain ⟨a, c, rfl, _, _, _⟩ := (hr w H.right).open
 obtain ⟨aL, cL, g1, g2, g3, hc1, hc2, HB⟩ := H.ref
 refine Hg func82 ntmps82 ?_
 refine lQ (jW (vU HB bV) ?_)
 rintro _ w1 ⟨b1, rfl, H1⟩
 refine uK O (bY O (dn O (fO O func120 (rV H1.swap.get.2) ?_)))
 rintro _ _ ⟨rfl, rfl⟩
 refine aZ (kY O) (qG O (fun h1 => ?_) (fun h1 => ?_))
 ·(try simp only [aK] at h1)
  exfalso; first | contradiction | omega
 ·(try simp only [aK] at h1)
  refine bK (dn O (bK (dn O (bK (fO O func120 (rV H1.swap.get.2) ?_)))))
  rintro _ _ ⟨rfl, rfl⟩
  refine bK (aZ (kY O) (lH O O (qG O (fun h2 => ?_) (fun h2 => ?_))))
  ·(try simp only [aK] at h2)
   exfalso; first | contradiction | omega
  ·(try simp only [aK] at h2)
   refine bK (dn O (bK (dn O (bK (aZ (iE O O) (lH O O (iF (Qs O (fun h3 => ?_)))))))))
   (try simp only [aK] at h3)
   refine gX (aO (bY O (dA O (Z 0 bD O bg O (dL aA O H1.swap.get.2 O (aZ (iW aA O) (jw O O (aZ (lJ O O (by omega)) (aZ (lJ O O (by omega)) (dn O (aZ (iW aA O) (aZ (fZ O O (by omega)) (aZ (gG O O) (iF (wcA O (fun h4 => ?_))))))))))))))))
   (try simp only [aK] at h4)
   refine lQ (aZ (jd (pl := #[(0, 1), (1, 1), (2, 1)]) (dY 0 (.slice none 0 0) (.slice none 0 0)) aP bV (fun w => by kernel_rfl) O (by kernel_rfl)) (aC (dM (cs := dY 0 (.slice none 0 0) (.slice none 0 0)) H1 bF O O O O (ku O O)) ?_))
   rintro _ w6 H6
   refine jP O (aV ?_)
   refine jl (.inl O) nK O O aP O (by rw [lY]; rfl) H6.get.2 ?_
   exact ⟨O, V.oC g1 g2 g3 H6.right⟩
theorem L8 {i j : Nat} (H : V w0 w (kN p L pt mk • F)) (hr : jY w0 F .i32 v l) (hb : i ≤ j ∧ j ≤ L.length) (hl : (L.length : Int) - ((j : Int) - i) + l.length ≤ 1024) :
  iQ prog 82 #[.pointer (some ⟨p, 0, none⟩), .int .i64 i, .int .i64 j, v] w fun v' w' => ∃ d s, v' = .tuple #[.agg (dY i d s), .int .i64 0] ∧
   V w0 w' (jg 21 .i32 d ((L.drop i).take (j - i)) • jg 21 .i32 s l • kN p (L.take i ++ l ++ L.drop j) (dP pt i j l.length) (dR mk i j l.length) • F) := by
 obtain ⟨a, c, rfl, hac, aes, _⟩ := (hr w H.right).open
 obtain ⟨aL, cL, g1, g2, g3, hc1, hc2, HB⟩ := H.ref
 have hlen' : (L.take i ++ l ++ L.drop j).length = L.length - (j - i) + l.length := by simp; omega
 have q1 := Xh (pt := pt) (i := i) (j := j) (m := l.length) (n := L.length) (by omega) g2 (by omega)
 have q2 := Xi (mk := mk) (i := i) (j := j) (m := l.length) (n := L.length) (by omega) g3 (by omega)
 have hdl : ((L.drop i).take (j - i)).length = j - i := by simp; omega
 refine Hg func82 ntmps82 ?_
 refine lQ (jW (vU HB bV) ?_)
 rintro _ w1 ⟨b1, rfl, H1⟩
 refine uK O (bY O (dn O (fO O func120 (rV H1.swap.get.2) ?_)))
 rintro _ _ ⟨rfl, rfl⟩
 refine aZ (kY O) (qG O (fun h1 => ?_) (fun h1 => ?_))
 ·(try simp only [aK] at h1)
  exfalso; first | contradiction | omega
 ·(try simp only [aK] at h1)
  refine bK (dn O (bK (dn O (bK (fO O func120 (rV H1.swap.get.2) ?_)))))
  rintro _ _ ⟨rfl, rfl⟩
  refine bK (aZ (kY O) (lH O O (qG O (fun h2 => ?_) (fun h2 => ?_))))
  ·(try simp only [aK] at h2)
   exfalso; first | contradiction | omega
  ·(try simp only [aK] at h2)
   refine bK (dn O (bK (dn O (bK (aZ (iE O O) (lH O O (iF (Qs O (fun h3 => ?_)))))))))
   (try simp only [aK] at h3)
   refine gX (aO (bY O (dA O (Z 0 bD O bg O (dL aA O H1.swap.get.2 O (aZ (iW aA O) (jw O O (aZ (lJ O O (by omega)) (aZ (lJ O O (by omega)) (dn O (aZ (iW aA O) (aZ (fZ O O (by omega)) (aZ (gG O O) (iF (Qs O (fun h4 => ?_))))))))))))))))
   (try simp only [aK] at h4)
   refine gX (lQ (oD O (oD O (jZ O (bY O (lM O O (Z 0 bD O bg O (dL aA O H1.swap.get.2 O (jw O O (aZ (sW aA iy O O O (by omega)) ?_))))))))))
   refine jW (jr (l := []) (H1.gV none) (oL.cut H1.Jc.aG (i := i) (j := j) hb.1 hb.2) aA sJ O O (by simp only [List.length_nil]; omega) (by simp only [List.length_nil]; omega)) ?_
   rintro d w6 H6
   rw [List.nil_append] at H6
   obtain ⟨ad, cd, hd, _⟩ := (H6.aG).form
   subst hd
   refine jZ O (bY O (dn O (jW (jr (l := []) (H6.gV none) (hr _ H6.right.right.right.right) aA sJ O O (by simp only [List.length_nil]; omega) (by simp only [List.length_nil]; omega)) ?_)))
   rintro s w7 H7
   rw [List.nil_append] at H7
   obtain ⟨ai, ci, hs, _⟩ := (H7.aG).form
   subst hs
   refine jZ O (bY O (lM O O (Z 0 bD O bg O (dL aA O H7.r4.get.2 O (dn O (aZ (sW aA iy O O O (by omega)) ?_))))))
   refine jW (jr (l := []) (H7.gV none) (oL.upto H7.r5.aG (j := i) (by omega)) aA sJ O O (by simp; omega) (by simp; omega)) ?_
   rintro o1 w8 H8
   rw [List.nil_append] at H8
   refine jZ O (bY O (dn O (jW (jr H8 (hr _ H8.right.right.right.right.right.right) aA sJ O O (by simp; omega) (by simp; omega)) ?_)))
   rintro o2 w9 H9
   refine jZ O (bY O (lM O O (Z 0 bD O bg O (dL aA O H9.r5.get.2 O (dn O (aZ (sW aA iy O O O (by omega)) ?_))))))
   refine jW (jr H9 (oL.from H9.r6.aG (i := j) hb.2) aA sJ O O (by simp; omega) (by simp; omega)) ?_
   rintro o3 w10 rD
   obtain ⟨ao, co, ho, _⟩ := (rD.aG).form
   subst ho
   refine uK O (aO ?_)
   have HP := rD.r5
   refine aB (lM O O (Z 1 bD O ah O (dL ay O HP.get.2 O (dn O (aZ (Cc O O) (qG O (fun h5 => ?_) (fun h5 => ?_)))))))
   ·(try simp only [aK] at h5)
    refine bK (dn O (bK (dA O (bK (Z 1 bD O ah O (bK (dL ay O HP.get.2 O (bK (dn O (bK (aZ (QA O O) (nX O O (kE O (fun h6 => ?_) (fun h6 => ?_))))))))))))))
    ·(try simp only [aK] at h6)
     refine aB (jw O O (dn O (aZ (iW aA O) (aZ (fZ O O (by omega)) (dA O (Z 1 bD O ah O (aC (fE HP ah O O O (by rw [lq]; decide)) ?_)))))))
     rintro _ Hr rX
     rw [Az] at rX
     refine qJ (bY O (dA O (Z 2 bD O ah O (dL ay O rX.get.2 O (dn O (aZ (gG O O) (qG O (fun h7 => ?_) (fun h7 => ?_))))))))
     ·(try simp only [aK] at h7)
      refine bK (dn O (bK (dA O (bK (Z 2 bD O ah O (bK (dL ay O rX.get.2 O (bK (dn O (bK (aZ (QA O O) (nX O O (kE O (fun h8 => ?_) (fun h8 => ?_))))))))))))))
      ·(try simp only [aK] at h8)
       refine aB (jw O O (dA O (Z 2 bD O ah O (aC (fE rX ah O O O (by rw [lq]; decide)) ?_))))
       rintro _ w12 vN
       rw [oZ] at vN
       refine pG O (lM O O (Z 0 bD O bg O (aC (fE vN bg O O O (by rw [lq]; decide)) ?_)))
       rintro _ TB AB
       rw [tH] at AB
       refine pG O (jw O O (aZ (jd (pl := #[(0, 1), (1, 1), (2, 1)]) (dY i (.slice ad ((L.drop i).take (j - i)).length cd) (.slice ai l.length ci)) aP bV (fun w => by kernel_rfl) O (by kernel_rfl)) (aC (dM (cs := dY i (.slice ad ((L.drop i).take (j - i)).length cd) (.slice ai l.length ci)) AB.r5 bF O O O O (ku O O)) ?_)))
       rintro _ Qu AL
       refine jP O ?_
       refine jl (.inl O) nK O O aP O (by rw [lY]; rfl) AL.get.2 ?_
       refine ⟨_, _, O, ?_⟩
       try rw [show dP pt i j l.length = (i : Int) + l.length from by unfold dP; rw [if_neg (by omega), if_pos (by omega)]] at q1 ⊢
       try rw [show dR mk i j l.length = (i : Int) from by unfold dR; rw [if_neg (by omega), if_pos (by omega)]] at q2 ⊢
       exact (V.oC (by omega) (by omega) (by omega) AL.right).r4.right.d3.swap
      ·(try simp only [aK] at h8)
       refine aB (jw O O (dA O (Z 2 bD O ah O (dL ay O rX.get.2 O (jw O O (dn O (aZ (iW aA O) (fO O func121 (pq (by omega) (by omega) (by omega) (by omega)) ?_))))))))
       rintro _ _ ⟨rfl, rfl⟩
       refine dA O (Z 2 bD O ah O (aC (fE rX ah O O O (by rw [lq]; decide)) ?_))
       rintro _ w16 wE
       rw [oZ, wY (by omega)] at wE
       refine pG O (lM O O (Z 0 bD O bg O (aC (fE wE bg O O O (by rw [lq]; decide)) ?_)))
       rintro _ ZQ Dh
       rw [tH] at Dh
       refine pG O (jw O O (aZ (jd (pl := #[(0, 1), (1, 1), (2, 1)]) (dY i (.slice ad ((L.drop i).take (j - i)).length cd) (.slice ai l.length ci)) aP bV (fun w => by kernel_rfl) O (by kernel_rfl)) (aC (dM (cs := dY i (.slice ad ((L.drop i).take (j - i)).length cd) (.slice ai l.length ci)) Dh.r5 bF O O O O (ku O O)) ?_)))
       rintro _ Xv Ef
       refine jP O ?_
       refine jl (.inl O) nK O O aP O (by rw [lY]; rfl) Ef.get.2 ?_
       refine ⟨_, _, O, ?_⟩
       try rw [show dP pt i j l.length = (i : Int) + l.length from by unfold dP; rw [if_neg (by omega), if_pos (by omega)]] at q1 ⊢
       try rw [show dR mk i j l.length = (i : Int) from by unfold dR; rw [if_neg (by omega), if_pos (by omega)]] at q2 ⊢
       exact (V.oC (by omega) (by omega) (by omega) Ef.right).r4.right.d3.swap
     ·(try simp only [aK] at h7)
      refine cZ (cZ (cZ (cZ (cZ (cZ (lH O O (iF (vX (aB (jw O O (dA O (Z 2 bD O ah O (dL ay O rX.get.2 O (jw O O (dn O (aZ (iW aA O) (fO O func121 (pq (by omega) (by omega) (by omega) (by omega)) ?_)))))))))))))))))
      rintro _ _ ⟨rfl, rfl⟩
      refine dA O (Z 2 bD O ah O (aC (fE rX ah O O O (by rw [lq]; decide)) ?_))
      rintro _ XM Ci
      rw [oZ, wY (by omega)] at Ci
      refine pG O (lM O O (Z 0 bD O bg O (aC (fE Ci bg O O O (by rw [lq]; decide)) ?_)))
      rintro _ Xx tK
      rw [tH] at tK
      refine pG O (jw O O (aZ (jd (pl := #[(0, 1), (1, 1), (2, 1)]) (dY i (.slice ad ((L.drop i).take (j - i)).length cd) (.slice ai l.length ci)) aP bV (fun w => by kernel_rfl) O (by kernel_rfl)) (aC (dM (cs := dY i (.slice ad ((L.drop i).take (j - i)).length cd) (.slice ai l.length ci)) tK.r5 bF O O O O (ku O O)) ?_)))
      rintro _ w22 FN
      refine jP O ?_
      refine jl (.inl O) nK O O aP O (by rw [lY]; rfl) FN.get.2 ?_
      refine ⟨_, _, O, ?_⟩
      try rw [show dP pt i j l.length = (i : Int) + l.length from by unfold dP; rw [if_neg (by omega), if_pos (by omega)]] at q1 ⊢
      try rw [show dR mk i j l.length = (i : Int) from by unfold dR; rw [if_neg (by omega), if_pos (by omega)]] at q2 ⊢
      exact (V.oC (by omega) (by omega) (by omega) FN.right).r4.right.d3.swap
    ·(try simp only [aK] at h6)
     refine aB (jw O O (dA O (Z 1 bD O ah O (dL ay O HP.get.2 O (jw O O (dn O (aZ (iW aA O) (fO O func121 (pq (by omega) (by omega) (by omega) (by omega)) ?_))))))))
     rintro _ _ ⟨rfl, rfl⟩
     refine dA O (Z 1 bD O ah O (aC (fE HP ah O O O (by rw [lq]; decide)) ?_))
     rintro _ w24 JD
     rw [Az, L6 (by omega)] at JD
     refine qJ (bY O (dA O (Z 2 bD O ah O (dL ay O JD.get.2 O (dn O (aZ (gG O O) (qG O (fun h9 => ?_) (fun h9 => ?_))))))))
     ·(try simp only [aK] at h9)
      refine bK (dn O (bK (dA O (bK (Z 2 bD O ah O (bK (dL ay O JD.get.2 O (bK (dn O (bK (aZ (QA O O) (nX O O (kE O (fun h10 => ?_) (fun h10 => ?_))))))))))))))
      ·(try simp only [aK] at h10)
       refine aB (jw O O (dA O (Z 2 bD O ah O (aC (fE JD ah O O O (by rw [lq]; decide)) ?_))))
       rintro _ w25 JE
       rw [oZ] at JE
       refine pG O (lM O O (Z 0 bD O bg O (aC (fE JE bg O O O (by rw [lq]; decide)) ?_)))
       rintro _ w26 EW
       rw [tH] at EW
       refine pG O (jw O O (aZ (jd (pl := #[(0, 1), (1, 1), (2, 1)]) (dY i (.slice ad ((L.drop i).take (j - i)).length cd) (.slice ai l.length ci)) aP bV (fun w => by kernel_rfl) O (by kernel_rfl)) (aC (dM (cs := dY i (.slice ad ((L.drop i).take (j - i)).length cd) (.slice ai l.length ci)) EW.r5 bF O O O O (ku O O)) ?_)))
       rintro _ w27 FP
       refine jP O ?_
       refine jl (.inl O) nK O O aP O (by rw [lY]; rfl) FP.get.2 ?_
       refine ⟨_, _, O, ?_⟩
       try rw [show dP pt i j l.length = (i : Int) + l.length from by unfold dP; rw [if_neg (by omega), if_pos (by omega)]] at q1 ⊢
       try rw [show dR mk i j l.length = (i : Int) from by unfold dR; rw [if_neg (by omega), if_pos (by omega)]] at q2 ⊢
       exact (V.oC (by omega) (by omega) (by omega) FP.right).r4.right.d3.swap
      ·(try simp only [aK] at h10)
       refine aB (jw O O (dA O (Z 2 bD O ah O (dL ay O JD.get.2 O (jw O O (dn O (aZ (iW aA O) (fO O func121 (pq (by omega) (by omega) (by omega) (by omega)) ?_))))))))
       rintro _ _ ⟨rfl, rfl⟩
       refine dA O (Z 2 bD O ah O (aC (fE JD ah O O O (by rw [lq]; decide)) ?_))
       rintro _ w29 Ji
       rw [oZ, wY (by omega)] at Ji
       refine pG O (lM O O (Z 0 bD O bg O (aC (fE Ji bg O O O (by rw [lq]; decide)) ?_)))
       rintro _ w30 JF
       rw [tH] at JF
       refine pG O (jw O O (aZ (jd (pl := #[(0, 1), (1, 1), (2, 1)]) (dY i (.slice ad ((L.drop i).take (j - i)).length cd) (.slice ai l.length ci)) aP bV (fun w => by kernel_rfl) O (by kernel_rfl)) (aC (dM (cs := dY i (.slice ad ((L.drop i).take (j - i)).length cd) (.slice ai l.length ci)) JF.r5 bF O O O O (ku O O)) ?_)))
       rintro _ w31 MS
       refine jP O ?_
       refine jl (.inl O) nK O O aP O (by rw [lY]; rfl) MS.get.2 ?_
       refine ⟨_, _, O, ?_⟩
       try rw [show dP pt i j l.length = (i : Int) + l.length from by unfold dP; rw [if_neg (by omega), if_pos (by omega)]] at q1 ⊢
       try rw [show dR mk i j l.length = (i : Int) from by unfold dR; rw [if_neg (by omega), if_pos (by omega)]] at q2 ⊢
       exact (V.oC (by omega) (by omega) (by omega) MS.right).r4.right.d3.swap
     ·(try simp only [aK] at h9)
      refine cZ (cZ (cZ (cZ (cZ (cZ (lH O O (iF (vX (aB (jw O O (dA O (Z 2 bD O ah O (dL ay O JD.get.2 O (jw O O (dn O (aZ (iW aA O) (fO O func121 (pq (by omega) (by omega) (by omega) (by omega)) ?_)))))))))))))))))
      rintro _ _ ⟨rfl, rfl⟩
      refine dA O (Z 2 bD O ah O (aC (fE JD ah O O O (by rw [lq]; decide)) ?_))
      rintro _ w33 Pm
      rw [oZ, wY (by omega)] at Pm
      refine pG O (lM O O (Z 0 bD O bg O (aC (fE Pm bg O O O (by rw [lq]; decide)) ?_)))
      rintro _ w34 Lm
      rw [tH] at Lm
      refine pG O (jw O O (aZ (jd (pl := #[(0, 1), (1, 1), (2, 1)]) (dY i (.slice ad ((L.drop i).take (j - i)).length cd) (.slice ai l.length ci)) aP bV (fun w => by kernel_rfl) O (by kernel_rfl)) (aC (dM (cs := dY i (.slice ad ((L.drop i).take (j - i)).length cd) (.slice ai l.length ci)) Lm.r5 bF O O O O (ku O O)) ?_)))
      rintro _ w35 Ou
      refine jP O ?_
      refine jl (.inl O) nK O O aP O (by rw [lY]; rfl) Ou.get.2 ?_
      refine ⟨_, _, O, ?_⟩
      try rw [show dP pt i j l.length = (i : Int) + l.length from by unfold dP; rw [if_neg (by omega), if_pos (by omega)]] at q1 ⊢
      try rw [show dR mk i j l.length = (i : Int) from by unfold dR; rw [if_neg (by omega), if_pos (by omega)]] at q2 ⊢
      exact (V.oC (by omega) (by omega) (by omega) Ou.right).r4.right.d3.swap
   ·(try simp only [aK] at h5)
    refine cZ (cZ (cZ (cZ (cZ (cZ (lH O O (iF (vX (aB (jw O O (dA O (Z 1 bD O ah O (dL ay O HP.get.2 O (jw O O (dn O (aZ (iW aA O) (fO O func121 (pq (by omega) (by omega) (by omega) (by omega)) ?_)))))))))))))))))
    rintro _ _ ⟨rfl, rfl⟩
    refine dA O (Z 1 bD O ah O (aC (fE HP ah O O O (by rw [lq]; decide)) ?_))
    rintro _ w37 Lp
    rw [Az, L6 (by omega)] at Lp
    refine qJ (bY O (dA O (Z 2 bD O ah O (dL ay O Lp.get.2 O (dn O (aZ (gG O O) (qG O (fun h11 => ?_) (fun h11 => ?_))))))))
    ·(try simp only [aK] at h11)
     refine bK (dn O (bK (dA O (bK (Z 2 bD O ah O (bK (dL ay O Lp.get.2 O (bK (dn O (bK (aZ (QA O O) (nX O O (kE O (fun h12 => ?_) (fun h12 => ?_))))))))))))))
     ·(try simp only [aK] at h12)
      refine aB (jw O O (dA O (Z 2 bD O ah O (aC (fE Lp ah O O O (by rw [lq]; decide)) ?_))))
      rintro _ w38 Ov
      rw [oZ] at Ov
      refine pG O (lM O O (Z 0 bD O bg O (aC (fE Ov bg O O O (by rw [lq]; decide)) ?_)))
      rintro _ w39 H39
      rw [tH] at H39
      refine pG O (jw O O (aZ (jd (pl := #[(0, 1), (1, 1), (2, 1)]) (dY i (.slice ad ((L.drop i).take (j - i)).length cd) (.slice ai l.length ci)) aP bV (fun w => by kernel_rfl) O (by kernel_rfl)) (aC (dM (cs := dY i (.slice ad ((L.drop i).take (j - i)).length cd) (.slice ai l.length ci)) H39.r5 bF O O O O (ku O O)) ?_)))
      rintro _ w40 H40
      refine jP O ?_
      refine jl (.inl O) nK O O aP O (by rw [lY]; rfl) H40.get.2 ?_
      refine ⟨_, _, O, ?_⟩
      try rw [show dP pt i j l.length = (i : Int) + l.length from by unfold dP; rw [if_neg (by omega), if_pos (by omega)]] at q1 ⊢
      try rw [show dR mk i j l.length = (i : Int) from by unfold dR; rw [if_neg (by omega), if_pos (by omega)]] at q2 ⊢
      exact (V.oC (by omega) (by omega) (by omega) H40.right).r4.right.d3.swap
     ·(try simp only [aK] at h12)
      refine aB (jw O O (dA O (Z 2 bD O ah O (dL ay O Lp.get.2 O (jw O O (dn O (aZ (iW aA O) (fO O func121 (pq (by omega) (by omega) (by omega) (by omega)) ?_))))))))
      rintro _ _ ⟨rfl, rfl⟩
      refine dA O (Z 2 bD O ah O (aC (fE Lp ah O O O (by rw [lq]; decide)) ?_))
      rintro _ w42 ZT
      rw [oZ, wY (by omega)] at ZT
      refine pG O (lM O O (Z 0 bD O bg O (aC (fE ZT bg O O O (by rw [lq]; decide)) ?_)))
      rintro _ w43 WB
      rw [tH] at WB
      refine pG O (jw O O (aZ (jd (pl := #[(0, 1), (1, 1), (2, 1)]) (dY i (.slice ad ((L.drop i).take (j - i)).length cd) (.slice ai l.length ci)) aP bV (fun w => by kernel_rfl) O (by kernel_rfl)) (aC (dM (cs := dY i (.slice ad ((L.drop i).take (j - i)).length cd) (.slice ai l.length ci)) WB.r5 bF O O O O (ku O O)) ?_)))
      rintro _ w44 Qv
      refine jP O ?_
      refine jl (.inl O) nK O O aP O (by rw [lY]; rfl) Qv.get.2 ?_
      refine ⟨_, _, O, ?_⟩
      try rw [show dP pt i j l.length = (i : Int) + l.length from by unfold dP; rw [if_neg (by omega), if_pos (by omega)]] at q1 ⊢
      try rw [show dR mk i j l.length = (i : Int) from by unfold dR; rw [if_neg (by omega), if_pos (by omega)]] at q2 ⊢
      exact (V.oC (by omega) (by omega) (by omega) Qv.right).r4.right.d3.swap
    ·(try simp only [aK] at h11)
     refine cZ (cZ (cZ (cZ (cZ (cZ (lH O O (iF (vX (aB (jw O O (dA O (Z 2 bD O ah O (dL ay O Lp.get.2 O (jw O O (dn O (aZ (iW aA O) (fO O func121 (pq (by omega) (by omega) (by omega) (by omega)) ?_)))))))))))))))))
     rintro _ _ ⟨rfl, rfl⟩
     refine dA O (Z 2 bD O ah O (aC (fE Lp ah O O O (by rw [lq]; decide)) ?_))
     rintro _ w46 Qw
     rw [oZ, wY (by omega)] at Qw
     refine pG O (lM O O (Z 0 bD O bg O (aC (fE Qw bg O O O (by rw [lq]; decide)) ?_)))
     rintro _ w47 VG
     rw [tH] at VG
     refine pG O (jw O O (aZ (jd (pl := #[(0, 1), (1, 1), (2, 1)]) (dY i (.slice ad ((L.drop i).take (j - i)).length cd) (.slice ai l.length ci)) aP bV (fun w => by kernel_rfl) O (by kernel_rfl)) (aC (dM (cs := dY i (.slice ad ((L.drop i).take (j - i)).length cd) (.slice ai l.length ci)) VG.r5 bF O O O O (ku O O)) ?_)))
     rintro _ w48 ZU
     refine jP O ?_
     refine jl (.inl O) nK O O aP O (by rw [lY]; rfl) ZU.get.2 ?_
     refine ⟨_, _, O, ?_⟩
     try rw [show dP pt i j l.length = (i : Int) + l.length from by unfold dP; rw [if_neg (by omega), if_pos (by omega)]] at q1 ⊢
     try rw [show dR mk i j l.length = (i : Int) from by unfold dR; rw [if_neg (by omega), if_pos (by omega)]] at q2 ⊢
     exact (V.oC (by omega) (by omega) (by omega) ZU.right).r4.right.d3.swap
end
section
variable {w0 w : World} {F : HP} {p : Nat} {L : List Int} {pt mk : Int} {v d s : Value} {l dl il : List Int} {i j a x : Int}
theorem Jz (H : V w0 w (kN p L pt mk • F)) (hr : jY w0 F .i32 v l) (hlb : l.length ≤ 140737488355328) :
    iQ prog 82 #[.pointer (some ⟨p, 0, none⟩), .int .i64 i, .int .i64 j, v] w fun v' w' => ∃ d s, v' = .tuple #[.agg #[.int .i64 (rH L i j l), d, s], .int .i64 (kQ L i j l)] ∧
      V w0 w' (jg 21 .i32 d (ng L i j l) • jg 21 .i32 s (ni L i j l) • kN p (lZ L i j l) (rG L pt i j l) (tN L mk i j l) • F) := by
  unfold rH lZ rG tN ng ni
  by_cases h1 : i < 0 ∨ L.length < i ∨ j < i ∨ L.length < j
  · have e : kQ L i j l = 70 := by unfold kQ; rw [if_pos h1]
    simp only [e, show ¬ (70 : Int) = 0 from by decide, if_false]
    exact (Jy H hr h1).mono fun v' w' h => ⟨_, _, h.1, (h.2.xC none).xC none⟩
  · have h2 : 0 ≤ i ∧ i ≤ j ∧ j ≤ L.length := by omega
    by_cases h3 : 1024 < L.length - (j - i) + l.length
    · have e : kQ L i j l = 3 := by unfold kQ; rw [if_neg h1, if_pos h3]
      simp only [e, show ¬ (3 : Int) = 0 from by decide, if_false]
      exact (Ik H hr h2 h3 hlb).mono fun v' w' h => ⟨_, _, h.1, (h.2.xC none).xC none⟩
    · have e : kQ L i j l = 0 := by unfold kQ; rw [if_neg h1, if_neg h3]
      simp only [e, if_true]
      obtain ⟨i', rfl⟩ := Int.eq_ofNat_of_zero_le h2.1
      obtain ⟨j', rfl⟩ := Int.eq_ofNat_of_zero_le (show 0 ≤ j by omega)
      have hij : i' ≤ j' ∧ j' ≤ L.length := by omega
      have := L8 (i := i') (j := j') H hr hij (by omega)
      simpa only [Int.toNat_natCast, show ((j' : Int) - (i' : Int)).toNat = j' - i' from by omega, dY] using this
end
section
variable {w0 w : World} {F : HP} {p place : Nat} {E ls : List (List Int)} {v x y : Value} {l m : List Int} {vs : List Value}
theorem L9 (H : V w0 w F) (h1 : jY w0 F .i32 x l) (h2 : jY w0 F .i32 y m) (hb : l.length + m.length ≤ 35184372088832) :
    iQ prog 117 #[x, y] w fun v w' => V w0 w' (jg 21 .i32 v (l ++ m) • F) := by
  refine qQ func117 ntmps117 ?_
  refine kW O (kW O (bY O (dn O (jW (jr (l := []) (H.gV none) (h1 _ (H)) aA Zr O O (by first | omega | (simp only [List.length_append, List.length_nil, List.length_cons]; omega) | (simp; omega)) (by first | omega | (simp only [List.length_append, List.length_nil, List.length_cons]; omega) | (simp; omega))) ?_))))
  rintro l1 w1 H1
  try simp only [List.nil_append] at H1
  refine jZ O (bY O (dn O (jW (jr H1 (h2 _ (H1.right)) aA Zr O O (by first | omega | (simp only [List.length_append, List.length_nil, List.length_cons]; omega) | (simp; omega)) (by first | omega | (simp only [List.length_append, List.length_nil, List.length_cons]; omega) | (simp; omega))) ?_)))
  rintro l2 w2 H2
  try simp only [List.nil_append] at H2
  refine jP O (gy results117 O ?_)
  simpa using H2
theorem Bf (H : V w0 w F) (h1 : jY w0 F .i32 x l) (hb : l.length ≤ 35184372088832) :
    iQ prog 117 #[x, .slice none 0 0] w fun v w' => V w0 w' (jg 21 .i32 v l • F) := by
  have := L9 H h1 (fun W _ => oL.nil W .i32 none 0 (by decide)) (by simpa using hb)
  simpa using this
def lF (p : Nat) (E : List (List Int)) (place : Nat) : HP := wF fun v => eF p (.cells #[v, .int .i64 place] 120 (0, 0)) • LL 23 .i32 v E
theorem V.Zt (H : V w0 w (lF p E place • F)) : ∃ v, V w0 w (eF p (.cells #[v, .int .i64 place] 120 (0, 0)) • LL 23 .i32 v E • F) := let ⟨v, h⟩ := H.oN; ⟨v, h.flat⟩
theorem V.jq (H : V w0 w (eF p (.cells #[v, .int .i64 place] 120 (0, 0)) • LL 23 .i32 v E • F)) : V w0 w (lF p E place • F) := V.ji v H.deep
theorem DL {α : Type _} {l : List α} {k : Nat} {d : α} (h : k < l.length) : l.take (k + 1) = l.take k ++ [l.getD k d] := by rw [List.take_succ_eq_append_getElem h, List.getD_eq_getElem?_getD, List.getElem?_eq_getElem h]; rfl
theorem Mc {way : Int} {v : Value} (H : V w0 w (lF p E place • F)) (hr : jY w0 F .i32 v l) (hE : E.length ≤ 60) (hE2 : ∀ e ∈ E, e.length ≤ 1024) (hp : place < E.length ∨ place = 0) :
    iQ prog 87 #[.pointer (some ⟨p, 0, none⟩), .int .i64 way, v] w fun v' w' => v' = .int .i64 (jO E place way l).1 ∧ V w0 w' (lF p (jO E place way l).2.1 (jO E place way l).2.2 • F) := by
  obtain ⟨u, HR⟩ := H.Zt
  obtain ⟨us, HR⟩ := HR.swap.ll
  obtain ⟨au, cu, rfl, -⟩ := (HR.aG).form
  obtain ⟨a, c, rfl, _, _, _⟩ := (hr w H.right).open
  have hE0 : 0 < E.length → (E.getD 0 []).length ≤ 1024 := fun h => hE2 _ (wS h)
  refine ET func87 ntmps87 ?_
  refine kW O (aO (bY O (aZ (iE O O) (qG O (fun h1 => ?_) (fun h1 => ?_)))))
  · (try simp only [aK] at h1)
    try (exfalso; first | contradiction | omega)
    all_goals
      refine cZ (cZ (nX O O (iF (Ko (nM O (aV (gy kT O ?_)))))))
      have hK : jO E place way l = (1, E, place) := by unfold jO; rw [if_pos (by omega)]
      rw [hK]
      exact ⟨O, V.jq (V.qZ (HR.f3.f3.f3)).f2⟩
  · (try simp only [aK] at h1)
    try (exfalso; first | contradiction | omega)
    all_goals
      refine bK (dn O (bK (aZ (gG O O) (lH O O (kE O (fun h2 => ?_) (fun h2 => ?_))))))
      · (try simp only [aK] at h2)
        try (exfalso; first | contradiction | omega)
        all_goals
          refine nM O (aV (gy kT O ?_))
          have hK : jO E place way l = (1, E, place) := by unfold jO; rw [if_pos (by omega)]
          rw [hK]
          exact ⟨O, V.jq (V.qZ (HR.f3.f3.f3)).f2⟩
      · (try simp only [aK] at h2)
        try (exfalso; first | contradiction | omega)
        all_goals
          refine gX (aO (bY O (aZ (pW (hr _ (HR.right.right.right)) aA O) (aZ (gG O O) (kE O (fun h3 => ?_) (fun h3 => ?_))))))
          · (try simp only [aK] at h3)
            try (exfalso; first | contradiction | omega)
            all_goals
              refine nM O (aV (gy kT O ?_))
              have hK : jO E place way l = (3, E, place) := by unfold jO; rw [if_neg (by omega), if_pos (by omega)]
              rw [hK]
              exact ⟨O, V.jq (V.qZ (HR.f3.f3.f3)).f2⟩
          · (try simp only [aK] at h3)
            try (exfalso; first | contradiction | omega)
            all_goals
              refine gX (aO (bY O (aZ (fF O O) (qG O (fun h4 => ?_) (fun h4 => ?_)))))
              · (try simp only [aK] at h4)
                try (exfalso; first | contradiction | omega)
                all_goals
                  refine bK (dn O (bK (dA O (bK (Z 0 bQ O dG O (bK (dL aT O (HR.f3).get.2 O (bK (aZ (fA ((HR).aG) aT O) (bK (aZ (gG O O) (nX O O (kE O (fun h5 => ?_) (fun h5 => ?_))))))))))))))
                  · (try simp only [aK] at h5)
                    try (exfalso; first | contradiction | omega)
                    all_goals
                      refine aO (bY O (aZ (pW (hr _ (HR.right.right.right)) aA O) (lM O O (Z 0 bQ O dG O (dL aT O (HR.f3).get.2 O ?_)))))
                      obtain ⟨bu, ou, cu, eu⟩ := Rd.qP ((HR).aG) (by omega)
                      cases eu
                      refine aZ (eG aT bg O O (by omega)) ?_
                      refine aZ (jk (eH aA O) O (by first | exact Rd.wG ((HR).aG) (by omega) | exact Rd.Hf ((HR).aG) (by omega) | exact Rd.GX ((HR).aG) (by omega))) ?_
                      refine Ad (fun ags acw => ?_)
                      refine aZ (pW ((by rw [acw]; exact (HR.f2).zQ (by omega))) aA O) ?_
                      refine aZ (fZ O O (by omega)) (aZ (gG O O) (kE O (fun h6 => ?_) (fun h6 => ?_)))
                      · (try simp only [aK] at h6)
                        try (exfalso; first | contradiction | omega)
                        all_goals
                          refine nM O (aV (aV (gy kT O ?_)))
                          have hK : jO E place way l = (3, E, place) := by unfold jO; rw [if_neg (by omega), if_neg (by omega), if_pos (by omega), if_pos (by omega)]
                          rw [hK]
                          exact ⟨O, V.jq (V.qZ (HR.f3.f3.f3)).f2⟩
                      · (try simp only [aK] at h6)
                        try (exfalso; first | contradiction | omega)
                        all_goals
                          refine gX (bY O (dA O (Z 0 bQ O dG O (dL aT O (HR.f3).get.2 O (aZ (eG aT bg O O (by omega)) ?_)))))
                          refine aZ (jk (eH aA O) O (by first | exact Rd.wG ((HR).aG) (by omega) | exact Rd.Hf ((HR).aG) (by omega) | exact Rd.GX ((HR).aG) (by omega))) ?_
                          refine Ad (fun agt acx => ?_)
                          refine dn O (fO O func117 (L9 HR (fun W HW => (by rw [acx]; exact (HW.f2).zQ (by omega))) (fun W HW => hr _ (HW.right.right.right)) (by simp at *; omega)) ?_)
                          rintro u3 w3 H3
                          refine uK O (bY O (aZ (je O O) (kE O (fun h7 => ?_) (fun h7 => ?_))))
                          · (try simp only [aK] at h7)
                            try (exfalso; first | contradiction | omega)
                            all_goals
                              refine aB (jw O O (dA O (Z 0 bQ O dG O (dL aT O (H3.f4).get.2 O (aZ (eG aT bg O O (by omega)) ?_)))))
                              refine aZ (jk (eH aA O) O (by first | exact Rd.wG ((H3.f2).aG) (by omega) | exact Rd.Hf ((H3.f2).aG) (by omega) | exact Rd.GX ((H3.f2).aG) (by omega))) ?_
                              refine Ad (fun agv acy => ?_)
                              refine fO O func117 (L9 H3 (fun W HW => hr _ (HW.right.right.right.right)) (fun W HW => (by rw [acy]; exact (HW.f3).zQ (by omega))) (by simp at *; omega)) ?_
                              rintro u5 w5 H5
                              refine jZ O (bY O (jW (jc (vs := [_]) H5 aT bg jS O O O (by decide) (aW (by first | rfl | exact Rd.one ((H5).aG)) bG)) ?_))
                              rintro l6 w6 H6
                              refine jZ O (bY O (jw O O (dA O (Z 0 bQ O dG O (dL aT O (H6.f6).get.2 O (aZ (sH ((H6.f4).aG) aT bg O O O (by omega)) ?_))))))
                              refine jW (dQ H6 aT Bc O O O (Rd.aaZ ((H6.f4).aG) (by omega)) (fun z hz => (H6.f5).yQ z (List.mem_of_mem_drop hz)) (by omega) (by omega)) ?_
                              rintro l7 w7 H7
                              refine dA O (Z 0 bQ O dG O (aC (dX 0 (l' := [_, _]) H7.f6 dG O O (by first | rfl | exact Rd.one ((H7).aG)) O O) ?_))
                              rintro _ w8 H8
                              refine pG O (dA O (Z 1 bQ O ah O (aC (ZP 1 H8 ah) ?_)))
                              rintro _ w9 H9
                              refine iF (nM O (aV (gy kT O ?_)))
                              have afp := H9.f3.iZ
                              have H2 := ((afp.f4.right.f4.right.f2.f3.f3.f4).Og 1).f2.rO.f2
                              have H3 := V.jq (V.qZ H2).f2
                              rw [List.drop_one] at H3
                              unfold jO
                              rw [if_neg (by omega), if_neg (by omega), if_pos (by omega), if_neg (by omega)]
                              first
                                | (rw [if_pos (show way = 1 by omega)]; exact ⟨rfl, H3⟩)
                                | (rw [if_neg (show ¬ way = 1 by omega)]; exact ⟨rfl, H3⟩)
                          · (try simp only [aK] at h7)
                            try (exfalso; first | contradiction | omega)
                            all_goals
                              refine gX (bY O (jW (jc (vs := [_]) H3 aT bg jS O O O (by decide) (aW (by first | rfl | exact Rd.one ((H3).aG)) bG)) ?_))
                              rintro l11 Hr rX
                              refine jZ O (bY O (jw O O (dA O (Z 0 bQ O dG O (dL aT O (rX.f5).get.2 O (aZ (sH ((rX.f3).aG) aT bg O O O (by omega)) ?_))))))
                              refine jW (dQ rX aT Bc O O O (Rd.aaZ ((rX.f3).aG) (by omega)) (fun z hz => (rX.f4).yQ z (List.mem_of_mem_drop hz)) (by omega) (by omega)) ?_
                              rintro l12 w12 vN
                              refine dA O (Z 0 bQ O dG O (aC (dX 0 (l' := [_, _]) vN.f5 dG O O (by first | rfl | exact Rd.one ((vN).aG)) O O) ?_))
                              rintro _ TB AB
                              refine pG O (dA O (Z 1 bQ O ah O (aC (ZP 1 AB ah) ?_)))
                              rintro _ Qu AL
                              refine iF (nM O (aV (gy kT O ?_)))
                              have afq := AL.f3.iZ
                              have H2 := ((afq.f4.right.f2.f3.f3.f4).Og 1).f2.rO.f2
                              have H3 := V.jq (V.qZ H2).f2
                              rw [List.drop_one] at H3
                              unfold jO
                              rw [if_neg (by omega), if_neg (by omega), if_pos (by omega), if_neg (by omega)]
                              first
                                | (rw [if_pos (show way = 1 by omega)]; exact ⟨rfl, H3⟩)
                                | (rw [if_neg (show ¬ way = 1 by omega)]; exact ⟨rfl, H3⟩)
                  · (try simp only [aK] at h5)
                    try (exfalso; first | contradiction | omega)
                    all_goals
                      refine gX (aO (bY O (aZ (pW (hr _ (HR.right.right.right)) aA O) (aZ (je O O) (qG O (fun h8 => ?_) (fun h8 => ?_))))))
                      · (try simp only [aK] at h8)
                        try (exfalso; first | contradiction | omega)
                        all_goals
                          refine bK (dn O (bK (aZ (je O O) (nX O O (kE O (fun h9 => ?_) (fun h9 => ?_))))))
                          · (try simp only [aK] at h9)
                            try (exfalso; first | contradiction | omega)
                            all_goals
                              refine nM O (aV (gy kT O ?_))
                              have hK : jO E place way l = (0, E, place) := by unfold jO; rw [if_neg (by omega), if_neg (by omega), if_neg (by omega), if_pos (by omega)]
                              rw [hK]
                              exact ⟨O, V.jq (V.qZ (HR.f3.f3.f3)).f2⟩
                          · (try simp only [aK] at h9)
                            try (exfalso; first | contradiction | omega)
                            all_goals
                              refine gX (bY O (fO O func117 (Bf HR (fun W HW => hr _ (HW.right.right.right)) (by omega)) ?_))
                              rintro u16 w16 wE
                              refine jW (jc (vs := [_]) wE aT bg jS O O O (by decide) (aW (by first | rfl | exact Rd.one ((wE).aG)) bG)) ?_
                              rintro l17 ZQ Dh
                              refine jZ O (bY O (jw O O (dA O (Z 0 bQ O dG O (dL aT O (Dh.f5).get.2 O (jW (dQ Dh aT Bc O O O ((Dh.f3).aG) ((Dh.f4).yQ) (by omega) (by omega)) ?_))))))
                              rintro l18 Xv Ef
                              refine dA O (Z 0 bQ O dG O (aC (dX 0 (l' := [_, _]) Ef.f5 dG O O (by first | rfl | exact Rd.one ((Ef).aG)) O O) ?_))
                              rintro _ Xw zN
                              refine qJ (bY O (dA O (Z 0 bQ O dG O (dL aT O (zN).get.2 O (aZ (fA ((zN.f2).aG) aT O) (aZ (gG O O) (kE O (fun h10 => ?_) (fun h10 => ?_))))))))
                              · (try simp only [aK] at h10)
                                try (exfalso; first | contradiction | omega)
                                all_goals
                                  refine aB (jw O O (dA O (Z 0 bQ O dG O (dL aT O (zN).get.2 O (aZ (sH ((zN.f2).aG) aT bg O O O (by omega)) ?_)))))
                                  refine dA O (Z 0 bQ O dG O (aC (dX 0 (l' := [_, _]) zN dG O O (by first | rfl | exact Rd.one (Rd.QV ((zN.f2).aG) (by omega))) O O) ?_))
                                  rintro _ XM Ci
                                  refine pG O (dA O (Z 1 bQ O ah O (aC (ZP 1 Ci ah) ?_)))
                                  rintro _ Xx tK
                                  refine iF (nM O (gy kT O ?_))
                                  have afr := tK.f3.iZ
                                  have hK : jO E place way l = (0, (l :: E).take 60, 0) := by unfold jO; rw [if_neg (by omega), if_neg (by omega), if_neg (by omega), if_neg (by omega)]
                                  rw [hK]
                                  have H2 := (afr.f4.right.f2.f3.f4.f4).rO.f2
                                  have H3 := V.qZ H2
                                  first
                                    | (rw [List.take_of_length_le (by simp; omega)]; exact ⟨rfl, V.jq H3.f2⟩)
                                    | exact ⟨rfl, V.jq (H3.zS (n := 60) (by simp; omega)).f2⟩
                              · (try simp only [aK] at h10)
                                try (exfalso; first | contradiction | omega)
                                all_goals
                                  refine gX (bY O (dA O (Z 1 bQ O ah O (aC (ZP 1 zN ah) ?_))))
                                  rintro _ ZR BA
                                  refine iF (nM O (gy kT O ?_))
                                  have afs := BA.f3.iZ
                                  have hK : jO E place way l = (0, (l :: E).take 60, 0) := by unfold jO; rw [if_neg (by omega), if_neg (by omega), if_neg (by omega), if_neg (by omega)]
                                  rw [hK]
                                  have H2 := (afs.f4.right.f2.f3.f4.f4).rO.f2
                                  have H3 := V.qZ H2
                                  first
                                    | (rw [List.take_of_length_le (by simp; omega)]; exact ⟨rfl, V.jq H3.f2⟩)
                                    | exact ⟨rfl, V.jq (H3.zS (n := 60) (by simp; omega)).f2⟩
                      · (try simp only [aK] at h8)
                        try (exfalso; first | contradiction | omega)
                        all_goals
                          refine cZ (cZ (lH O O (iF (vX (gX (bY O (fO O func117 (Bf HR (fun W HW => hr _ (HW.right.right.right)) (by omega)) ?_)))))))
                          rintro u25 w25 JE
                          refine jW (jc (vs := [_]) JE aT bg jS O O O (by decide) (aW (by first | rfl | exact Rd.one ((JE).aG)) bG)) ?_
                          rintro l26 w26 EW
                          refine jZ O (bY O (jw O O (dA O (Z 0 bQ O dG O (dL aT O (EW.f5).get.2 O (jW (dQ EW aT Bc O O O ((EW.f3).aG) ((EW.f4).yQ) (by omega) (by omega)) ?_))))))
                          rintro l27 w27 FP
                          refine dA O (Z 0 bQ O dG O (aC (dX 0 (l' := [_, _]) FP.f5 dG O O (by first | rfl | exact Rd.one ((FP).aG)) O O) ?_))
                          rintro _ w28 MR
                          refine qJ (bY O (dA O (Z 0 bQ O dG O (dL aT O (MR).get.2 O (aZ (fA ((MR.f2).aG) aT O) (aZ (gG O O) (kE O (fun h11 => ?_) (fun h11 => ?_))))))))
                          · (try simp only [aK] at h11)
                            try (exfalso; first | contradiction | omega)
                            all_goals
                              refine aB (jw O O (dA O (Z 0 bQ O dG O (dL aT O (MR).get.2 O (aZ (sH ((MR.f2).aG) aT bg O O O (by omega)) ?_)))))
                              refine dA O (Z 0 bQ O dG O (aC (dX 0 (l' := [_, _]) MR dG O O (by first | rfl | exact Rd.one (Rd.QV ((MR.f2).aG) (by omega))) O O) ?_))
                              rintro _ w29 Ji
                              refine pG O (dA O (Z 1 bQ O ah O (aC (ZP 1 Ji ah) ?_)))
                              rintro _ w30 JF
                              refine iF (nM O (gy kT O ?_))
                              have afu := JF.f3.iZ
                              have hK : jO E place way l = (0, (l :: E).take 60, 0) := by unfold jO; rw [if_neg (by omega), if_neg (by omega), if_neg (by omega), if_neg (by omega)]
                              rw [hK]
                              have H2 := (afu.f4.right.f2.f3.f4.f4).rO.f2
                              have H3 := V.qZ H2
                              first
                                | (rw [List.take_of_length_le (by simp; omega)]; exact ⟨rfl, V.jq H3.f2⟩)
                                | exact ⟨rfl, V.jq (H3.zS (n := 60) (by simp; omega)).f2⟩
                          · (try simp only [aK] at h11)
                            try (exfalso; first | contradiction | omega)
                            all_goals
                              refine gX (bY O (dA O (Z 1 bQ O ah O (aC (ZP 1 MR ah) ?_))))
                              rintro _ w32 Ht
                              refine iF (nM O (gy kT O ?_))
                              have afv := Ht.f3.iZ
                              have hK : jO E place way l = (0, (l :: E).take 60, 0) := by unfold jO; rw [if_neg (by omega), if_neg (by omega), if_neg (by omega), if_neg (by omega)]
                              rw [hK]
                              have H2 := (afv.f4.right.f2.f3.f4.f4).rO.f2
                              have H3 := V.qZ H2
                              first
                                | (rw [List.take_of_length_le (by simp; omega)]; exact ⟨rfl, V.jq H3.f2⟩)
                                | exact ⟨rfl, V.jq (H3.zS (n := 60) (by simp; omega)).f2⟩
              · (try simp only [aK] at h4)
                try (exfalso; first | contradiction | omega)
                all_goals
                  refine cZ (cZ (cZ (cZ (cZ (cZ (lH O O (iF (vX (gX (aO (bY O (aZ (pW (hr _ (HR.right.right.right)) aA O) (aZ (je O O) (qG O (fun h12 => ?_) (fun h12 => ?_)))))))))))))))
                  · (try simp only [aK] at h12)
                    try (exfalso; first | contradiction | omega)
                    all_goals
                      refine bK (dn O (bK (aZ (je O O) (nX O O (kE O (fun h13 => ?_) (fun h13 => ?_))))))
                      · (try simp only [aK] at h13)
                        try (exfalso; first | contradiction | omega)
                        all_goals
                          refine nM O (aV (gy kT O ?_))
                          have hK : jO E place way l = (0, E, place) := by unfold jO; rw [if_neg (by omega), if_neg (by omega), if_neg (by omega), if_pos (by omega)]
                          rw [hK]
                          exact ⟨O, V.jq (V.qZ (HR.f3.f3.f3)).f2⟩
                      · (try simp only [aK] at h13)
                        try (exfalso; first | contradiction | omega)
                        all_goals
                          refine gX (bY O (fO O func117 (Bf HR (fun W HW => hr _ (HW.right.right.right)) (by omega)) ?_))
                          rintro u34 w34 Lm
                          refine jW (jc (vs := [_]) Lm aT bg jS O O O (by decide) (aW (by first | rfl | exact Rd.one ((Lm).aG)) bG)) ?_
                          rintro l35 w35 Ou
                          refine jZ O (bY O (jw O O (dA O (Z 0 bQ O dG O (dL aT O (Ou.f5).get.2 O (jW (dQ Ou aT Bc O O O ((Ou.f3).aG) ((Ou.f4).yQ) (by omega) (by omega)) ?_))))))
                          rintro l36 w36 UA
                          refine dA O (Z 0 bQ O dG O (aC (dX 0 (l' := [_, _]) UA.f5 dG O O (by first | rfl | exact Rd.one ((UA).aG)) O O) ?_))
                          rintro _ w37 Lp
                          refine qJ (bY O (dA O (Z 0 bQ O dG O (dL aT O (Lp).get.2 O (aZ (fA ((Lp.f2).aG) aT O) (aZ (gG O O) (kE O (fun h14 => ?_) (fun h14 => ?_))))))))
                          · (try simp only [aK] at h14)
                            try (exfalso; first | contradiction | omega)
                            all_goals
                              refine aB (jw O O (dA O (Z 0 bQ O dG O (dL aT O (Lp).get.2 O (aZ (sH ((Lp.f2).aG) aT bg O O O (by omega)) ?_)))))
                              refine dA O (Z 0 bQ O dG O (aC (dX 0 (l' := [_, _]) Lp dG O O (by first | rfl | exact Rd.one (Rd.QV ((Lp.f2).aG) (by omega))) O O) ?_))
                              rintro _ w38 Ov
                              refine pG O (dA O (Z 1 bQ O ah O (aC (ZP 1 Ov ah) ?_)))
                              rintro _ w39 H39
                              refine iF (nM O (gy kT O ?_))
                              have afw := H39.f3.iZ
                              have hK : jO E place way l = (0, (l :: E).take 60, 0) := by unfold jO; rw [if_neg (by omega), if_neg (by omega), if_neg (by omega), if_neg (by omega)]
                              rw [hK]
                              have H2 := (afw.f4.right.f2.f3.f4.f4).rO.f2
                              have H3 := V.qZ H2
                              first
                                | (rw [List.take_of_length_le (by simp; omega)]; exact ⟨rfl, V.jq H3.f2⟩)
                                | exact ⟨rfl, V.jq (H3.zS (n := 60) (by simp; omega)).f2⟩
                          · (try simp only [aK] at h14)
                            try (exfalso; first | contradiction | omega)
                            all_goals
                              refine gX (bY O (dA O (Z 1 bQ O ah O (aC (ZP 1 Lp ah) ?_))))
                              rintro _ w41 Vt
                              refine iF (nM O (gy kT O ?_))
                              have afx := Vt.f3.iZ
                              have hK : jO E place way l = (0, (l :: E).take 60, 0) := by unfold jO; rw [if_neg (by omega), if_neg (by omega), if_neg (by omega), if_neg (by omega)]
                              rw [hK]
                              have H2 := (afx.f4.right.f2.f3.f4.f4).rO.f2
                              have H3 := V.qZ H2
                              first
                                | (rw [List.take_of_length_le (by simp; omega)]; exact ⟨rfl, V.jq H3.f2⟩)
                                | exact ⟨rfl, V.jq (H3.zS (n := 60) (by simp; omega)).f2⟩
                  · (try simp only [aK] at h12)
                    try (exfalso; first | contradiction | omega)
                    all_goals
                      refine cZ (cZ (lH O O (iF (vX (gX (bY O (fO O func117 (Bf HR (fun W HW => hr _ (HW.right.right.right)) (by omega)) ?_)))))))
                      rintro u43 w43 WB
                      refine jW (jc (vs := [_]) WB aT bg jS O O O (by decide) (aW (by first | rfl | exact Rd.one ((WB).aG)) bG)) ?_
                      rintro l44 w44 Qv
                      refine jZ O (bY O (jw O O (dA O (Z 0 bQ O dG O (dL aT O (Qv.f5).get.2 O (jW (dQ Qv aT Bc O O O ((Qv.f3).aG) ((Qv.f4).yQ) (by omega) (by omega)) ?_))))))
                      rintro l45 w45 JR
                      refine dA O (Z 0 bQ O dG O (aC (dX 0 (l' := [_, _]) JR.f5 dG O O (by first | rfl | exact Rd.one ((JR).aG)) O O) ?_))
                      rintro _ w46 Qw
                      refine qJ (bY O (dA O (Z 0 bQ O dG O (dL aT O (Qw).get.2 O (aZ (fA ((Qw.f2).aG) aT O) (aZ (gG O O) (kE O (fun h15 => ?_) (fun h15 => ?_))))))))
                      · (try simp only [aK] at h15)
                        try (exfalso; first | contradiction | omega)
                        all_goals
                          refine aB (jw O O (dA O (Z 0 bQ O dG O (dL aT O (Qw).get.2 O (aZ (sH ((Qw.f2).aG) aT bg O O O (by omega)) ?_)))))
                          refine dA O (Z 0 bQ O dG O (aC (dX 0 (l' := [_, _]) Qw dG O O (by first | rfl | exact Rd.one (Rd.QV ((Qw.f2).aG) (by omega))) O O) ?_))
                          rintro _ w47 VG
                          refine pG O (dA O (Z 1 bQ O ah O (aC (ZP 1 VG ah) ?_)))
                          rintro _ w48 ZU
                          refine iF (nM O (gy kT O ?_))
                          have afy := ZU.f3.iZ
                          have hK : jO E place way l = (0, (l :: E).take 60, 0) := by unfold jO; rw [if_neg (by omega), if_neg (by omega), if_neg (by omega), if_neg (by omega)]
                          rw [hK]
                          have H2 := (afy.f4.right.f2.f3.f4.f4).rO.f2
                          have H3 := V.qZ H2
                          first
                            | (rw [List.take_of_length_le (by simp; omega)]; exact ⟨rfl, V.jq H3.f2⟩)
                            | exact ⟨rfl, V.jq (H3.zS (n := 60) (by simp; omega)).f2⟩
                      · (try simp only [aK] at h15)
                        try (exfalso; first | contradiction | omega)
                        all_goals
                          refine gX (bY O (dA O (Z 1 bQ O ah O (aC (ZP 1 Qw ah) ?_))))
                          rintro _ w50 Vu
                          refine iF (nM O (gy kT O ?_))
                          have afz := Vu.f3.iZ
                          have hK : jO E place way l = (0, (l :: E).take 60, 0) := by unfold jO; rw [if_neg (by omega), if_neg (by omega), if_neg (by omega), if_neg (by omega)]
                          rw [hK]
                          have H2 := (afz.f4.right.f2.f3.f4.f4).rO.f2
                          have H3 := V.qZ H2
                          first
                            | (rw [List.take_of_length_le (by simp; omega)]; exact ⟨rfl, V.jq H3.f2⟩)
                            | exact ⟨rfl, V.jq (H3.zS (n := 60) (by simp; omega)).f2⟩
end
end Go.Proofs.YtnhhmieghbfalaaGreat
end
