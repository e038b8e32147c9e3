import Derived.Test.YtnhhmieghbfalaaGreatDoorZ4
import Derived.Test.YtnhhmieghbfalaaGreatDoorZ11
import Derived.Test.YtnhhmieghbfalaaGreatDoorZ6
import Derived.Test.YtnhhmieghbfalaaGreatDoorZ9
set_option linter.unusedSimpArgs false
set_option linter.unusedVariables false
/- Texts of mine, joined, their names in short: Ref7c RefAny RefRing. -/
section
namespace Go.Proofs.YtnhhmieghbfalaaGreatDoor
open Go.RowKit
open _root_.Go.Proofs.Tryz
theorem acB {pt i j m n : Int} (h : 0 ≤ i ∧ i ≤ j ∧ j ≤ n) (hp : 0 ≤ pt ∧ pt ≤ n) (hm : 0 ≤ m) : 0 ≤ fK pt i j m ∧ fK pt i j m ≤ n - (j - i) + m := by
  unfold fK
  by_cases h1 : j < pt
  · rw [if_pos h1]; omega
  · rw [if_neg h1]
    by_cases h2 : i ≤ pt
    · rw [if_pos h2]; omega
    · rw [if_neg h2]; omega
theorem acC {mk i j m n : Int} (h : 0 ≤ i ∧ i ≤ j ∧ j ≤ n) (hp : -1 ≤ mk ∧ mk ≤ n) (hm : 0 ≤ m) : -1 ≤ fQ mk i j m ∧ fQ mk i j m ≤ n - (j - i) + m := by
  unfold fQ
  by_cases h1 : j < mk
  · rw [if_pos h1]; omega
  · rw [if_neg h1]
    by_cases h2 : i < mk
    · rw [if_pos h2]; omega
    · rw [if_neg h2]; omega
theorem Sr {pt i j n : Int} (h : ¬ (i ≤ pt ∧ pt ≤ j)) : (if j < pt then pt + n - (j - i) else pt) = fK pt i j n := by
  unfold fK
  by_cases h1 : j < pt
  · rw [if_pos h1, if_pos h1]; omega
  · rw [if_neg h1, if_neg h1, if_neg (by omega)]
theorem CP {mk i j n : Int} (h : ¬ (i < mk ∧ mk ≤ j)) : (if j < mk then mk + n - (j - i) else mk) = fQ mk i j n := by
  unfold fQ
  by_cases h1 : j < mk
  · rw [if_pos h1, if_pos h1]; omega
  · rw [if_neg h1, if_neg h1, if_neg (by omega)]
section
variable {w0 w : World} {F : HP} {p : Nat} {L : List Int} {pt mk x : Int} {v : Value} {l : List Int}
theorem Qj {i j : Int} (H : V w0 w (kC p L pt mk • F)) (hr : jZ w0 F .i32 v l) (hb : i < 0 ∨ L.length < i ∨ j < i ∨ L.length < j) :
  iK prog 150 #[.pointer (some ⟨p, 0, none⟩), .int .i64 i, .int .i64 j, v] w fun v' w' => v' = .tuple #[.agg (iq 0 (.slice none 0 0) (.slice none 0 0)), .int .i64 70] ∧ V w0 w' (kC p L pt mk • F) := by
 obtain ⟨a, c, rfl, _, _, _⟩ := (hr w H.right).open
 obtain ⟨aL, cL, g1, g2, g3, hc1, hc2, HB⟩ := H.ref
 refine MJ func150 ntmps150 ?_
 refine kQ (jT (Bc HB cZ) ?_)
 rintro _ w1 ⟨b1, rfl, H1⟩
 refine vI O (bT O (cO O (fH O func149 (tV H1.swap.get.2) ?_)))
 rintro _ _ ⟨rfl, rfl⟩
 refine aT (jG O) (nS O (fun h1 => ?_) (fun h1 => ?_))
 ·(try simp only [aG] at h1)
  refine dB (dB (dB (dB (mQ O O (cO O (dB (dB (dB (mQ O O (iR (DZ (kQ (aT (kS (pl := #[(0, 1), (1, 1), (2, 1)]) (iq 0 (.slice none 0 0) (.slice none 0 0)) aQ cZ (fun w => by kernel_rfl) O (by kernel_rfl)) (aH (fC (cs := iq 0 (.slice none 0 0) (.slice none 0 0)) H1 bM O O O O (nK O O)) ?_))))))))))))))
  rintro _ w3 H3
  refine iJ O (aC ?_)
  refine lM (.inl O) o8 O O aQ O (by rw [pq]; rfl) H3.get.2 ?_
  exact ⟨O, V.mO g1 g2 g3 H3.right⟩
 ·(try simp only [aG] at h1)
  refine bJ (cO O (bJ (cO O (bJ (fH O func149 (tV H1.swap.get.2) ?_)))))
  rintro _ _ ⟨rfl, rfl⟩
  refine bJ (aT (jG O) (kP O O (nS O (fun h2 => ?_) (fun h2 => ?_))))
  ·(try simp only [aG] at h2)
   refine dB (dB (dB (mQ O O (iR (DZ (kQ (aT (kS (pl := #[(0, 1), (1, 1), (2, 1)]) (iq 0 (.slice none 0 0) (.slice none 0 0)) aQ cZ (fun w => by kernel_rfl) O (by kernel_rfl)) (aH (fC (cs := iq 0 (.slice none 0 0) (.slice none 0 0)) H1 bM O O O O (nK O O)) ?_))))))))
   rintro _ w5 H5
   refine iJ O (aC ?_)
   refine lM (.inl O) o8 O O aQ O (by rw [pq]; rfl) H5.get.2 ?_
   exact ⟨O, V.mO g1 g2 g3 H5.right⟩
  ·(try simp only [aG] at h2)
   refine bJ (cO O (bJ (cO O (bJ (aT (fJ O O) (kP O O (iR (wcA O (fun h3 => ?_)))))))))
   (try simp only [aG] at h3)
   refine kQ (aT (kS (pl := #[(0, 1), (1, 1), (2, 1)]) (iq 0 (.slice none 0 0) (.slice none 0 0)) aQ cZ (fun w => by kernel_rfl) O (by kernel_rfl)) (aH (fC (cs := iq 0 (.slice none 0 0) (.slice none 0 0)) H1 bM O O O O (nK O O)) ?_))
   rintro _ w6 H6
   refine iJ O (aC ?_)
   refine lM (.inl O) o8 O O aQ O (by rw [pq]; rfl) H6.get.2 ?_
   exact ⟨O, V.mO g1 g2 g3 H6.right⟩
theorem Oz {i j : Int} (H : V w0 w (kC p L pt mk • F)) (hr : jZ w0 F .i32 v l) (hb : 0 ≤ i ∧ i ≤ j ∧ j ≤ L.length) (hl : 1024 < L.length - (j - i) + l.length) (hlb : l.length ≤ 140737488355328) :
  iK prog 150 #[.pointer (some ⟨p, 0, none⟩), .int .i64 i, .int .i64 j, v] w fun v' w' => v' = .tuple #[.agg (iq 0 (.slice none 0 0) (.slice none 0 0)), .int .i64 3] ∧ V w0 w' (kC p L pt mk • F) := by
 obtain ⟨a, c, rfl, _, _, _⟩ := (hr w H.right).open
 obtain ⟨aL, cL, g1, g2, g3, hc1, hc2, HB⟩ := H.ref
 refine MJ func150 ntmps150 ?_
 refine kQ (jT (Bc HB cZ) ?_)
 rintro _ w1 ⟨b1, rfl, H1⟩
 refine vI O (bT O (cO O (fH O func149 (tV H1.swap.get.2) ?_)))
 rintro _ _ ⟨rfl, rfl⟩
 refine aT (jG O) (nS O (fun h1 => ?_) (fun h1 => ?_))
 ·(try simp only [aG] at h1)
  exfalso; first | contradiction | omega
 ·(try simp only [aG] at h1)
  refine bJ (cO O (bJ (cO O (bJ (fH O func149 (tV H1.swap.get.2) ?_)))))
  rintro _ _ ⟨rfl, rfl⟩
  refine bJ (aT (jG O) (kP O O (nS O (fun h2 => ?_) (fun h2 => ?_))))
  ·(try simp only [aG] at h2)
   exfalso; first | contradiction | omega
  ·(try simp only [aG] at h2)
   refine bJ (cO O (bJ (cO O (bJ (aT (fJ O O) (kP O O (iR (VR O (fun h3 => ?_)))))))))
   (try simp only [aG] at h3)
   refine gX (aI (bT O (dM O (bg 0 bG O bI O (dQ aB O H1.swap.get.2 O (aT (kE aB O) (ku O O (aT (nN O O (by omega)) (aT (nN O O (by omega)) (cO O (aT (kE aB O) (aT (gY O O (by omega)) (aT (fZ O O) (iR (wcA O (fun h4 => ?_))))))))))))))))
   (try simp only [aG] at h4)
   refine kQ (aT (kS (pl := #[(0, 1), (1, 1), (2, 1)]) (iq 0 (.slice none 0 0) (.slice none 0 0)) aQ cZ (fun w => by kernel_rfl) O (by kernel_rfl)) (aH (fC (cs := iq 0 (.slice none 0 0) (.slice none 0 0)) H1 bM O O O O (nK O O)) ?_))
   rintro _ w6 H6
   refine iJ O (aC ?_)
   refine lM (.inl O) o8 O O aQ O (by rw [pq]; rfl) H6.get.2 ?_
   exact ⟨O, V.mO g1 g2 g3 H6.right⟩
theorem Sv {i j : Nat} (H : V w0 w (kC p L pt mk • F)) (hr : jZ w0 F .i32 v l) (hb : i ≤ j ∧ j ≤ L.length) (hl : (L.length : Int) - ((j : Int) - i) + l.length ≤ 1024) :
  iK prog 150 #[.pointer (some ⟨p, 0, none⟩), .int .i64 i, .int .i64 j, v] w fun v' w' => ∃ d s, v' = .tuple #[.agg (iq i d s), .int .i64 0] ∧
   V w0 w' (kF 21 .i32 d ((L.drop i).take (j - i)) • kF 21 .i32 s l • kC p (L.take i ++ l ++ L.drop j) (fK pt i j l.length) (fQ mk i j l.length) • F) := by
 obtain ⟨a, c, rfl, hac, aks, _⟩ := (hr w H.right).open
 obtain ⟨aL, cL, g1, g2, g3, hc1, hc2, HB⟩ := H.ref
 have hlen' : (L.take i ++ l ++ L.drop j).length = L.length - (j - i) + l.length := by simp; omega
 have q1 := acB (pt := pt) (i := i) (j := j) (m := l.length) (n := L.length) (by omega) g2 (by omega)
 have q2 := acC (mk := mk) (i := i) (j := j) (m := l.length) (n := L.length) (by omega) g3 (by omega)
 have hdl : ((L.drop i).take (j - i)).length = j - i := by simp; omega
 refine MJ func150 ntmps150 ?_
 refine kQ (jT (Bc HB cZ) ?_)
 rintro _ w1 ⟨b1, rfl, H1⟩
 refine vI O (bT O (cO O (fH O func149 (tV H1.swap.get.2) ?_)))
 rintro _ _ ⟨rfl, rfl⟩
 refine aT (jG O) (nS O (fun h1 => ?_) (fun h1 => ?_))
 ·(try simp only [aG] at h1)
  exfalso; first | contradiction | omega
 ·(try simp only [aG] at h1)
  refine bJ (cO O (bJ (cO O (bJ (fH O func149 (tV H1.swap.get.2) ?_)))))
  rintro _ _ ⟨rfl, rfl⟩
  refine bJ (aT (jG O) (kP O O (nS O (fun h2 => ?_) (fun h2 => ?_))))
  ·(try simp only [aG] at h2)
   exfalso; first | contradiction | omega
  ·(try simp only [aG] at h2)
   refine bJ (cO O (bJ (cO O (bJ (aT (fJ O O) (kP O O (iR (VR O (fun h3 => ?_)))))))))
   (try simp only [aG] at h3)
   refine gX (aI (bT O (dM O (bg 0 bG O bI O (dQ aB O H1.swap.get.2 O (aT (kE aB O) (ku O O (aT (nN O O (by omega)) (aT (nN O O (by omega)) (cO O (aT (kE aB O) (aT (gY O O (by omega)) (aT (fZ O O) (iR (VR O (fun h4 => ?_))))))))))))))))
   (try simp only [aG] at h4)
   refine gX (kQ (lg O (lg O (iU O (bT O (kY O O (bg 0 bG O bI O (dQ aB O H1.swap.get.2 O (ku O O (aT (zy aB jU O O O (by omega)) ?_))))))))))
   refine jT (eF (l := []) (H1.iV none) (mP.cut H1.PU.aJ (i := i) (j := j) hb.1 hb.2) aB zf O O (by simp only [List.length_nil]; omega) (by simp only [List.length_nil]; omega)) ?_
   rintro d w6 H6
   rw [List.nil_append] at H6
   obtain ⟨ad, cd, hd, _⟩ := (H6.aJ).form
   subst hd
   refine iU O (bT O (cO O (jT (eF (l := []) (H6.iV none) (hr _ H6.right.right.right.right) aB zf O O (by simp only [List.length_nil]; omega) (by simp only [List.length_nil]; omega)) ?_)))
   rintro s w7 H7
   rw [List.nil_append] at H7
   obtain ⟨ai, ci, hs, _⟩ := (H7.aJ).form
   subst hs
   refine iU O (bT O (kY O O (bg 0 bG O bI O (dQ aB O H7.r4.get.2 O (cO O (aT (zy aB jU O O O (by omega)) ?_))))))
   refine jT (eF (l := []) (H7.iV none) (mP.upto H7.r5.aJ (j := i) (by omega)) aB zf O O (by simp; omega) (by simp; omega)) ?_
   rintro o1 w8 H8
   rw [List.nil_append] at H8
   refine iU O (bT O (cO O (jT (eF H8 (hr _ H8.right.right.right.right.right.right) aB zf O O (by simp; omega) (by simp; omega)) ?_)))
   rintro o2 w9 H9
   refine iU O (bT O (kY O O (bg 0 bG O bI O (dQ aB O H9.r5.get.2 O (cO O (aT (zy aB jU O O O (by omega)) ?_))))))
   refine jT (eF H9 (mP.from H9.r6.aJ (i := j) hb.2) aB zf O O (by simp; omega) (by simp; omega)) ?_
   rintro o3 w10 rU
   obtain ⟨ao, co, ho, _⟩ := (rU.aJ).form
   subst ho
   refine vI O (aI ?_)
   have HP := rU.r5
   refine aF (kY O O (bg 1 bG O ah O (dQ ay O HP.get.2 O (cO O (aT (vT O O) (nS O (fun h5 => ?_) (fun h5 => ?_)))))))
   ·(try simp only [aG] at h5)
    refine bJ (cO O (bJ (dM O (bJ (bg 1 bG O ah O (bJ (dQ ay O HP.get.2 O (bJ (cO O (bJ (aT (xA O O) (mQ O O (jo O (fun h6 => ?_) (fun h6 => ?_))))))))))))))
    ·(try simp only [aG] at h6)
     refine aF (ku O O (cO O (aT (kE aB O) (aT (gY O O (by omega)) (dM O (bg 1 bG O ah O (aH (iQ HP ah O O O (by rw [og]; decide)) ?_)))))))
     rintro _ Ii rE
     rw [Dh] at rE
     refine uV (bT O (dM O (bg 2 bG O ah O (dQ ay O rE.get.2 O (cO O (aT (fZ O O) (nS O (fun h7 => ?_) (fun h7 => ?_))))))))
     ·(try simp only [aG] at h7)
      refine bJ (cO O (bJ (dM O (bJ (bg 2 bG O ah O (bJ (dQ ay O rE.get.2 O (bJ (cO O (bJ (aT (xA O O) (mQ O O (jo O (fun h8 => ?_) (fun h8 => ?_))))))))))))))
      ·(try simp only [aG] at h8)
       refine aF (ku O O (dM O (bg 2 bG O ah O (aH (iQ rE ah O O O (by rw [og]; decide)) ?_))))
       rintro _ w12 uP
       rw [sW] at uP
       refine qG O (kY O O (bg 0 bG O bI O (aH (iQ uP bI O O O (by rw [og]; decide)) ?_)))
       rintro _ P7 AZ
       rw [zG] at AZ
       refine qG O (ku O O (aT (kS (pl := #[(0, 1), (1, 1), (2, 1)]) (iq i (.slice ad ((L.drop i).take (j - i)).length cd) (.slice ai l.length ci)) aQ cZ (fun w => by kernel_rfl) O (by kernel_rfl)) (aH (fC (cs := iq i (.slice ad ((L.drop i).take (j - i)).length cd) (.slice ai l.length ci)) AZ.r5 bM O O O O (nK O O)) ?_)))
       rintro _ O9 BJ
       refine iJ O ?_
       refine lM (.inl O) o8 O O aQ O (by rw [pq]; rfl) BJ.get.2 ?_
       refine ⟨_, _, O, ?_⟩
       try rw [show fK pt i j l.length = (i : Int) + l.length from by unfold fK; rw [if_neg (by omega), if_pos (by omega)]] at q1 ⊢
       try rw [show fQ mk i j l.length = (i : Int) from by unfold fQ; rw [if_neg (by omega), if_pos (by omega)]] at q2 ⊢
       exact (V.mO (by omega) (by omega) (by omega) BJ.right).r4.right.d3.swap
      ·(try simp only [aG] at h8)
       refine aF (ku O O (dM O (bg 2 bG O ah O (dQ ay O rE.get.2 O (ku O O (cO O (aT (kE aB O) (fH O func178 (tX (by omega) (by omega) (by omega) (by omega)) ?_))))))))
       rintro _ _ ⟨rfl, rfl⟩
       refine dM O (bg 2 bG O ah O (aH (iQ rE ah O O O (by rw [og]; decide)) ?_))
       rintro _ w16 yG
       rw [sW, CP (by omega)] at yG
       refine qG O (kY O O (bg 0 bG O bI O (aH (iQ yG bI O O O (by rw [og]; decide)) ?_)))
       rintro _ ZI DL
       rw [zG] at DL
       refine qG O (ku O O (aT (kS (pl := #[(0, 1), (1, 1), (2, 1)]) (iq i (.slice ad ((L.drop i).take (j - i)).length cd) (.slice ai l.length ci)) aQ cZ (fun w => by kernel_rfl) O (by kernel_rfl)) (aH (fC (cs := iq i (.slice ad ((L.drop i).take (j - i)).length cd) (.slice ai l.length ci)) DL.r5 bM O O O O (nK O O)) ?_)))
       rintro _ U5 DN
       refine iJ O ?_
       refine lM (.inl O) o8 O O aQ O (by rw [pq]; rfl) DN.get.2 ?_
       refine ⟨_, _, O, ?_⟩
       try rw [show fK pt i j l.length = (i : Int) + l.length from by unfold fK; rw [if_neg (by omega), if_pos (by omega)]] at q1 ⊢
       try rw [show fQ mk i j l.length = (i : Int) from by unfold fQ; rw [if_neg (by omega), if_pos (by omega)]] at q2 ⊢
       exact (V.mO (by omega) (by omega) (by omega) DN.right).r4.right.d3.swap
     ·(try simp only [aG] at h7)
      refine dB (dB (dB (dB (dB (dB (kP O O (iR (yh (aF (ku O O (dM O (bg 2 bG O ah O (dQ ay O rE.get.2 O (ku O O (cO O (aT (kE aB O) (fH O func178 (tX (by omega) (by omega) (by omega) (by omega)) ?_)))))))))))))))))
      rintro _ _ ⟨rfl, rfl⟩
      refine dM O (bg 2 bG O ah O (aH (iQ rE ah O O O (by rw [og]; decide)) ?_))
      rintro _ ZJ DR
      rw [sW, CP (by omega)] at DR
      refine qG O (kY O O (bg 0 bG O bI O (aH (iQ DR bI O O O (by rw [og]; decide)) ?_)))
      rintro _ Ya xZ
      rw [zG] at xZ
      refine qG O (ku O O (aT (kS (pl := #[(0, 1), (1, 1), (2, 1)]) (iq i (.slice ad ((L.drop i).take (j - i)).length cd) (.slice ai l.length ci)) aQ cZ (fun w => by kernel_rfl) O (by kernel_rfl)) (aH (fC (cs := iq i (.slice ad ((L.drop i).take (j - i)).length cd) (.slice ai l.length ci)) xZ.r5 bM O O O O (nK O O)) ?_)))
      rintro _ w22 FI
      refine iJ O ?_
      refine lM (.inl O) o8 O O aQ O (by rw [pq]; rfl) FI.get.2 ?_
      refine ⟨_, _, O, ?_⟩
      try rw [show fK pt i j l.length = (i : Int) + l.length from by unfold fK; rw [if_neg (by omega), if_pos (by omega)]] at q1 ⊢
      try rw [show fQ mk i j l.length = (i : Int) from by unfold fQ; rw [if_neg (by omega), if_pos (by omega)]] at q2 ⊢
      exact (V.mO (by omega) (by omega) (by omega) FI.right).r4.right.d3.swap
    ·(try simp only [aG] at h6)
     refine aF (ku O O (dM O (bg 1 bG O ah O (dQ ay O HP.get.2 O (ku O O (cO O (aT (kE aB O) (fH O func178 (tX (by omega) (by omega) (by omega) (by omega)) ?_))))))))
     rintro _ _ ⟨rfl, rfl⟩
     refine dM O (bg 1 bG O ah O (aH (iQ HP ah O O O (by rw [og]; decide)) ?_))
     rintro _ w24 Hw
     rw [Dh, Sr (by omega)] at Hw
     refine uV (bT O (dM O (bg 2 bG O ah O (dQ ay O Hw.get.2 O (cO O (aT (fZ O O) (nS O (fun h9 => ?_) (fun h9 => ?_))))))))
     ·(try simp only [aG] at h9)
      refine bJ (cO O (bJ (dM O (bJ (bg 2 bG O ah O (bJ (dQ ay O Hw.get.2 O (bJ (cO O (bJ (aT (xA O O) (mQ O O (jo O (fun h10 => ?_) (fun h10 => ?_))))))))))))))
      ·(try simp only [aG] at h10)
       refine aF (ku O O (dM O (bg 2 bG O ah O (aH (iQ Hw ah O O O (by rw [og]; decide)) ?_))))
       rintro _ w25 Jo
       rw [sW] at Jo
       refine qG O (kY O O (bg 0 bG O bI O (aH (iQ Jo bI O O O (by rw [og]; decide)) ?_)))
       rintro _ w26 FK
       rw [zG] at FK
       refine qG O (ku O O (aT (kS (pl := #[(0, 1), (1, 1), (2, 1)]) (iq i (.slice ad ((L.drop i).take (j - i)).length cd) (.slice ai l.length ci)) aQ cZ (fun w => by kernel_rfl) O (by kernel_rfl)) (aH (fC (cs := iq i (.slice ad ((L.drop i).take (j - i)).length cd) (.slice ai l.length ci)) FK.r5 bM O O O O (nK O O)) ?_)))
       rintro _ w27 KT
       refine iJ O ?_
       refine lM (.inl O) o8 O O aQ O (by rw [pq]; rfl) KT.get.2 ?_
       refine ⟨_, _, O, ?_⟩
       try rw [show fK pt i j l.length = (i : Int) + l.length from by unfold fK; rw [if_neg (by omega), if_pos (by omega)]] at q1 ⊢
       try rw [show fQ mk i j l.length = (i : Int) from by unfold fQ; rw [if_neg (by omega), if_pos (by omega)]] at q2 ⊢
       exact (V.mO (by omega) (by omega) (by omega) KT.right).r4.right.d3.swap
      ·(try simp only [aG] at h10)
       refine aF (ku O O (dM O (bg 2 bG O ah O (dQ ay O Hw.get.2 O (ku O O (cO O (aT (kE aB O) (fH O func178 (tX (by omega) (by omega) (by omega) (by omega)) ?_))))))))
       rintro _ _ ⟨rfl, rfl⟩
       refine dM O (bg 2 bG O ah O (aH (iQ Hw ah O O O (by rw [og]; decide)) ?_))
       rintro _ w29 N9
       rw [sW, CP (by omega)] at N9
       refine qG O (kY O O (bg 0 bG O bI O (aH (iQ N9 bI O O O (by rw [og]; decide)) ?_)))
       rintro _ w30 P9
       rw [zG] at P9
       refine qG O (ku O O (aT (kS (pl := #[(0, 1), (1, 1), (2, 1)]) (iq i (.slice ad ((L.drop i).take (j - i)).length cd) (.slice ai l.length ci)) aQ cZ (fun w => by kernel_rfl) O (by kernel_rfl)) (aH (fC (cs := iq i (.slice ad ((L.drop i).take (j - i)).length cd) (.slice ai l.length ci)) P9.r5 bM O O O O (nK O O)) ?_)))
       rintro _ w31 TW
       refine iJ O ?_
       refine lM (.inl O) o8 O O aQ O (by rw [pq]; rfl) TW.get.2 ?_
       refine ⟨_, _, O, ?_⟩
       try rw [show fK pt i j l.length = (i : Int) + l.length from by unfold fK; rw [if_neg (by omega), if_pos (by omega)]] at q1 ⊢
       try rw [show fQ mk i j l.length = (i : Int) from by unfold fQ; rw [if_neg (by omega), if_pos (by omega)]] at q2 ⊢
       exact (V.mO (by omega) (by omega) (by omega) TW.right).r4.right.d3.swap
     ·(try simp only [aG] at h9)
      refine dB (dB (dB (dB (dB (dB (kP O O (iR (yh (aF (ku O O (dM O (bg 2 bG O ah O (dQ ay O Hw.get.2 O (ku O O (cO O (aT (kE aB O) (fH O func178 (tX (by omega) (by omega) (by omega) (by omega)) ?_)))))))))))))))))
      rintro _ _ ⟨rfl, rfl⟩
      refine dM O (bg 2 bG O ah O (aH (iQ Hw ah O O O (by rw [og]; decide)) ?_))
      rintro _ w33 ZK
      rw [sW, CP (by omega)] at ZK
      refine qG O (kY O O (bg 0 bG O bI O (aH (iQ ZK bI O O O (by rw [og]; decide)) ?_)))
      rintro _ w34 Yy
      rw [zG] at Yy
      refine qG O (ku O O (aT (kS (pl := #[(0, 1), (1, 1), (2, 1)]) (iq i (.slice ad ((L.drop i).take (j - i)).length cd) (.slice ai l.length ci)) aQ cZ (fun w => by kernel_rfl) O (by kernel_rfl)) (aH (fC (cs := iq i (.slice ad ((L.drop i).take (j - i)).length cd) (.slice ai l.length ci)) Yy.r5 bM O O O O (nK O O)) ?_)))
      rintro _ w35 H35
      refine iJ O ?_
      refine lM (.inl O) o8 O O aQ O (by rw [pq]; rfl) H35.get.2 ?_
      refine ⟨_, _, O, ?_⟩
      try rw [show fK pt i j l.length = (i : Int) + l.length from by unfold fK; rw [if_neg (by omega), if_pos (by omega)]] at q1 ⊢
      try rw [show fQ mk i j l.length = (i : Int) from by unfold fQ; rw [if_neg (by omega), if_pos (by omega)]] at q2 ⊢
      exact (V.mO (by omega) (by omega) (by omega) H35.right).r4.right.d3.swap
   ·(try simp only [aG] at h5)
    refine dB (dB (dB (dB (dB (dB (kP O O (iR (yh (aF (ku O O (dM O (bg 1 bG O ah O (dQ ay O HP.get.2 O (ku O O (cO O (aT (kE aB O) (fH O func178 (tX (by omega) (by omega) (by omega) (by omega)) ?_)))))))))))))))))
    rintro _ _ ⟨rfl, rfl⟩
    refine dM O (bg 1 bG O ah O (aH (iQ HP ah O O O (by rw [og]; decide)) ?_))
    rintro _ w37 H37
    rw [Dh, Sr (by omega)] at H37
    refine uV (bT O (dM O (bg 2 bG O ah O (dQ ay O H37.get.2 O (cO O (aT (fZ O O) (nS O (fun h11 => ?_) (fun h11 => ?_))))))))
    ·(try simp only [aG] at h11)
     refine bJ (cO O (bJ (dM O (bJ (bg 2 bG O ah O (bJ (dQ ay O H37.get.2 O (bJ (cO O (bJ (aT (xA O O) (mQ O O (jo O (fun h12 => ?_) (fun h12 => ?_))))))))))))))
     ·(try simp only [aG] at h12)
      refine aF (ku O O (dM O (bg 2 bG O ah O (aH (iQ H37 ah O O O (by rw [og]; decide)) ?_))))
      rintro _ w38 Ve
      rw [sW] at Ve
      refine qG O (kY O O (bg 0 bG O bI O (aH (iQ Ve bI O O O (by rw [og]; decide)) ?_)))
      rintro _ w39 H39
      rw [zG] at H39
      refine qG O (ku O O (aT (kS (pl := #[(0, 1), (1, 1), (2, 1)]) (iq i (.slice ad ((L.drop i).take (j - i)).length cd) (.slice ai l.length ci)) aQ cZ (fun w => by kernel_rfl) O (by kernel_rfl)) (aH (fC (cs := iq i (.slice ad ((L.drop i).take (j - i)).length cd) (.slice ai l.length ci)) H39.r5 bM O O O O (nK O O)) ?_)))
      rintro _ w40 H40
      refine iJ O ?_
      refine lM (.inl O) o8 O O aQ O (by rw [pq]; rfl) H40.get.2 ?_
      refine ⟨_, _, O, ?_⟩
      try rw [show fK pt i j l.length = (i : Int) + l.length from by unfold fK; rw [if_neg (by omega), if_pos (by omega)]] at q1 ⊢
      try rw [show fQ mk i j l.length = (i : Int) from by unfold fQ; rw [if_neg (by omega), if_pos (by omega)]] at q2 ⊢
      exact (V.mO (by omega) (by omega) (by omega) H40.right).r4.right.d3.swap
     ·(try simp only [aG] at h12)
      refine aF (ku O O (dM O (bg 2 bG O ah O (dQ ay O H37.get.2 O (ku O O (cO O (aT (kE aB O) (fH O func178 (tX (by omega) (by omega) (by omega) (by omega)) ?_))))))))
      rintro _ _ ⟨rfl, rfl⟩
      refine dM O (bg 2 bG O ah O (aH (iQ H37 ah O O O (by rw [og]; decide)) ?_))
      rintro _ w42 H42
      rw [sW, CP (by omega)] at H42
      refine qG O (kY O O (bg 0 bG O bI O (aH (iQ H42 bI O O O (by rw [og]; decide)) ?_)))
      rintro _ w43 H43
      rw [zG] at H43
      refine qG O (ku O O (aT (kS (pl := #[(0, 1), (1, 1), (2, 1)]) (iq i (.slice ad ((L.drop i).take (j - i)).length cd) (.slice ai l.length ci)) aQ cZ (fun w => by kernel_rfl) O (by kernel_rfl)) (aH (fC (cs := iq i (.slice ad ((L.drop i).take (j - i)).length cd) (.slice ai l.length ci)) H43.r5 bM O O O O (nK O O)) ?_)))
      rintro _ w44 ZN
      refine iJ O ?_
      refine lM (.inl O) o8 O O aQ O (by rw [pq]; rfl) ZN.get.2 ?_
      refine ⟨_, _, O, ?_⟩
      try rw [show fK pt i j l.length = (i : Int) + l.length from by unfold fK; rw [if_neg (by omega), if_pos (by omega)]] at q1 ⊢
      try rw [show fQ mk i j l.length = (i : Int) from by unfold fQ; rw [if_neg (by omega), if_pos (by omega)]] at q2 ⊢
      exact (V.mO (by omega) (by omega) (by omega) ZN.right).r4.right.d3.swap
    ·(try simp only [aG] at h11)
     refine dB (dB (dB (dB (dB (dB (kP O O (iR (yh (aF (ku O O (dM O (bg 2 bG O ah O (dQ ay O H37.get.2 O (ku O O (cO O (aT (kE aB O) (fH O func178 (tX (by omega) (by omega) (by omega) (by omega)) ?_)))))))))))))))))
     rintro _ _ ⟨rfl, rfl⟩
     refine dM O (bg 2 bG O ah O (aH (iQ H37 ah O O O (by rw [og]; decide)) ?_))
     rintro _ w46 ZO
     rw [sW, CP (by omega)] at ZO
     refine qG O (kY O O (bg 0 bG O bI O (aH (iQ ZO bI O O O (by rw [og]; decide)) ?_)))
     rintro _ w47 H47
     rw [zG] at H47
     refine qG O (ku O O (aT (kS (pl := #[(0, 1), (1, 1), (2, 1)]) (iq i (.slice ad ((L.drop i).take (j - i)).length cd) (.slice ai l.length ci)) aQ cZ (fun w => by kernel_rfl) O (by kernel_rfl)) (aH (fC (cs := iq i (.slice ad ((L.drop i).take (j - i)).length cd) (.slice ai l.length ci)) H47.r5 bM O O O O (nK O O)) ?_)))
     rintro _ w48 H48
     refine iJ O ?_
     refine lM (.inl O) o8 O O aQ O (by rw [pq]; rfl) H48.get.2 ?_
     refine ⟨_, _, O, ?_⟩
     try rw [show fK pt i j l.length = (i : Int) + l.length from by unfold fK; rw [if_neg (by omega), if_pos (by omega)]] at q1 ⊢
     try rw [show fQ mk i j l.length = (i : Int) from by unfold fQ; rw [if_neg (by omega), if_pos (by omega)]] at q2 ⊢
     exact (V.mO (by omega) (by omega) (by omega) H48.right).r4.right.d3.swap
end
section
variable {w0 w : World} {F : HP} {p : Nat} {L : List Int} {pt mk : Int} {v d s : Value} {l dl il : List Int} {i j a x : Int}
theorem KY (H : V w0 w (kC p L pt mk • F)) : iK prog 149 #[.pointer (some ⟨p, 0, none⟩), .int .i64 x] w fun v w' => v = .bool (decide (0 ≤ x ∧ x ≤ L.length)) ∧ w = w' := by
  obtain ⟨a, c, g1, g2, g3, hc1, hc2, HB⟩ := H.ref
  exact tV HB.get.2
theorem Jg (H : V w0 w (kC p L pt mk • F)) (hr : jZ w0 F .i32 v l) (hlb : l.length ≤ 140737488355328) :
    iK prog 150 #[.pointer (some ⟨p, 0, none⟩), .int .i64 i, .int .i64 j, v] w fun v' w' => ∃ d s, v' = .tuple #[.agg #[.int .i64 (yw L i j l), d, s], .int .i64 (lG L i j l)] ∧
      V w0 w' (kF 21 .i32 d (nU L i j l) • kF 21 .i32 s (nV L i j l) • kC p (nP L i j l) (wo L pt i j l) (wu L mk i j l) • F) := by
  unfold yw nP wo wu nU nV
  by_cases h1 : i < 0 ∨ L.length < i ∨ j < i ∨ L.length < j
  · have e : lG L i j l = 70 := by unfold lG; rw [if_pos h1]
    simp only [e, show ¬ (70 : Int) = 0 from by decide, if_false]
    exact (Qj H hr h1).mono fun v' w' h => ⟨_, _, h.1, (h.2.Dk none).Dk none⟩
  · have h2 : 0 ≤ i ∧ i ≤ j ∧ j ≤ L.length := by omega
    by_cases h3 : 1024 < L.length - (j - i) + l.length
    · have e : lG L i j l = 3 := by unfold lG; rw [if_neg h1, if_pos h3]
      simp only [e, show ¬ (3 : Int) = 0 from by decide, if_false]
      exact (Oz H hr h2 h3 hlb).mono fun v' w' h => ⟨_, _, h.1, (h.2.Dk none).Dk none⟩
    · have e : lG L i j l = 0 := by unfold lG; rw [if_neg h1, if_neg h3]
      simp only [e, if_true]
      obtain ⟨i', rfl⟩ := Int.eq_ofNat_of_zero_le h2.1
      obtain ⟨j', rfl⟩ := Int.eq_ofNat_of_zero_le (show 0 ≤ j by omega)
      have hij : i' ≤ j' ∧ j' ≤ L.length := by omega
      have := Sv (i := i') (j := j') H hr hij (by omega)
      simpa only [Int.toNat_natCast, show ((j' : Int) - (i' : Int)).toNat = j' - i' from by omega, iq] using this
theorem Qk (H : V w0 w (kC p L pt mk • F)) : iK prog 87 #[.pointer (some ⟨p, 0, none⟩), .int .i64 x] w fun v' w' => v' = .int .i64 (smE L x) ∧ V w0 w' (kC p L pt (ZL L mk x) • F) := by
 unfold smE ZL
 refine nO func87 ntmps87 ?_
 refine kG O (aI (bT O (aT (fF O O) (nS O (fun h1 => ?_) (fun h1 => ?_)))))
 ·(try simp only [aG] at h1)
  refine bJ (cO O (bJ (cO O (bJ (fH O func149 (KY H) ?_)))))
  rintro _ _ ⟨rfl, rfl⟩
  refine bJ (aT (jG O) (mQ O O (jo O (fun h2 => ?_) (fun h2 => ?_))))
  ·(try simp only [aG] at h2)
   refine jE O (aC (dO results87 O ?_))
   exact ⟨by rw [if_pos (by omega)], by rw [if_pos (by omega)]; exact H⟩
  ·(try simp only [aG] at h2)
   refine gX (aI ?_)
   obtain ⟨agc, agd, OA, Ql, WH, age, agf, Sz⟩ := (H).ref
   refine aF (ku O O (dM O (bg 2 bG O ah O (aH (st3 2 Sz ah) ?_))))
   rintro _ w3 H3
   refine iR (jE O (dO results87 O ?_))
   exact ⟨by rw [if_neg (by omega)], by rw [if_neg (by omega)]; exact V.mO OA Ql (by omega) H3.f2.f2⟩
 ·(try simp only [aG] at h1)
  refine dB (dB (dB (dB (kP O O (iR (yh (gX (aI ?_))))))))
  obtain ⟨agc, agd, OA, Ql, WH, age, agf, Sz⟩ := (H).ref
  refine aF (ku O O (dM O (bg 2 bG O ah O (aH (st3 2 Sz ah) ?_))))
  rintro _ w5 H5
  refine iR (jE O (dO results87 O ?_))
  exact ⟨by rw [if_neg (by omega)], by rw [if_neg (by omega)]; exact V.mO OA Ql (by omega) H5.f2.f2⟩
theorem WI (H : V w0 w (kC p L pt mk • F)) : iK prog 89 #[.pointer (some ⟨p, 0, none⟩)] w fun v' w' => v' = .int .i64 (swE mk) ∧ V w0 w' (kC p L (swP pt mk) (swM pt mk) • F) := by
 unfold swE swP swM
 refine jl func89 ntmps89 ?_
 refine kG O (aI (aI ?_))
 obtain ⟨agc, agd, OA, Ql, WH, age, agf, Sz⟩ := (H).ref
 refine aF (kY O O (bg 2 bG O ah O (dQ ay O (Sz).get.2 O (aT (fJ O O) (jo O (fun h1 => ?_) (fun h1 => ?_))))))
 ·(try simp only [aG] at h1)
  refine jE O (aC (dO results89 O ?_))
  exact ⟨by rw [if_pos (by omega)], by rw [if_pos (by omega), if_pos (by omega)]; exact V.mO OA Ql (by omega) Sz.f2.f2⟩
 ·(try simp only [aG] at h1)
  refine gX (aI ?_)
  have Yz := Sz.drew
  have wE := V.kp (Yz.f2.f2)
  refine tH [5, 9] wE O (fM 0 O wE O (fM 1 O wE O (fM 2 O wE O (jF 3 O wE O (eP 4 O wE 2 bG O ah O (iD 5 O wE (fun W hW => jk ay O ((Kp.h hW)).get.2 O) (fM 6 O wE O (jF 7 O wE O (eP 8 O wE 1 bG O ah O (iD 9 O wE (fun W hW => jk ay O ((Kp.h hW)).get.2 O) (jF 10 O wE O (eP 11 O wE 1 bG O ah O ?_))))))))))))
  refine gW 12 O (by kernel_rfl) (st3 1 Yz ah) ?_
  rintro _ w2 H2
  have Bq := V.kp (H2.f2.f2)
  refine dX Bq (by kernel_rfl) ?_
  refine jF 13 O Bq O (eP 14 O Bq 2 bG O ah O ?_)
  refine gW 15 O (by kernel_rfl) (st3 2 H2 ah) ?_
  rintro _ w3 H3
  have lW := V.kp (H3.f2.f2)
  refine dX lW (by kernel_rfl) ?_
  refine oH (aZ (jE O (dO results89 O ?_)))
  exact ⟨by rw [if_neg (by omega)], by rw [if_neg (by omega), if_neg (by omega)]; exact V.mO OA (by omega) (by omega) H3.f2.f2⟩
theorem Us (H : V w0 w (kC p L pt mk • F)) (hd : jZ w0 F .i32 d dl) (hi : jZ w0 F .i32 s il) (hlb : il.length ≤ 140737488355328) : iK prog 183 #[.pointer (some ⟨p, 0, none⟩), .agg #[.int .i64 a, d, s]] w fun v' w' =>
    v' = .int .i64 (CO L a dl il) ∧ V w0 w' (kC p (Ed L a dl il) (Qa L pt a dl il) (Qb L mk a dl il) • F) := by
  have hL : L.length ≤ 1024 := by obtain ⟨a, c, g1, g2, g3, hc1, hc2, HB⟩ := H.ref; exact g1
  refine nO func183 ntmps183 ?_
  refine kQ (jT (kZ (l := [_, _, _]) H O O) ?_)
  rintro _ w1 ⟨b1, rfl, H1⟩
  refine vI O (bT O (bg 0 aQ O ah O (dQ ay O (H1).get.2 O (fH O func149 (KY H1.f2) ?_))))
  rintro _ _ ⟨rfl, rfl⟩
  refine aT (jG O) (jo O (fun h1 => ?_) (fun h1 => ?_))
  · (try simp only [aG] at h1)
    refine jE O (aC (dO results183 O ?_))
    have e : CO L a dl il = 70 := by unfold CO; rw [if_pos (by omega)]
    unfold Ed Qa Qb
    rw [e]
    exact ⟨O, H1.right⟩
  · (try simp only [aG] at h1)
    refine gX (aI (aI ?_))
    obtain ⟨agc, agd, OA, Ql, WH, age, agf, Sz⟩ := (H1.f2).ref
    have Qm := Sz.drew
    have kX := V.kp (Qm.f3.f3.f3)
    refine tH [1, 6, 9, 16, 18, 20, 22, 27] kX O (eP 0 O kX 1 aQ O bI O (iD 1 O kX (fun W hW => jk aB O ((Kp.h hW).f3).get.2 O) (iE 2 O kX (fun _ => kT (hd _ (Qm.right.right.right)) aB O) (fM 3 O kX O (jF 4 O kX O (eP 5 O kX 0 bG O bI O (iD 6 O kX (fun W hW => jk aB O ((Kp.h hW)).get.2 O) (iE 7 O kX (fun _ => kT ((Qm.f2).aJ) aB O) (eP 8 O kX 0 aQ O ah O (iD 9 O kX (fun W hW => jk ay O ((Kp.h hW).f3).get.2 O) (iE 10 O kX (fun _ => nN O O (by omega)) (iE 11 O kX (fun _ => fZ O O) ?_))))))))))))
    refine rO 12 O O (by kernel_rfl) (by kernel_rfl) kX (iO O) (fun h2 => ?_) (fun h2 => ?_)
    · (try simp only [aG] at h2)
      refine jB 13 O O O O (by kernel_rfl) (by kernel_rfl) kX (iO O) ?_
      refine jB 14 O O O O (by kernel_rfl) (by kernel_rfl) kX (iO O) ?_
      refine jB 15 O O O O (by kernel_rfl) (by kernel_rfl) kX (iO O) ?_
      refine jB 16 O O O O (by kernel_rfl) (by kernel_rfl) kX (iO O) ?_
      refine jB 17 O O O O (by kernel_rfl) (by kernel_rfl) kX (iO O) ?_
      refine jB 18 O O O O (by kernel_rfl) (by kernel_rfl) kX (iO O) ?_
      refine jB 19 O O O O (by kernel_rfl) (by kernel_rfl) kX (iO O) ?_
      refine jB 20 O O O O (by kernel_rfl) (by kernel_rfl) kX (iO O) ?_
      refine jB 21 O O O O (by kernel_rfl) (by kernel_rfl) kX (iO O) ?_
      refine jB 22 O O O O (by kernel_rfl) (by kernel_rfl) kX (iO O) ?_
      refine jB 23 O O O O (by kernel_rfl) (by kernel_rfl) kX (iO O) ?_
      refine jB 24 O O O O (by kernel_rfl) (by kernel_rfl) kX (iO O) ?_
      refine jB 25 O O O O (by kernel_rfl) (by kernel_rfl) kX (iO O) ?_
      refine jB 26 O O O O (by kernel_rfl) (by kernel_rfl) kX (iO O) ?_
      refine jB 27 O O O O (by kernel_rfl) (by kernel_rfl) kX (iO O) ?_
      refine jB 28 O O O O (by kernel_rfl) (by kernel_rfl) kX (iO O) ?_
      refine jB 29 O O O O (by kernel_rfl) (by kernel_rfl) kX (iO O) ?_
      refine iE 30 O kX (fun _ => oP O O) (oH (aZ (DZ (jE O (aC (dO results183 O ?_))))))
      have e1 : (a + dl.length).toNat - a.toNat = dl.length := by omega
      have hf : Dq L a dl = false := by
        simp only [Dq, Bool.and_eq_false_iff, decide_eq_false_iff_not, beq_eq_false_iff_ne, ne_eq]
        first
          | (refine .inl ?_; omega)
          | (refine .inr ?_; rw [e1] at hcond; exact hcond)
      have e : CO L a dl il = 71 := by unfold CO; rw [if_neg (by omega), hf]; rfl
      unfold Ed Qa Qb
      rw [e]
      exact ⟨O, V.mO OA Ql WH Qm.f3.right.f2.f2⟩
    · (try simp only [aG] at h2)
      refine bQ 13 O O O (by kernel_rfl) (by kernel_rfl) kX (fun _ => oh O) (iO O) ?_
      refine bQ 14 O O O (by kernel_rfl) (by kernel_rfl) kX (fun _ => XL O) (iO O) ?_
      refine bQ 15 O O O (by kernel_rfl) (by kernel_rfl) kX (fun _ => xH 0 bG O O bI (by decide) O rfl) (iO O) ?_
      refine jW 16 O O O (by kernel_rfl) (by kernel_rfl) kX (by decide) (fun W hW => fB (dG aB O) O (iP ((Kp.h hW)).get.2 O)) (iO O) ?_
      refine bQ 17 O O O (by kernel_rfl) (by kernel_rfl) kX (fun _ => xH 0 aQ O O ah (by decide) O rfl) (iO O) ?_
      refine jW 18 O O O (by kernel_rfl) (by kernel_rfl) kX (by decide) (fun W hW => fB (dG ay O) O (iP ((Kp.h hW).f3).get.2 O)) (iO O) ?_
      refine bQ 19 O O O (by kernel_rfl) (by kernel_rfl) kX (fun _ => xH 0 aQ O O ah (by decide) O rfl) (iO O) ?_
      refine jW 20 O O O (by kernel_rfl) (by kernel_rfl) kX (by decide) (fun W hW => fB (dG ay O) O (iP ((Kp.h hW).f3).get.2 O)) (iO O) ?_
      refine bQ 21 O O O (by kernel_rfl) (by kernel_rfl) kX (fun _ => xH 1 aQ O O bI (by decide) O rfl) (iO O) ?_
      refine jW 22 O O O (by kernel_rfl) (by kernel_rfl) kX (by decide) (fun W hW => fB (dG aB O) O (iP ((Kp.h hW).f3).get.2 O)) (iO O) ?_
      refine bQ 23 O O O (by kernel_rfl) (by kernel_rfl) kX (fun _ => kT (hd _ (Qm.right.right.right)) aB O) (iO O) ?_
      refine bQ 24 O O O (by kernel_rfl) (by kernel_rfl) kX (fun _ => gY O O (by omega)) (iO O) ?_
      refine bQ 25 O O O (by kernel_rfl) (by kernel_rfl) kX (fun _ => rP ((Qm.f2).aJ) aB jU O O O (by omega)) (iO O) ?_
      refine bQ 26 O O O (by kernel_rfl) (by kernel_rfl) kX (fun _ => xH 1 aQ O O bI (by decide) O rfl) (iO O) ?_
      refine jW 27 O O O (by kernel_rfl) (by kernel_rfl) kX (by decide) (fun W hW => fB (dG aB O) O (iP ((Kp.h hW).f3).get.2 O)) (iO O) ?_
      refine kJ 28 O O O (by kernel_rfl) (nM (nX O func121 O O) (Nb _ _ _ _ _ (mP.cut ((Qm.f2).aJ) (by omega) (by omega)) (hd _ (Qm.right.right.right)))) (iO O) ?_
      rintro _ w4 ⟨rfl, hD4⟩
      have HD4 := Qm.yg hD4
      have ng := V.kp (HD4.f3.f3.f3)
      refine dX ng (by kernel_rfl) ?_
      refine bQ 29 O O O (by kernel_rfl) (by kernel_rfl) ng (fun _ => jG O) (iO O) ?_
      refine iE 30 O ng (fun _ => y5 O O) (oH (aZ (dw O (fun h3 => ?_) (fun h3 => ?_))))
      · (try simp only [aG] at h3)
        have hcond := h3
        refine jE O (aC (dO results183 O ?_))
        have e1 : (a + dl.length).toNat - a.toNat = dl.length := by omega
        have hf : Dq L a dl = false := by
          simp only [Dq, Bool.and_eq_false_iff, decide_eq_false_iff_not, beq_eq_false_iff_ne, ne_eq]
          first
            | (refine .inl ?_; omega)
            | (refine .inr ?_; rw [e1] at hcond; exact hcond)
        have e : CO L a dl il = 71 := by unfold CO; rw [if_neg (by omega), hf]; rfl
        unfold Ed Qa Qb
        rw [e]
        exact ⟨O, V.mO OA Ql WH HD4.f3.right.f2.f2⟩
      · (try simp only [aG] at h3)
        have hcond := h3
        refine gX (aI ?_)
        have LP := HD4.f2.f2
        have Ih := V.mO OA Ql WH LP
        refine aF (cO O (bg 0 aQ O ah O (dQ ay O (Ih.f2).get.2 O (bg 0 aQ O ah O (dQ ay O (Ih.f2).get.2 O (bg 1 aQ O bI O (dQ aB O (Ih.f2).get.2 O (aT (kT (hd _ (Ih.right.right)) aB O) (aT (gY O O (by omega)) (bg 2 aQ O bI O (dQ aB O (Ih.f2).get.2 O (fH O func150 (Jg Ih (fun W HW => hi _ (HW.right)) (by (try simp only [List.length_nil]); omega)) ?_))))))))))))
        rintro _ w8 ⟨d8, s8, rfl, H8⟩
        refine cO O (xY O O (xY O O (jT (iI (l := [_, _, _]) H8 cZ O) ?_)))
        rintro _ w9 ⟨b9, rfl, H9⟩
        refine aH (dR 0 (l' := [_, _, _]) (us := [_, _, _]) H9 bM O O O (aP (bD (by first | rfl | exact Rd.one ((H9.f2).aJ)) (bD (by first | rfl | exact Rd.one ((H9.f3).aJ)) bW))) O O) ?_
        rintro _ w10 rU
        refine iU O (bT O (iJ O (dO results183 O ?_)))
        have e1 : (a + dl.length).toNat - a.toNat = dl.length := by omega
        have hf : Dq L a dl = true := by
          simp only [Dq, Bool.and_eq_true, decide_eq_true_eq, beq_iff_eq]
          exact ⟨by omega, by rw [e1] at hcond; exact hcond⟩
        have e : CO L a dl il = lG L a (a + dl.length) il := by unfold CO; rw [if_neg (by omega), if_pos hf]
        refine ⟨by rw [e]; rfl, ?_⟩
        unfold Ed Qa Qb
        rw [e]
        by_cases h0 : lG L a (a + dl.length) il = 0
        · simp only [if_pos h0]; exact rU.right.right.right.f2.right
        · simp only [if_neg h0]
          have H9 := rU.right.right.right.f2.right
          unfold nP wo wu at H9
          simpa only [if_neg h0] using H9
end
section
variable {w0 w : World} {F : HP} {p place : Nat} {E ls : List (List Int)} {v x y : Value} {l m : List Int} {vs : List Value}
theorem SA (H : V w0 w F) (h1 : jZ w0 F .i32 x l) (h2 : jZ w0 F .i32 y m) (hb : l.length + m.length ≤ 35184372088832) :
    iK prog 148 #[x, y] w fun v w' => V w0 w' (kF 21 .i32 v (l ++ m) • F) := by
  refine nO func148 ntmps148 ?_
  refine kG O (kG O (bT O (cO O (jT (eF (l := []) (H.iV none) (h1 _ (H)) aB O5 O O (by first | omega | (simp only [List.length_append, List.length_nil, List.length_cons]; omega) | (simp; omega)) (by first | omega | (simp only [List.length_append, List.length_nil, List.length_cons]; omega) | (simp; omega))) ?_))))
  rintro l1 w1 H1
  try simp only [List.nil_append] at H1
  refine iU O (bT O (cO O (jT (eF H1 (h2 _ (H1.right)) aB O5 O O (by first | omega | (simp only [List.length_append, List.length_nil, List.length_cons]; omega) | (simp; omega)) (by first | omega | (simp only [List.length_append, List.length_nil, List.length_cons]; omega) | (simp; omega))) ?_)))
  rintro l2 w2 H2
  try simp only [List.nil_append] at H2
  refine iJ O (dO results148 O ?_)
  simpa using H2
theorem Ez (H : V w0 w F) (h1 : jZ w0 F .i32 x l) (hb : l.length ≤ 35184372088832) :
    iK prog 148 #[x, .slice none 0 0] w fun v w' => V w0 w' (kF 21 .i32 v l • F) := by
  have := SA H h1 (fun W _ => mP.nil W .i32 none 0 (by decide)) (by simpa using hb)
  simpa using this
def lI (p : Nat) (E : List (List Int)) (place : Nat) : HP := BK fun v => gU p (.cells #[v, .int .i64 place] 115 (0, 0)) • LL 24 .i32 v E
theorem V.Pn (H : V w0 w (lI p E place • F)) : ∃ v, V w0 w (gU p (.cells #[v, .int .i64 place] 115 (0, 0)) • LL 24 .i32 v E • F) := let ⟨v, h⟩ := H.sS; ⟨v, h.flat⟩
theorem V.mV (H : V w0 w (gU p (.cells #[v, .int .i64 place] 115 (0, 0)) • LL 24 .i32 v E • F)) : V w0 w (lI p E place • F) := V.lK v H.deep
theorem JI {α : Type _} {l : List α} {k : Nat} {d : α} (h : k < l.length) : l.take (k + 1) = l.take k ++ [l.getD k d] := by rw [List.take_succ_eq_append_getElem h, List.getD_eq_getElem?_getD, List.getElem?_eq_getElem h]; rfl
theorem SB {way : Int} {v : Value} (H : V w0 w (lI p E place • F)) (hr : jZ w0 F .i32 v l) (hE : E.length ≤ 60) (hE2 : ∀ e ∈ E, e.length ≤ 1024) (hp : place < E.length ∨ place = 0) :
    iK prog 180 #[.pointer (some ⟨p, 0, none⟩), .int .i64 way, v] w fun v' w' => v' = .int .i64 (oN E place way l).1 ∧ V w0 w' (lI p (oN E place way l).2.1 (oN E place way l).2.2 • F) := by
  obtain ⟨u, HR⟩ := H.Pn
  obtain ⟨us, HR⟩ := HR.swap.ll
  obtain ⟨au, cu, rfl, -⟩ := (HR.aJ).form
  obtain ⟨a, c, rfl, _, _, _⟩ := (hr w H.right).open
  have hE0 : 0 < E.length → (E.getD 0 []).length ≤ 1024 := fun h => hE2 _ (vM h)
  refine FY func180 ntmps180 ?_
  refine kG O (aI (bT O (aT (fJ O O) (nS O (fun h1 => ?_) (fun h1 => ?_)))))
  · (try simp only [aG] at h1)
    refine dB (dB (mQ O O (iR (DZ (jE O (aC (dO qR O ?_)))))))
    have hK : oN E place way l = (1, E, place) := by unfold oN; rw [if_pos (by omega)]
    rw [hK]
    exact ⟨O, V.mV (V.yT (HR.f3.f3.f3)).f2⟩
  · (try simp only [aG] at h1)
    refine bJ (cO O (bJ (aT (fZ O O) (kP O O (jo O (fun h2 => ?_) (fun h2 => ?_))))))
    · (try simp only [aG] at h2)
      refine jE O (aC (dO qR O ?_))
      have hK : oN E place way l = (1, E, place) := by unfold oN; rw [if_pos (by omega)]
      rw [hK]
      exact ⟨O, V.mV (V.yT (HR.f3.f3.f3)).f2⟩
    · (try simp only [aG] at h2)
      refine gX (aI (bT O (aT (kT (hr _ (HR.right.right.right)) aB O) (aT (fZ O O) (jo O (fun h3 => ?_) (fun h3 => ?_))))))
      · (try simp only [aG] at h3)
        refine jE O (aC (dO qR O ?_))
        have hK : oN E place way l = (3, E, place) := by unfold oN; rw [if_neg (by omega), if_pos (by omega)]
        rw [hK]
        exact ⟨O, V.mV (V.yT (HR.f3.f3.f3)).f2⟩
      · (try simp only [aG] at h3)
        refine gX (aI (bT O (aT (fF O O) (nS O (fun h4 => ?_) (fun h4 => ?_)))))
        · (try simp only [aG] at h4)
          refine bJ (cO O (bJ (dM O (bJ (bg 0 dD O gV O (bJ (dQ bF O (HR.f3).get.2 O (bJ (aT (fV ((HR).aJ) bF O) (bJ (aT (fZ O O) (mQ O O (jo O (fun h5 => ?_) (fun h5 => ?_))))))))))))))
          · (try simp only [aG] at h5)
            refine aI (bT O (aT (kT (hr _ (HR.right.right.right)) aB O) (kY O O (bg 0 dD O gV O (dQ bF O (HR.f3).get.2 O ?_)))))
            obtain ⟨bu, ou, cu, eu⟩ := Rd.qX ((HR).aJ) (by omega)
            cases eu
            refine aT (dP bF bI O O (by omega)) ?_
            refine aT (fB (dG aB O) O (by first | exact Rd.yc ((HR).aJ) (by omega) | exact Rd.I8 ((HR).aJ) (by omega) | exact Rd.Ib ((HR).aJ) (by omega))) ?_
            refine Ob (fun alT ahN => ?_)
            refine aT (kT ((by rw [ahN]; exact (HR.f2).Dc (by omega))) aB O) ?_
            refine aT (gY O O (by omega)) (aT (fZ O O) (jo O (fun h6 => ?_) (fun h6 => ?_)))
            · (try simp only [aG] at h6)
              refine jE O (aC (aC (dO qR O ?_)))
              have hK : oN E place way l = (3, E, place) := by unfold oN; rw [if_neg (by omega), if_neg (by omega), if_pos (by omega), if_pos (by omega)]
              rw [hK]
              exact ⟨O, V.mV (V.yT (HR.f3.f3.f3)).f2⟩
            · (try simp only [aG] at h6)
              refine gX (bT O (dM O (bg 0 dD O gV O (dQ bF O (HR.f3).get.2 O (aT (dP bF bI O O (by omega)) ?_)))))
              refine aT (fB (dG aB O) O (by first | exact Rd.yc ((HR).aJ) (by omega) | exact Rd.I8 ((HR).aJ) (by omega) | exact Rd.Ib ((HR).aJ) (by omega))) ?_
              refine Ob (fun alU ahO => ?_)
              refine cO O (fH O func148 (SA HR (fun W HW => (by rw [ahO]; exact (HW.f2).Dc (by omega))) (fun W HW => hr _ (HW.right.right.right)) (by simp at *; omega)) ?_)
              rintro u3 w3 H3
              refine vI O (bT O (aT (fA O O) (jo O (fun h7 => ?_) (fun h7 => ?_))))
              · (try simp only [aG] at h7)
                refine aF (ku O O (dM O (bg 0 dD O gV O (dQ bF O (H3.f4).get.2 O (aT (dP bF bI O O (by omega)) ?_)))))
                refine aT (fB (dG aB O) O (by first | exact Rd.yc ((H3.f2).aJ) (by omega) | exact Rd.I8 ((H3.f2).aJ) (by omega) | exact Rd.Ib ((H3.f2).aJ) (by omega))) ?_
                refine Ob (fun alV ahP => ?_)
                refine fH O func148 (SA H3 (fun W HW => hr _ (HW.right.right.right.right)) (fun W HW => (by rw [ahP]; exact (HW.f3).Dc (by omega))) (by simp at *; omega)) ?_
                rintro u5 w5 H5
                refine iU O (bT O (jT (mX (vs := [_]) H5 bF bI pR O O O (by decide) (bD (by first | rfl | exact Rd.one ((H5).aJ)) bW)) ?_))
                rintro l6 w6 H6
                refine iU O (bT O (ku O O (dM O (bg 0 dD O gV O (dQ bF O (H6.f6).get.2 O (aT (rP ((H6.f4).aJ) bF bI O O O (by omega)) ?_))))))
                refine jT (gK H6 bF Po O O O (Rd.agU ((H6.f4).aJ) (by omega)) (fun z hz => (H6.f5).Gy z (List.mem_of_mem_drop hz)) (by omega) (by omega)) ?_
                rintro l7 w7 H7
                refine dM O (bg 0 dD O gV O (aH (iw 0 (l' := [_, _]) H7.f6 gV O O (by first | rfl | exact Rd.one ((H7).aJ)) O O) ?_))
                rintro _ w8 H8
                refine qG O (dM O (bg 1 dD O ah O (aH (st2 1 H8 ah) ?_)))
                rintro _ w9 H9
                refine iR (jE O (aC (dO qR O ?_)))
                have akx := H9.f3.mM
                have H2 := ((akx.f4.right.f4.right.f2.f3.f3.f4).U3 1).f2.Ew.f2
                have H3 := V.mV (V.yT H2).f2
                rw [List.drop_one] at H3
                unfold oN
                rw [if_neg (by omega), if_neg (by omega), if_pos (by omega), if_neg (by omega)]
                first
                  | (rw [if_pos (show way = 1 by omega)]; exact ⟨rfl, H3⟩)
                  | (rw [if_neg (show ¬ way = 1 by omega)]; exact ⟨rfl, H3⟩)
              · (try simp only [aG] at h7)
                refine gX (bT O (jT (mX (vs := [_]) H3 bF bI pR O O O (by decide) (bD (by first | rfl | exact Rd.one ((H3).aJ)) bW)) ?_))
                rintro l11 Ii rE
                refine iU O (bT O (ku O O (dM O (bg 0 dD O gV O (dQ bF O (rE.f5).get.2 O (aT (rP ((rE.f3).aJ) bF bI O O O (by omega)) ?_))))))
                refine jT (gK rE bF Po O O O (Rd.agU ((rE.f3).aJ) (by omega)) (fun z hz => (rE.f4).Gy z (List.mem_of_mem_drop hz)) (by omega) (by omega)) ?_
                rintro l12 w12 uP
                refine dM O (bg 0 dD O gV O (aH (iw 0 (l' := [_, _]) uP.f5 gV O O (by first | rfl | exact Rd.one ((uP).aJ)) O O) ?_))
                rintro _ P7 AZ
                refine qG O (dM O (bg 1 dD O ah O (aH (st2 1 AZ ah) ?_)))
                rintro _ O9 BJ
                refine iR (jE O (aC (dO qR O ?_)))
                have aky := BJ.f3.mM
                have H2 := ((aky.f4.right.f2.f3.f3.f4).U3 1).f2.Ew.f2
                have H3 := V.mV (V.yT H2).f2
                rw [List.drop_one] at H3
                unfold oN
                rw [if_neg (by omega), if_neg (by omega), if_pos (by omega), if_neg (by omega)]
                first
                  | (rw [if_pos (show way = 1 by omega)]; exact ⟨rfl, H3⟩)
                  | (rw [if_neg (show ¬ way = 1 by omega)]; exact ⟨rfl, H3⟩)
          · (try simp only [aG] at h5)
            refine gX (aI (bT O (aT (kT (hr _ (HR.right.right.right)) aB O) (aT (fA O O) (nS O (fun h8 => ?_) (fun h8 => ?_))))))
            · (try simp only [aG] at h8)
              refine bJ (cO O (bJ (aT (fA O O) (mQ O O (jo O (fun h9 => ?_) (fun h9 => ?_))))))
              · (try simp only [aG] at h9)
                exfalso; first | contradiction | omega
              · (try simp only [aG] at h9)
                refine gX (bT O (fH O func148 (Ez HR (fun W HW => hr _ (HW.right.right.right)) (by omega)) ?_))
                rintro u16 w16 yG
                refine jT (mX (vs := [_]) yG bF bI pR O O O (by decide) (bD (by first | rfl | exact Rd.one ((yG).aJ)) bW)) ?_
                rintro l17 ZI DL
                refine iU O (bT O (ku O O (dM O (bg 0 dD O gV O (dQ bF O (DL.f5).get.2 O (jT (gK DL bF Po O O O ((DL.f3).aJ) ((DL.f4).Gy) (by omega) (by omega)) ?_))))))
                rintro l18 U5 DN
                refine dM O (bg 0 dD O gV O (aH (iw 0 (l' := [_, _]) DN.f5 gV O O (by first | rfl | exact Rd.one ((DN).aJ)) O O) ?_))
                rintro _ X9 Df
                refine uV (bT O (dM O (bg 0 dD O gV O (dQ bF O (Df).get.2 O (aT (fV ((Df.f2).aJ) bF O) (aT (fZ O O) (jo O (fun h10 => ?_) (fun h10 => ?_))))))))
                · (try simp only [aG] at h10)
                  exfalso; first | contradiction | omega
                · (try simp only [aG] at h10)
                  refine gX (bT O (dM O (bg 1 dD O ah O (aH (st2 1 Df ah) ?_))))
                  rintro _ Yb BM
                  refine iR (jE O (dO qR O ?_))
                  have akz := BM.f3.mM
                  have hK : oN E place way l = (0, (l :: E).take 60, 0) := by unfold oN; rw [if_neg (by omega), if_neg (by omega), if_neg (by omega), if_neg (by omega)]
                  rw [hK]
                  have H2 := (akz.f4.right.f2.f3.f4.f4).Ew.f2
                  have H3 := V.yT H2
                  first
                    | (rw [List.take_of_length_le (by simp; omega)]; exact ⟨rfl, V.mV H3.f2⟩)
                    | exact ⟨rfl, V.mV (H3.Qu (n := 60) (by simp; omega)).f2⟩
            · (try simp only [aG] at h8)
              refine dB (dB (kP O O (iR (yh (gX (bT O (fH O func148 (Ez HR (fun W HW => hr _ (HW.right.right.right)) (by omega)) ?_)))))))
              rintro u25 w25 Jo
              refine jT (mX (vs := [_]) Jo bF bI pR O O O (by decide) (bD (by first | rfl | exact Rd.one ((Jo).aJ)) bW)) ?_
              rintro l26 w26 FK
              refine iU O (bT O (ku O O (dM O (bg 0 dD O gV O (dQ bF O (FK.f5).get.2 O (jT (gK FK bF Po O O O ((FK.f3).aJ) ((FK.f4).Gy) (by omega) (by omega)) ?_))))))
              rintro l27 w27 KT
              refine dM O (bg 0 dD O gV O (aH (iw 0 (l' := [_, _]) KT.f5 gV O O (by first | rfl | exact Rd.one ((KT).aJ)) O O) ?_))
              rintro _ w28 Rz
              refine uV (bT O (dM O (bg 0 dD O gV O (dQ bF O (Rz).get.2 O (aT (fV ((Rz.f2).aJ) bF O) (aT (fZ O O) (jo O (fun h11 => ?_) (fun h11 => ?_))))))))
              · (try simp only [aG] at h11)
                exfalso; first | contradiction | omega
              · (try simp only [aG] at h11)
                refine gX (bT O (dM O (bg 1 dD O ah O (aH (st2 1 Rz ah) ?_))))
                rintro _ w32 TY
                refine iR (jE O (dO qR O ?_))
                have akA := TY.f3.mM
                have hK : oN E place way l = (0, (l :: E).take 60, 0) := by unfold oN; rw [if_neg (by omega), if_neg (by omega), if_neg (by omega), if_neg (by omega)]
                rw [hK]
                have H2 := (akA.f4.right.f2.f3.f4.f4).Ew.f2
                have H3 := V.yT H2
                first
                  | (rw [List.take_of_length_le (by simp; omega)]; exact ⟨rfl, V.mV H3.f2⟩)
                  | exact ⟨rfl, V.mV (H3.Qu (n := 60) (by simp; omega)).f2⟩
        · (try simp only [aG] at h4)
          refine dB (dB (dB (dB (dB (dB (kP O O (iR (yh (gX (aI (bT O (aT (kT (hr _ (HR.right.right.right)) aB O) (aT (fA O O) (nS O (fun h12 => ?_) (fun h12 => ?_)))))))))))))))
          · (try simp only [aG] at h12)
            refine bJ (cO O (bJ (aT (fA O O) (mQ O O (jo O (fun h13 => ?_) (fun h13 => ?_))))))
            · (try simp only [aG] at h13)
              refine jE O (aC (dO qR O ?_))
              have hK : oN E place way l = (0, E, place) := by unfold oN; rw [if_neg (by omega), if_neg (by omega), if_neg (by omega), if_pos (by omega)]
              rw [hK]
              exact ⟨O, V.mV (V.yT (HR.f3.f3.f3)).f2⟩
            · (try simp only [aG] at h13)
              exfalso; first | contradiction | omega
          · (try simp only [aG] at h12)
            refine dB (dB (kP O O (iR (yh (gX (bT O (fH O func148 (Ez HR (fun W HW => hr _ (HW.right.right.right)) (by omega)) ?_)))))))
            rintro u43 w43 H43
            refine jT (mX (vs := [_]) H43 bF bI pR O O O (by decide) (bD (by first | rfl | exact Rd.one ((H43).aJ)) bW)) ?_
            rintro l44 w44 ZN
            refine iU O (bT O (ku O O (dM O (bg 0 dD O gV O (dQ bF O (ZN.f5).get.2 O (jT (gK ZN bF Po O O O ((ZN.f3).aJ) ((ZN.f4).Gy) (by omega) (by omega)) ?_))))))
            rintro l45 w45 Ut
            refine dM O (bg 0 dD O gV O (aH (iw 0 (l' := [_, _]) Ut.f5 gV O O (by first | rfl | exact Rd.one ((Ut).aJ)) O O) ?_))
            rintro _ w46 ZO
            refine uV (bT O (dM O (bg 0 dD O gV O (dQ bF O (ZO).get.2 O (aT (fV ((ZO.f2).aJ) bF O) (aT (fZ O O) (jo O (fun h15 => ?_) (fun h15 => ?_))))))))
            · (try simp only [aG] at h15)
              refine aF (ku O O (dM O (bg 0 dD O gV O (dQ bF O (ZO).get.2 O (aT (rP ((ZO.f2).aJ) bF bI O O O (by omega)) ?_)))))
              refine dM O (bg 0 dD O gV O (aH (iw 0 (l' := [_, _]) ZO gV O O (by first | rfl | exact Rd.one (Rd.agT ((ZO.f2).aJ) (by omega))) O O) ?_))
              rintro _ w47 H47
              refine qG O (dM O (bg 1 dD O ah O (aH (st2 1 H47 ah) ?_)))
              rintro _ w48 H48
              refine iR (jE O (dO qR O ?_))
              have akB := H48.f3.mM
              have hK : oN E place way l = (0, (l :: E).take 60, 0) := by unfold oN; rw [if_neg (by omega), if_neg (by omega), if_neg (by omega), if_neg (by omega)]
              rw [hK]
              have H2 := (akB.f4.right.f2.f3.f4.f4).Ew.f2
              have H3 := V.yT H2
              first
                | (rw [List.take_of_length_le (by simp; omega)]; exact ⟨rfl, V.mV H3.f2⟩)
                | exact ⟨rfl, V.mV (H3.Qu (n := 60) (by simp; omega)).f2⟩
            · (try simp only [aG] at h15)
              refine gX (bT O (dM O (bg 1 dD O ah O (aH (st2 1 ZO ah) ?_))))
              rintro _ w50 H50
              refine iR (jE O (dO qR O ?_))
              have akC := H50.f3.mM
              have hK : oN E place way l = (0, (l :: E).take 60, 0) := by unfold oN; rw [if_neg (by omega), if_neg (by omega), if_neg (by omega), if_neg (by omega)]
              rw [hK]
              have H2 := (akC.f4.right.f2.f3.f4.f4).Ew.f2
              have H3 := V.yT H2
              first
                | (rw [List.take_of_length_le (by simp; omega)]; exact ⟨rfl, V.mV H3.f2⟩)
                | exact ⟨rfl, V.mV (H3.Qu (n := 60) (by simp; omega)).f2⟩
theorem SC (H : V w0 w (lI p E place • F)) (hE2 : ∀ e ∈ E, e.length ≤ 1024) (hp : place < E.length ∨ place = 0) :
  iK prog 156 #[.pointer (some ⟨p, 0, none⟩)] w fun v' w' => ∃ u, v' = .tuple #[u, .int .i64 (if E.length = 0 then 6 else 0)] ∧ V w0 w' (kF 21 .i32 u (E.getD place []) • lI p E place • F) := by
 obtain ⟨u, HR⟩ := H.Pn
 obtain ⟨us, HR⟩ := HR.swap.ll
 obtain ⟨au, cu, rfl, -⟩ := (HR.aJ).form
 have hE0 : place < E.length → (E.getD place []).length ≤ 1024 := fun h => hE2 _ (vM h)
 refine jl func156 ntmps156 ?_
 refine kQ (lg O (vI O (bT O (dM O (bg 0 dD O gV O (dQ bF O (HR.f3).get.2 O (aT (fV ((HR).aJ) bF O) (aT (fA O O) (jo O (fun h1 => ?_) (fun h1 => ?_))))))))))
 ·(try simp only [aG] at h1)
  refine kQ (lg O (iJ O (aC (Fp results156 O O ?_))))
  obtain rfl : E = [] := List.eq_nil_of_length_eq_zero (by omega)
  have HR2 := V.mV (V.yT (HR.f3.f3.f3)).f2
  exact ⟨_, O, HR2.iV none⟩
 ·(try simp only [aG] at h1)
  refine gX (aI ?_)
  have ahQ := HR.drew
  have JJ := V.kp (ahQ.f3.f3.f3)
  refine tH [3, 7, 9] JJ O (fM 0 O JJ O (jF 1 O JJ O (eP 2 O JJ 0 dD O gV O (iD 3 O JJ (fun W hW => jk bF O ((Kp.h hW).f3).get.2 O) (fM 4 O JJ O (jF 5 O JJ O (eP 6 O JJ 1 dD O ah O (iD 7 O JJ (fun W hW => jk ay O ((Kp.h hW).f3).get.2 O) ?_))))))))
  obtain ⟨bu, ou, cu, eu⟩ := Rd.qX ((ahQ).aJ) (by omega)
  cases eu
  refine iE 8 O JJ (fun _ => dP bF bI O O (by omega)) ?_
  refine iD 9 O JJ (fun W hW => fB (dG aB O) O (by first | exact Rd.yc (((Kp.h hW)).aJ) (by omega) | exact Rd.I8 (((Kp.h hW)).aJ) (by omega) | exact Rd.Ib (((Kp.h hW)).aJ) (by omega))) ?_
  refine QT (fun alW ahR => ?_)
  refine lC 10 O (qW O func148 (Ez ahQ (fun W HW => (by rw [ahR]; exact (HW.f2).Dc (by omega))) (by omega))) ?_
  rintro u2 w2 H2
  have Bq := V.kp (H2.f4.f4.f4.f4)
  refine dX Bq (by kernel_rfl) ?_
  refine iE 11 O Bq (fun _ => eH O) (iE 12 O Bq (fun _ => eH O) (oH (aZ (kN (Fp results156 O O ?_)))))
  rw [if_neg (by omega)]
  exact ⟨_, O, (V.mV (V.yT (H2.f4.f2.f4.f4)).f3).f2⟩
theorem OB {n : Int} (H : V w0 w (lI p E place • F)) (hE : E.length ≤ 60) (hE2 : ∀ e ∈ E, e.length ≤ 1024) (hp : place < E.length ∨ place = 0) :
  iK prog 157 #[.pointer (some ⟨p, 0, none⟩), .int .i64 n] w fun v' w' => ∃ u, v' = .tuple #[u, .int .i64 (if E.length = 0 then 6 else 0)] ∧
   V w0 w' (kF 21 .i32 u (if E.length = 0 then [] else E.getD (zC E.length place n) []) • lI p E (if E.length = 0 then place else zC E.length place n) • F) := by
 obtain ⟨u, HR⟩ := H.Pn
 obtain ⟨us, HR⟩ := HR.swap.ll
 obtain ⟨au, cu, rfl, -⟩ := (HR.aJ).form
 have hE0 : 0 < E.length → (E.getD (zC E.length place n) []).length ≤ 1024 := fun h => hE2 _ (vM (Qx h))
 refine nO func157 ntmps157 ?_
 refine kQ (lg O (vI O (bT O (dM O (bg 0 dD O gV O (dQ bF O (HR.f3).get.2 O (aT (fV ((HR).aJ) bF O) (aT (fA O O) (jo O (fun h1 => ?_) (fun h1 => ?_))))))))))
 ·(try simp only [aG] at h1)
  refine kQ (lg O (iJ O (aC (Fp results157 O O ?_))))
  obtain rfl : E = [] := List.eq_nil_of_length_eq_zero (by omega)
  have HR2 := V.mV (V.yT (HR.f3.f3.f3)).f2
  exact ⟨_, O, HR2.iV none⟩
 ·(try simp only [aG] at h1)
  refine gX (bT O (dM O (bg 0 dD O gV O (dQ bF O (HR.f3).get.2 O (aT (fV ((HR).aJ) bF O) ?_)))))
  have hlt := Qx (place := place) (n := n) (show 0 < E.length by omega)
  have acs := adY E.length place n (by omega)
  have hb1 := Ku n (show (0 : Int) < E.length by omega)
  have hb2 := Ku ((place : Int) + n.tmod E.length) (show (0 : Int) < E.length by omega)
  have hE1 := hE0 (by omega)
  refine vI O ?_
  have ajn := HR.drew
  have Cb := V.kp (ajn.f3.f3.f3)
  refine tH [4] Cb O (fM 0 O Cb O (fM 1 O Cb O (jF 2 O Cb O (eP 3 O Cb 1 dD O ah O (iD 4 O Cb (fun W hW => jk ay O ((Kp.h hW).f3).get.2 O) (fM 5 O Cb O (fM 6 O Cb O (iE 7 O Cb (fun _ => LD O O (by omega)) (iE 8 O Cb (fun _ => gY O O (by omega)) (fM 9 O Cb O (iE 10 O Cb (fun _ => LD O O (by omega)) (fM 11 O Cb O (iE 12 O Cb (fun _ => gY O O (by omega)) (fM 13 O Cb O (iE 14 O Cb (fun _ => LD O O (by omega)) (jF 15 O Cb O (eP 16 O Cb 1 dD O ah O ?_)))))))))))))))))
  refine gW 17 O (by kernel_rfl) (st2 1 ajn.f3 ah) ?_
  rintro _ w1 H1
  rw [acs] at H1
  have WJ := V.kp (H1.f3.f3.f3)
  refine dX WJ (by kernel_rfl) ?_
  refine oH (aZ (aI ?_))
  have IB := H1.drew
  have nG := V.kp (IB.f3.f3.f3)
  refine tH [3, 7, 9] nG O (fM 0 O nG O (jF 1 O nG O (eP 2 O nG 0 dD O gV O (iD 3 O nG (fun W hW => jk bF O ((Kp.h hW)).get.2 O) (fM 4 O nG O (jF 5 O nG O (eP 6 O nG 1 dD O ah O (iD 7 O nG (fun W hW => jk ay O ((Kp.h hW)).get.2 O) ?_))))))))
  obtain ⟨bu, ou, cu, eu⟩ := Rd.qX ((IB.f2).aJ) (by omega)
  cases eu
  refine iE 8 O nG (fun _ => dP bF bI O O (by omega)) ?_
  refine iD 9 O nG (fun W hW => fB (dG aB O) O (by first | exact Rd.yc (((Kp.h hW).f2).aJ) (by omega) | exact Rd.I8 (((Kp.h hW).f2).aJ) (by omega) | exact Rd.Ib (((Kp.h hW).f2).aJ) (by omega))) ?_
  refine QT (fun alX ahS => ?_)
  refine lC 10 O (qW O func148 (Ez IB (fun W HW => (by rw [ahS]; exact (HW.f3).Dc (by omega))) (by omega))) ?_
  rintro u3 w3 H3
  have lW := V.kp (H3.f4.f4.f4.f4)
  refine dX lW (by kernel_rfl) ?_
  refine iE 11 O lW (fun _ => eH O) (iE 12 O lW (fun _ => eH O) (oH (aZ (kN (Fp results157 O O ?_)))))
  rw [if_neg (by omega), if_neg (by omega), if_neg (by omega)]
  exact ⟨_, O, (V.mV (V.yT (H3.f2.f2.f4.f4)).f3).f2⟩
end
end Go.Proofs.YtnhhmieghbfalaaGreatDoor
end
