import Derived.Test.YtpdeedplgmbopaaGreatDoorZ4
import Derived.Test.YtpdeedplgmbopaaGreatDoorZ17
import Derived.Test.YtpdeedplgmbopaaGreatDoorZ10
set_option linter.unusedSimpArgs false
set_option linter.unusedVariables false
/- Texts of mine, joined, their names in short: VB2 VR1 VR2. -/
section
namespace Go.Proofs.YtpdeedplgmbopaaGreatDoor
open Go.RowKit Go.Lib
def Gg (a : Int) : Nat → Int
  | 0 => 0
  | k + 1 => if sb nY k = a then sb qK k else if sb qK k = a then sb nY k else Gg a k
def Gh (a : Int) : Nat → Int
  | 0 => 1
  | k + 1 => if sb nY k = a then -1 else Gh a k
theorem Zw {a : Int} (h : qo a = true) : Gg a 3 = sJ a ∧ Gh a 3 = wo a := by
  rcases Ep h with rfl | rfl | rfl | rfl | rfl | rfl <;> exact ⟨rfl, rfl⟩
section
variable {w0 w : World} {F : HP} {v : Value} {l : List Int} {x n key c r : Int} {s : ByteArray}
theorem Nj (H : V w0 w F) (hr : jE w0 F .i32 v l) (hx : 0 ≤ x ∧ x ≤ l.length) (SC : l.length ≤ 4611686018427387904) : ig Tryz.prog 45 #[v, .int .i64 x] w fun u w' => u = .tuple #[.int .i64 (oL l x).1, .bool (oL l x).2.2] ∧ V w0 w' F := by
  refine nC Tryz.func45 Tryz.ntmps45 ?_
  refine gW (dL O (tX O (aV ?_)))
  refine dJ [(0, _)] (fun (i : Int) => [(1, .int .i64 i)]) (fun (i : Int) W => ((0 ≤ i ∧ i ≤ l.length) ∧ iU (fun r => !qo r) l i = iU (fun r => !qo r) l x) ∧ V w0 W F) (fun (i : Int) => (l.length - i).toNat) (x) ji ji ⟨⟨hx, O⟩, H⟩ ?_
  rintro i w1 ⟨⟨hi, hE⟩, HL⟩
  dsimp only [List.cons_append, List.nil_append]
  refine aK (bM O (bG O (Z (fO (hr _ (HL)) aj O) (Z (fF O O) (iZ O (fun h1 => ?_) (fun h1 => ?_))))))
  · (try simp only [aC] at h1)
    refine bg (bG O (bg (bG O (bg ?_))))
    obtain ⟨bv, ov, cv, ev⟩ := dR.nJ (hr _ (HL)) (by omega)
    cases ev
    refine Z (dh aj bF O O (by omega)) (bg ?_)
    refine Z (dH (bT aQ O) O (by first | exact dR.jo (hr _ (HL)) (by omega) | exact dR.qB (hr _ (HL)) (by omega) | exact dR.qx (hr _ (HL)) (by omega))) ?_
    refine bg (dX O Tryz.func53 (Y0 (s := XF) HL (by kernel_rfl) (by decide)) ?_)
    rintro _ w2 ⟨rfl, H2⟩
    refine bg (Z (mD O) (iM O O (gQ O (fun h2 => ?_) (fun h2 => ?_))))
    · (try simp only [aC] at h2)
      have hno : qo (l.getD i.toNat 0) = false := by have h9 := h2; rw [← Bool.not_eq_true, ← Gw]; simpa using h9
      refine fG (aV (aA (bG O (Z (dP O O (by omega)) (dL O (bD (aG ?_)))))))
      refine bZ (i + 1) ?_ ?_ ?_ ?_
      · exact ji
      · exact ji
      · (try dsimp only)
        first | done | exact ⟨⟨by omega, (jY hi.1 (by omega) (by show (!qo _) = true; rw [hno]; rfl)).symm.trans hE⟩, H2⟩
      · (try dsimp only); omega
    · (try simp only [aC] at h2)
      try have hbr : qo (l.getD i.toNat 0) = true := by (have h9 := h2; rw [← Gw]; simpa using h9)
      refine bQ (aB (aB (aU (aW (aK (bM O (bG O (Z (jZ aj O) (Z (jw O O) (gQ O (fun h3 => ?_) (fun h3 => ?_)))))))))))
      · (try simp only [aC] at h3)
        refine gW (dL O (dU O (ay (Az Tryz.results45 O O ?_))))
        exact ⟨by rw [Bl (by rw [← hE, dZ (by omega)]; omega)], H2⟩
      · (try simp only [aC] at h3)
        have hbr : qo (l.getD i.toNat 0) = true := by first | exact hbr | (exfalso; omega)
        refine fG (aK ?_)
        have hR : iU (fun r => !qo r) l x = i := hE.symm.trans (fM hi.1 (by omega) (by show ¬ (!qo _) = true; rw [hbr]; decide))
        refine aA (jr O O (Z (dh aj bF O O (by omega)) ?_))
        refine Z (dH (bT aQ O) O (by first | exact dR.jo (hr _ (H2)) (by omega) | exact dR.qB (hr _ (H2)) (by omega) | exact dR.qx (hr _ (H2)) (by omega))) ?_
        refine dL O (dL O (tX O (jy O (aV ?_))))
        refine dJ [(0, _), (1, _), (6, _)] (fun (k : Nat) => [(7, .int .i32 (Gg (l.getD i.toNat 0) k)), (8, .int .i64 (Gh (l.getD i.toNat 0) k)), (9, .int .i64 (k : Int))]) (fun (k : Nat) W => k ≤ 3 ∧ V w0 W F) (fun (k : Nat) => 3 - k) (0) qC qC ⟨by omega, H2⟩ ?_
        rintro k w3 ⟨hk, HK⟩
        dsimp only [List.cons_append, List.nil_append]
        refine aK (bM O (Z (fF O O) (gQ O (fun h4 => ?_) (fun h4 => ?_))))
        · (try simp only [aC] at h4)
          refine fG (aK (aV (aK (bM O ?_))))
          refine Z (jM fB O O (by exact ⟨by omega, by show _ < (3 : Int); omega⟩)) ?_
          refine Z (jG O (by rw [Tryz.underlying5]; rfl) aQ (oq (by have := zX (k : Int).toNat; show -2147483648 ≤ sb qK _ ∧ sb qK _ < 2147483648; omega))) ?_
          refine bG O (Z (cZ O O) (gQ O (fun h5 => ?_) (fun h5 => ?_)))
          · (try simp only [aC] at h5)
            have ho1 : sb qK k = l.getD i.toNat 0 := h5
            refine aA (bG O ?_)
            refine Z (jM fB O O (by exact ⟨by omega, by show _ < (3 : Int); omega⟩)) ?_
            refine Z (jG O (by rw [Tryz.underlying5]; rfl) aQ (oq (by have := zW (k : Int).toNat; show -2147483648 ≤ sb nY _ ∧ sb nY _ < 2147483648; omega))) ?_
            refine fV O (bM O ?_)
            refine Z (jM fB O O (by exact ⟨by omega, by show _ < (3 : Int); omega⟩)) ?_
            refine Z (jG O (by rw [Tryz.underlying5]; rfl) aQ (oq (by have := zW (k : Int).toNat; show -2147483648 ≤ sb nY _ ∧ sb nY _ < 2147483648; omega))) ?_
            refine bG O (Z (cZ O O) (gQ O (fun h6 => ?_) (fun h6 => ?_)))
            · (try simp only [aC] at h6)
              have hs1 : sb nY k = l.getD i.toNat 0 := h6
              refine aA (bG O ?_)
              refine Z (jM fB O O (by exact ⟨by omega, by show _ < (3 : Int); omega⟩)) ?_
              refine Z (jG O (by rw [Tryz.underlying5]; rfl) aQ (oq (by have := zX (k : Int).toNat; show -2147483648 ≤ sb qK _ ∧ sb qK _ < 2147483648; omega))) ?_
              refine dL O (dL O (bD (aG (aW (aA (bG O (Z (dP O O (by omega)) (dL O (bD ?_)))))))))
              refine bZ (k + 1) ?_ ?_ ?_ ?_
              · exact (Sub.eP O (by rw [Gg]; first | (rw [if_pos hs1]; rfl) | (rw [if_neg hs1, if_pos ho1]; rfl) | (rw [if_neg hs1, if_neg ho1])) (Sub.eP O (by rw [Gh]; first | rw [if_pos hs1] | rw [if_neg hs1]) ji))
              · exact qC
              · (try dsimp only)
                first | done | exact ⟨by omega, HK⟩
              · (try dsimp only); omega
            · (try simp only [aC] at h6)
              have hs1 : ¬ sb nY k = l.getD i.toNat 0 := h6
              refine bY (aG (aW (aA (bG O (Z (dP O O (by omega)) (dL O (bD ?_)))))))
              refine bZ (k + 1) ?_ ?_ ?_ ?_
              · exact (Sub.eP O (by rw [Gg]; first | (rw [if_pos hs1]; rfl) | (rw [if_neg hs1, if_pos ho1]; rfl) | (rw [if_neg hs1, if_neg ho1])) (Sub.eP O (by rw [Gh]; first | rw [if_pos hs1] | rw [if_neg hs1]) ji))
              · exact qC
              · (try dsimp only)
                first | done | exact ⟨by omega, HK⟩
              · (try dsimp only); omega
          · (try simp only [aC] at h5)
            have ho1 : ¬ sb qK k = l.getD i.toNat 0 := h5
            refine fG (bM O ?_)
            refine Z (jM fB O O (by exact ⟨by omega, by show _ < (3 : Int); omega⟩)) ?_
            refine Z (jG O (by rw [Tryz.underlying5]; rfl) aQ (oq (by have := zW (k : Int).toNat; show -2147483648 ≤ sb nY _ ∧ sb nY _ < 2147483648; omega))) ?_
            refine bG O (Z (cZ O O) (gQ O (fun h7 => ?_) (fun h7 => ?_)))
            · (try simp only [aC] at h7)
              have hs1 : sb nY k = l.getD i.toNat 0 := h7
              refine aA (bG O ?_)
              refine Z (jM fB O O (by exact ⟨by omega, by show _ < (3 : Int); omega⟩)) ?_
              refine Z (jG O (by rw [Tryz.underlying5]; rfl) aQ (oq (by have := zX (k : Int).toNat; show -2147483648 ≤ sb qK _ ∧ sb qK _ < 2147483648; omega))) ?_
              refine dL O (dL O (bD (aG (aW (aA (bG O (Z (dP O O (by omega)) (dL O (bD ?_)))))))))
              refine bZ (k + 1) ?_ ?_ ?_ ?_
              · exact (Sub.eP O (by rw [Gg]; first | (rw [if_pos hs1]; rfl) | (rw [if_neg hs1, if_pos ho1]; rfl) | (rw [if_neg hs1, if_neg ho1])) (Sub.eP O (by rw [Gh]; first | rw [if_pos hs1] | rw [if_neg hs1]) ji))
              · exact qC
              · (try dsimp only)
                first | done | exact ⟨by omega, HK⟩
              · (try dsimp only); omega
            · (try simp only [aC] at h7)
              have hs1 : ¬ sb nY k = l.getD i.toNat 0 := h7
              refine bY (aG (aW (aA (bG O (Z (dP O O (by omega)) (dL O (bD ?_)))))))
              refine bZ (k + 1) ?_ ?_ ?_ ?_
              · exact (Sub.eP O (by rw [Gg]; first | (rw [if_pos hs1]; rfl) | (rw [if_neg hs1, if_pos ho1]; rfl) | (rw [if_neg hs1, if_neg ho1])) (Sub.eP O (by rw [Gh]; first | rw [if_pos hs1] | rw [if_neg hs1]) ji))
              · exact qC
              · (try dsimp only)
                first | done | exact ⟨by omega, HK⟩
              · (try dsimp only); omega
        · (try simp only [aC] at h4)
          refine bQ (aB (aB (aU (aW (aK ?_)))))
          obtain rfl : k = 3 := by omega
          rw [(Zw hbr).1, (Zw hbr).2]
          have hst := MN (l.getD i.toNat 0)
          have hne := MO hbr
          refine aA (tX O (bM O (fV O (aV ?_))))
          have hmi := sF (n := l.length) (i := i) hst (by omega) (by omega)
          refine dJ [(0, _), (6, _), (7, _), (8, _)] (fun (⟨j, d⟩ : Int × Int) => [(10, .int .i64 d), (11, .int .i64 j)]) (fun (⟨j, d⟩ : Int × Int) W => ((-1 ≤ j ∧ j ≤ l.length) ∧ (d + vJ (wo (l.getD i.toNat 0)) l.length j ≤ l.length + 1 ∧ vJ (wo (l.getD i.toNat 0)) l.length j - d ≤ l.length + 1) ∧ pJ (wo (l.getD i.toNat 0)) (A8 (l.getD i.toNat 0) (sJ (l.getD i.toNat 0))) l 0 i = pJ (wo (l.getD i.toNat 0)) (A8 (l.getD i.toNat 0) (sJ (l.getD i.toNat 0))) l d j) ∧ V w0 W F) (fun (⟨j, d⟩ : Int × Int) => (vJ (wo (l.getD i.toNat 0)) l.length j).toNat) ((i, 0)) BI mW ⟨⟨by omega, by omega, O⟩, HK⟩ ?_
          rintro ⟨j, d⟩ w4 ⟨⟨hj, hd, hF⟩, HM⟩
          dsimp only [List.cons_append, List.nil_append]
          have hms := xE (n := l.length) (i := j) hst
          have hmp := fun h0 h1 => sF (n := l.length) (i := j) hst h0 h1
          have hdb := I8 (l.getD i.toNat 0) (sJ (l.getD i.toNat 0)) d (l.getD j.toNat 0)
          refine aK (bM O (Z (jw O O) (iZ O (fun h8 => ?_) (fun h8 => ?_))))
          · (try simp only [aC] at h8)
            refine bg (bG O (bg (bG O (bg (Z (jZ aj O) (bg (Z (fF O O) (iM O O (gQ O (fun h9 => ?_) (fun h9 => ?_))))))))))
            · (try simp only [aC] at h9)
              refine fG (aK (aV ?_))
              refine iY [(0, _), (6, _), (7, _), (8, _), (11, _), (58, _), (59, _), (60, _), (61, _)] (fun (d1 : Int) => [(10, .int .i64 d1)]) (fun (d1 : Int) W => ((l.getD j.toNat 0 = l.getD i.toNat 0 ∧ d1 = d + 1) ∨ (¬ l.getD j.toNat 0 = l.getD i.toNat 0 ∧ d1 = d)) ∧ V w0 W F) (Sub.cons O (Sub.cons O (Sub.cons O Cj))) ?_ ?_
              · rintro d1 w5 ⟨hd1, HK⟩
                dsimp only [List.cons_append, List.nil_append]
                refine iY [(0, _), (6, _), (7, _), (8, _), (11, _), (58, _), (59, _), (60, _), (61, _)] (fun (_ : Unit) => [(10, .int .i64 (pO (l.getD i.toNat 0) (sJ (l.getD i.toNat 0)) d (l.getD j.toNat 0)))]) (fun (_ : Unit) W => V w0 W F) (Sub.cons O (Sub.cons O (Sub.cons O Cj))) ?_ ?_
                · rintro _ w6 HN
                  dsimp only [List.cons_append, List.nil_append]
                  refine bM O (Z (cZ O O) (gQ O (fun h10 => ?_) (fun h10 => ?_)))
                  · (try simp only [aC] at h10)
                    have hd0 : pO (l.getD i.toNat 0) (sJ (l.getD i.toNat 0)) d (l.getD j.toNat 0) = 0 := h10
                    refine bM O (dL O (dU O (aN (ay (ay (aN (ay (Az Tryz.results45 O O ?_))))))))
                    exact ⟨by rw [yT hR (by omega) (hF.trans (qU (by omega) (by omega) (EY hd0)))], HN⟩
                  · (try simp only [aC] at h10)
                    have hd0 : ¬ pO (l.getD i.toNat 0) (sJ (l.getD i.toNat 0)) d (l.getD j.toNat 0) = 0 := h10
                    refine bY (aG (aW (aA (jr O O (Z (dP O O (by omega)) (dL O (bD ?_)))))))
                    refine bZ (_, _) mW BI (by (try dsimp only); exact ⟨⟨by omega, by omega, hF.trans (tJ hst (by omega) (by omega) (I7 hd0))⟩, HN⟩) ?_
                    · (try dsimp only); have := hmp (by omega) (by omega); omega
                · skip
                  refine bM O (bG O (Z (dh aj bF O O (by omega)) ?_))
                  refine Z (dH (bT aQ O) O (by first | exact dR.jo (hr _ (HK)) (by omega) | exact dR.qB (hr _ (HK)) (by omega) | exact dR.qx (hr _ (HK)) (by omega))) ?_
                  refine bG O (Z (cZ O O) (gQ O (fun h11 => ?_) (fun h11 => ?_)))
                  · (try simp only [aC] at h11)
                    have hdN : pO (l.getD i.toNat 0) (sJ (l.getD i.toNat 0)) d (l.getD j.toNat 0) = d1 - 1 := by have h9 := h11; rcases hd1 with ⟨h1, h2⟩ | ⟨h1, h2⟩; exact absurd (h9.symm.trans h1) hne; rw [MR h1 h9, h2]
                    refine aA (bG O (Z (iG O O (by omega)) (dL O (bD ?_))))
                    refine cO (()) ?_ ?_ ?_
                    · exact (Sub.eP O (by rw [hdN]) (Sub.nil _))
                    · exact (Sub.cons O (Sub.cons O (Sub.cons O Cj)))
                    · (try dsimp only)
                      first | done | exact HK
                  · (try simp only [aC] at h11)
                    have hdN : pO (l.getD i.toNat 0) (sJ (l.getD i.toNat 0)) d (l.getD j.toNat 0) = d1 := by have h9 := h11; rcases hd1 with ⟨h1, h2⟩ | ⟨h1, h2⟩; rw [MQ h1 hne, h2]; rw [MS h1 h9, h2]
                    refine bY ?_
                    refine cO (()) ?_ ?_ ?_
                    · exact (Sub.eP O (by rw [hdN]) (Sub.nil _))
                    · exact (Sub.cons O (Sub.cons O (Sub.cons O Cj)))
                    · (try dsimp only)
                      first | done | exact HK
              · skip
                refine aK ?_
                have hmq := hmp (by omega) (by omega)
                refine aA (jr O O (Z (dh aj bF O O (by omega)) ?_))
                refine Z (dH (bT aQ O) O (by first | exact dR.jo (hr _ (HM)) (by omega) | exact dR.qB (hr _ (HM)) (by omega) | exact dR.qx (hr _ (HM)) (by omega))) ?_
                refine bG O (Z (cZ O O) (gQ O (fun h12 => ?_) (fun h12 => ?_)))
                · (try simp only [aC] at h12)
                  have ha : l.getD j.toNat 0 = l.getD i.toNat 0 := h12
                  refine aA (bG O (Z (dP O O (by omega)) (dL O (bD ?_))))
                  refine cO (_) ji (Sub.cons O (Sub.cons O (Sub.cons O Cj))) (by (try dsimp only); exact ⟨by first | exact .inl ⟨ha, O⟩ | exact .inr ⟨ha, O⟩, HM⟩)
                · (try simp only [aC] at h12)
                  have ha : ¬ l.getD j.toNat 0 = l.getD i.toNat 0 := h12
                  refine bY ?_
                  refine cO (_) ji (Sub.cons O (Sub.cons O (Sub.cons O Cj))) (by (try dsimp only); exact ⟨by first | exact .inl ⟨ha, O⟩ | exact .inr ⟨ha, O⟩, HM⟩)
            · (try simp only [aC] at h9)
              refine bQ (aB (aB (aU (aW (gW (dL O (dU O (Az Tryz.results45 O O ?_))))))))
              exact ⟨by rw [pW hR (by omega) (hF.trans (lF (by omega)))], HM⟩
          · (try simp only [aC] at h8)
            refine bn (bn (bn (bn (gI O O (iy (oD (bQ (aB (aB (aU (aW (gW (dL O (dU O (Az Tryz.results45 O O ?_)))))))))))))))
            exact ⟨by rw [pW hR (by omega) (hF.trans (lF (by omega)))], HM⟩
  · (try simp only [aC] at h1)
    refine bn (bn (bn (bn (bn (bn (gI O O (iy (oD (bQ (aB (aB (aU (aW (aK (bM O (bG O (Z (fO (hr _ (HL)) aj O) (Z (jw O O) (gQ O (fun h13 => ?_) (fun h13 => ?_))))))))))))))))))))
    · (try simp only [aC] at h13)
      refine gW (dL O (dU O (ay (Az Tryz.results45 O O ?_))))
      exact ⟨by rw [Bl (by rw [← hE, dZ (by omega)]; omega)], HL⟩
    · (try simp only [aC] at h13)
      have hbr : qo (l.getD i.toNat 0) = true := by first | exact hbr | (exfalso; omega)
      refine fG (aK ?_)
      have hR : iU (fun r => !qo r) l x = i := hE.symm.trans (fM hi.1 (by omega) (by show ¬ (!qo _) = true; rw [hbr]; decide))
      refine aA (jr O O ?_)
      obtain ⟨bv, ov, cv, ev⟩ := dR.nJ (hr _ (HL)) (by omega)
      cases ev
      refine Z (dh aj bF O O (by omega)) ?_
      refine Z (dH (bT aQ O) O (by first | exact dR.jo (hr _ (HL)) (by omega) | exact dR.qB (hr _ (HL)) (by omega) | exact dR.qx (hr _ (HL)) (by omega))) ?_
      refine dL O (dL O (tX O (jy O (aV ?_))))
      refine dJ [(0, _), (1, _), (6, _)] (fun (k : Nat) => [(7, .int .i32 (Gg (l.getD i.toNat 0) k)), (8, .int .i64 (Gh (l.getD i.toNat 0) k)), (9, .int .i64 (k : Int))]) (fun (k : Nat) W => k ≤ 3 ∧ V w0 W F) (fun (k : Nat) => 3 - k) (0) qC qC ⟨by omega, HL⟩ ?_
      rintro k w7 ⟨hk, HK⟩
      dsimp only [List.cons_append, List.nil_append]
      refine aK (bM O (Z (fF O O) (gQ O (fun h14 => ?_) (fun h14 => ?_))))
      · (try simp only [aC] at h14)
        refine fG (aK (aV (aK (bM O ?_))))
        refine Z (jM fB O O (by exact ⟨by omega, by show _ < (3 : Int); omega⟩)) ?_
        refine Z (jG O (by rw [Tryz.underlying5]; rfl) aQ (oq (by have := zX (k : Int).toNat; show -2147483648 ≤ sb qK _ ∧ sb qK _ < 2147483648; omega))) ?_
        refine bG O (Z (cZ O O) (gQ O (fun h15 => ?_) (fun h15 => ?_)))
        · (try simp only [aC] at h15)
          have ho1 : sb qK k = l.getD i.toNat 0 := h15
          refine aA (bG O ?_)
          refine Z (jM fB O O (by exact ⟨by omega, by show _ < (3 : Int); omega⟩)) ?_
          refine Z (jG O (by rw [Tryz.underlying5]; rfl) aQ (oq (by have := zW (k : Int).toNat; show -2147483648 ≤ sb nY _ ∧ sb nY _ < 2147483648; omega))) ?_
          refine fV O (bM O ?_)
          refine Z (jM fB O O (by exact ⟨by omega, by show _ < (3 : Int); omega⟩)) ?_
          refine Z (jG O (by rw [Tryz.underlying5]; rfl) aQ (oq (by have := zW (k : Int).toNat; show -2147483648 ≤ sb nY _ ∧ sb nY _ < 2147483648; omega))) ?_
          refine bG O (Z (cZ O O) (gQ O (fun h16 => ?_) (fun h16 => ?_)))
          · (try simp only [aC] at h16)
            have hs1 : sb nY k = l.getD i.toNat 0 := h16
            refine aA (bG O ?_)
            refine Z (jM fB O O (by exact ⟨by omega, by show _ < (3 : Int); omega⟩)) ?_
            refine Z (jG O (by rw [Tryz.underlying5]; rfl) aQ (oq (by have := zX (k : Int).toNat; show -2147483648 ≤ sb qK _ ∧ sb qK _ < 2147483648; omega))) ?_
            refine dL O (dL O (bD (aG (aW (aA (bG O (Z (dP O O (by omega)) (dL O (bD ?_)))))))))
            refine bZ (k + 1) ?_ ?_ ?_ ?_
            · exact (Sub.eP O (by rw [Gg]; first | (rw [if_pos hs1]; rfl) | (rw [if_neg hs1, if_pos ho1]; rfl) | (rw [if_neg hs1, if_neg ho1])) (Sub.eP O (by rw [Gh]; first | rw [if_pos hs1] | rw [if_neg hs1]) ji))
            · exact qC
            · (try dsimp only)
              first | done | exact ⟨by omega, HK⟩
            · (try dsimp only); omega
          · (try simp only [aC] at h16)
            have hs1 : ¬ sb nY k = l.getD i.toNat 0 := h16
            refine bY (aG (aW (aA (bG O (Z (dP O O (by omega)) (dL O (bD ?_)))))))
            refine bZ (k + 1) ?_ ?_ ?_ ?_
            · exact (Sub.eP O (by rw [Gg]; first | (rw [if_pos hs1]; rfl) | (rw [if_neg hs1, if_pos ho1]; rfl) | (rw [if_neg hs1, if_neg ho1])) (Sub.eP O (by rw [Gh]; first | rw [if_pos hs1] | rw [if_neg hs1]) ji))
            · exact qC
            · (try dsimp only)
              first | done | exact ⟨by omega, HK⟩
            · (try dsimp only); omega
        · (try simp only [aC] at h15)
          have ho1 : ¬ sb qK k = l.getD i.toNat 0 := h15
          refine fG (bM O ?_)
          refine Z (jM fB O O (by exact ⟨by omega, by show _ < (3 : Int); omega⟩)) ?_
          refine Z (jG O (by rw [Tryz.underlying5]; rfl) aQ (oq (by have := zW (k : Int).toNat; show -2147483648 ≤ sb nY _ ∧ sb nY _ < 2147483648; omega))) ?_
          refine bG O (Z (cZ O O) (gQ O (fun h17 => ?_) (fun h17 => ?_)))
          · (try simp only [aC] at h17)
            have hs1 : sb nY k = l.getD i.toNat 0 := h17
            refine aA (bG O ?_)
            refine Z (jM fB O O (by exact ⟨by omega, by show _ < (3 : Int); omega⟩)) ?_
            refine Z (jG O (by rw [Tryz.underlying5]; rfl) aQ (oq (by have := zX (k : Int).toNat; show -2147483648 ≤ sb qK _ ∧ sb qK _ < 2147483648; omega))) ?_
            refine dL O (dL O (bD (aG (aW (aA (bG O (Z (dP O O (by omega)) (dL O (bD ?_)))))))))
            refine bZ (k + 1) ?_ ?_ ?_ ?_
            · exact (Sub.eP O (by rw [Gg]; first | (rw [if_pos hs1]; rfl) | (rw [if_neg hs1, if_pos ho1]; rfl) | (rw [if_neg hs1, if_neg ho1])) (Sub.eP O (by rw [Gh]; first | rw [if_pos hs1] | rw [if_neg hs1]) ji))
            · exact qC
            · (try dsimp only)
              first | done | exact ⟨by omega, HK⟩
            · (try dsimp only); omega
          · (try simp only [aC] at h17)
            have hs1 : ¬ sb nY k = l.getD i.toNat 0 := h17
            refine bY (aG (aW (aA (bG O (Z (dP O O (by omega)) (dL O (bD ?_)))))))
            refine bZ (k + 1) ?_ ?_ ?_ ?_
            · exact (Sub.eP O (by rw [Gg]; first | (rw [if_pos hs1]; rfl) | (rw [if_neg hs1, if_pos ho1]; rfl) | (rw [if_neg hs1, if_neg ho1])) (Sub.eP O (by rw [Gh]; first | rw [if_pos hs1] | rw [if_neg hs1]) ji))
            · exact qC
            · (try dsimp only)
              first | done | exact ⟨by omega, HK⟩
            · (try dsimp only); omega
      · (try simp only [aC] at h14)
        refine bQ (aB (aB (aU (aW (aK ?_)))))
        obtain rfl : k = 3 := by omega
        rw [(Zw hbr).1, (Zw hbr).2]
        have hst := MN (l.getD i.toNat 0)
        have hne := MO hbr
        refine aA (tX O (bM O (fV O (aV ?_))))
        have hmi := sF (n := l.length) (i := i) hst (by omega) (by omega)
        refine dJ [(0, _), (6, _), (7, _), (8, _)] (fun (⟨j, d⟩ : Int × Int) => [(10, .int .i64 d), (11, .int .i64 j)]) (fun (⟨j, d⟩ : Int × Int) W => ((-1 ≤ j ∧ j ≤ l.length) ∧ (d + vJ (wo (l.getD i.toNat 0)) l.length j ≤ l.length + 1 ∧ vJ (wo (l.getD i.toNat 0)) l.length j - d ≤ l.length + 1) ∧ pJ (wo (l.getD i.toNat 0)) (A8 (l.getD i.toNat 0) (sJ (l.getD i.toNat 0))) l 0 i = pJ (wo (l.getD i.toNat 0)) (A8 (l.getD i.toNat 0) (sJ (l.getD i.toNat 0))) l d j) ∧ V w0 W F) (fun (⟨j, d⟩ : Int × Int) => (vJ (wo (l.getD i.toNat 0)) l.length j).toNat) ((i, 0)) BI mW ⟨⟨by omega, by omega, O⟩, HK⟩ ?_
        rintro ⟨j, d⟩ w8 ⟨⟨hj, hd, hF⟩, HM⟩
        dsimp only [List.cons_append, List.nil_append]
        have hms := xE (n := l.length) (i := j) hst
        have hmp := fun h0 h1 => sF (n := l.length) (i := j) hst h0 h1
        have hdb := I8 (l.getD i.toNat 0) (sJ (l.getD i.toNat 0)) d (l.getD j.toNat 0)
        refine aK (bM O (Z (jw O O) (iZ O (fun h18 => ?_) (fun h18 => ?_))))
        · (try simp only [aC] at h18)
          refine bg (bG O (bg (bG O (bg (Z (jZ aj O) (bg (Z (fF O O) (iM O O (gQ O (fun h19 => ?_) (fun h19 => ?_))))))))))
          · (try simp only [aC] at h19)
            refine fG (aK (aV ?_))
            refine iY [(0, _), (6, _), (7, _), (8, _), (11, _), (58, _), (59, _), (60, _), (61, _)] (fun (d1 : Int) => [(10, .int .i64 d1)]) (fun (d1 : Int) W => ((l.getD j.toNat 0 = l.getD i.toNat 0 ∧ d1 = d + 1) ∨ (¬ l.getD j.toNat 0 = l.getD i.toNat 0 ∧ d1 = d)) ∧ V w0 W F) (Sub.cons O (Sub.cons O (Sub.cons O Cj))) ?_ ?_
            · rintro d1 w9 ⟨hd1, HK⟩
              dsimp only [List.cons_append, List.nil_append]
              refine iY [(0, _), (6, _), (7, _), (8, _), (11, _), (58, _), (59, _), (60, _), (61, _)] (fun (_ : Unit) => [(10, .int .i64 (pO (l.getD i.toNat 0) (sJ (l.getD i.toNat 0)) d (l.getD j.toNat 0)))]) (fun (_ : Unit) W => V w0 W F) (Sub.cons O (Sub.cons O (Sub.cons O Cj))) ?_ ?_
              · rintro _ w10 HN
                dsimp only [List.cons_append, List.nil_append]
                refine bM O (Z (cZ O O) (gQ O (fun h20 => ?_) (fun h20 => ?_)))
                · (try simp only [aC] at h20)
                  have hd0 : pO (l.getD i.toNat 0) (sJ (l.getD i.toNat 0)) d (l.getD j.toNat 0) = 0 := h20
                  refine bM O (dL O (dU O (aN (ay (ay (aN (ay (Az Tryz.results45 O O ?_))))))))
                  exact ⟨by rw [yT hR (by omega) (hF.trans (qU (by omega) (by omega) (EY hd0)))], HN⟩
                · (try simp only [aC] at h20)
                  have hd0 : ¬ pO (l.getD i.toNat 0) (sJ (l.getD i.toNat 0)) d (l.getD j.toNat 0) = 0 := h20
                  refine bY (aG (aW (aA (jr O O (Z (dP O O (by omega)) (dL O (bD ?_)))))))
                  refine bZ (_, _) mW BI (by (try dsimp only); exact ⟨⟨by omega, by omega, hF.trans (tJ hst (by omega) (by omega) (I7 hd0))⟩, HN⟩) ?_
                  · (try dsimp only); have := hmp (by omega) (by omega); omega
              · skip
                refine bM O (bG O (Z (dh aj bF O O (by omega)) ?_))
                refine Z (dH (bT aQ O) O (by first | exact dR.jo (hr _ (HK)) (by omega) | exact dR.qB (hr _ (HK)) (by omega) | exact dR.qx (hr _ (HK)) (by omega))) ?_
                refine bG O (Z (cZ O O) (gQ O (fun h21 => ?_) (fun h21 => ?_)))
                · (try simp only [aC] at h21)
                  have hdN : pO (l.getD i.toNat 0) (sJ (l.getD i.toNat 0)) d (l.getD j.toNat 0) = d1 - 1 := by have h9 := h21; rcases hd1 with ⟨h1, h2⟩ | ⟨h1, h2⟩; exact absurd (h9.symm.trans h1) hne; rw [MR h1 h9, h2]
                  refine aA (bG O (Z (iG O O (by omega)) (dL O (bD ?_))))
                  refine cO (()) ?_ ?_ ?_
                  · exact (Sub.eP O (by rw [hdN]) (Sub.nil _))
                  · exact (Sub.cons O (Sub.cons O (Sub.cons O Cj)))
                  · (try dsimp only)
                    first | done | exact HK
                · (try simp only [aC] at h21)
                  have hdN : pO (l.getD i.toNat 0) (sJ (l.getD i.toNat 0)) d (l.getD j.toNat 0) = d1 := by have h9 := h21; rcases hd1 with ⟨h1, h2⟩ | ⟨h1, h2⟩; rw [MQ h1 hne, h2]; rw [MS h1 h9, h2]
                  refine bY ?_
                  refine cO (()) ?_ ?_ ?_
                  · exact (Sub.eP O (by rw [hdN]) (Sub.nil _))
                  · exact (Sub.cons O (Sub.cons O (Sub.cons O Cj)))
                  · (try dsimp only)
                    first | done | exact HK
            · skip
              refine aK ?_
              have hmq := hmp (by omega) (by omega)
              refine aA (jr O O (Z (dh aj bF O O (by omega)) ?_))
              refine Z (dH (bT aQ O) O (by first | exact dR.jo (hr _ (HM)) (by omega) | exact dR.qB (hr _ (HM)) (by omega) | exact dR.qx (hr _ (HM)) (by omega))) ?_
              refine bG O (Z (cZ O O) (gQ O (fun h22 => ?_) (fun h22 => ?_)))
              · (try simp only [aC] at h22)
                have ha : l.getD j.toNat 0 = l.getD i.toNat 0 := h22
                refine aA (bG O (Z (dP O O (by omega)) (dL O (bD ?_))))
                refine cO (_) ji (Sub.cons O (Sub.cons O (Sub.cons O Cj))) (by (try dsimp only); exact ⟨by first | exact .inl ⟨ha, O⟩ | exact .inr ⟨ha, O⟩, HM⟩)
              · (try simp only [aC] at h22)
                have ha : ¬ l.getD j.toNat 0 = l.getD i.toNat 0 := h22
                refine bY ?_
                refine cO (_) ji (Sub.cons O (Sub.cons O (Sub.cons O Cj))) (by (try dsimp only); exact ⟨by first | exact .inl ⟨ha, O⟩ | exact .inr ⟨ha, O⟩, HM⟩)
          · (try simp only [aC] at h19)
            refine bQ (aB (aB (aU (aW (gW (dL O (dU O (Az Tryz.results45 O O ?_))))))))
            exact ⟨by rw [pW hR (by omega) (hF.trans (lF (by omega)))], HM⟩
        · (try simp only [aC] at h18)
          refine bn (bn (bn (bn (gI O O (iy (oD (bQ (aB (aB (aU (aW (gW (dL O (dU O (Az Tryz.results45 O O ?_)))))))))))))))
          exact ⟨by rw [pW hR (by omega) (hF.trans (lF (by omega)))], HM⟩
end
end Go.Proofs.YtpdeedplgmbopaaGreatDoor
end
section
namespace Go.Proofs.YtpdeedplgmbopaaGreatDoor
open Go.RowKit
open _root_.Go.Proofs.Tryz
section
variable {w0 w : World} {F : HP} {r x : Int} {big : Bool} {l : List Int} {v : Value}
theorem U1 (r : Int) : dn r = 0 ∨ dn r = 1 ∨ dn r = 2 := by unfold dn; split <;> first | (left; rfl) | (split <;> simp)
theorem lY (H : V w0 w F) : ig prog 144 #[.int .i32 r, .bool big] w fun v' w' => v' = .int .i64 (bC r big) ∧ V w0 w' F := by
  have hc := U1 r
  refine nC func144 ntmps144 ?_
  refine jy O (bM O (dX O func15 (oZ H) ?_))
  rintro _ w1 ⟨rfl, H1⟩
  refine tX O (bM O (iZ O (fun h1 => ?_) (fun h1 => ?_)))
  · (try simp only [aC] at h1)
    refine bg (bG O (bg (Z (cZ O O) (iM O O (gQ O (fun h2 => ?_) (fun h2 => ?_))))))
    · (try simp only [aC] at h2)
      refine jB O (ay (dF results144 O ?_))
      exact ⟨by congr 1; unfold bC; cases big <;> simp_all <;> omega, H1⟩
    · (try simp only [aC] at h2)
      refine fG (bM O (dU O (dF results144 O ?_)))
      exact ⟨by congr 1; unfold bC; cases big <;> simp_all <;> omega, H1⟩
  · (try simp only [aC] at h1)
    refine bn (bn (gI O O (iy (oD (fG (bM O (dU O (dF results144 O ?_))))))))
    exact ⟨by congr 1; unfold bC; cases big <;> simp_all <;> omega, H1⟩
theorem U2 (H : V w0 w F) (hr : jE w0 F .i32 v l) (hx0 : 0 ≤ x) (hx1 : x ≤ l.length) : ig prog 100 #[v, .int .i64 x, .bool big] w fun v' w' => v' = .int .i64 (nX l x big) ∧ V w0 w' F := by
 have SC : l.length ≤ 9223372036854775807 := by have := (hr _ H).open; obtain ⟨a, c, e, h3, h4, _⟩ := this; omega
 refine DL func100 ntmps100 ?_
 refine jy O (aK (bM O (bG O (Z (fO (hr _ (H)) aj O) (Z (fF O O) (gQ O (fun h1 => ?_) (fun h1 => ?_)))))))
 ·(try simp only [aC] at h1)
  refine bM O (bG O ?_)
  obtain ⟨bv, ov, cv, ev⟩ := dR.nJ (hr _ (H)) (by omega)
  cases ev
  refine Z (dh aj bF O O (by omega)) ?_
  refine Z (dH (bT aQ O) O (by first | exact dR.jo (hr _ (H)) (by omega) | exact dR.qB (hr _ (H)) (by omega) | exact dR.qx (hr _ (H)) (by omega))) ?_
  refine bG O (dX O func144 (lY H) ?_)
  rintro _ w1 ⟨rfl, H1⟩
  refine fV O (aV ?_)
  refine dJ [(0, _), (2, _), (7, _)] (fun (y : Int) => [(1, .int .i64 y)]) (fun (y : Int) W => ((0 ≤ y ∧ y ≤ l.length) ∧ (bC (l.getD x.toNat 0) big = 0 → y = x) ∧ iU (fun r => bC r big == bC (l.getD x.toNat 0) big) l y = iU (fun r => bC r big == bC (l.getD x.toNat 0) big) l x) ∧ V w0 W F) (fun (y : Int) => (l.length - y).toNat) (x) qC ji ⟨⟨⟨hx0, hx1⟩, fun _ => rfl, O⟩, H1⟩ ?_
  rintro y w2 ⟨⟨⟨hy0, hyl⟩, hyk, hy⟩, HL⟩
  dsimp only [List.cons_append, List.nil_append]
  refine aK (bM O (Z (jv O O) (iZ O (fun h2 => ?_) (fun h2 => ?_))))
  ·(try simp only [aC] at h2)
   refine bg (bG O (bg (bG O (bg (Z (jZ aj O) (bg (Z (fF O O) (iM O O (iZ O (fun h3 => ?_) (fun h3 => ?_))))))))))
   ·(try simp only [aC] at h3)
    refine bg (bG O (bg (bG O (bg (Z (dh aj bF O O (by omega)) (bg ?_))))))
    refine Z (dH (bT aQ O) O (by first | exact dR.jo (hr _ (HL)) (by omega) | exact dR.qB (hr _ (HL)) (by omega) | exact dR.qx (hr _ (HL)) (by omega))) ?_
    refine bg (bG O (bg (dX O func144 (lY HL) ?_)))
    rintro _ w3 ⟨rfl, H3⟩
    refine bg (bG O (bg (Z (cZ O O) (iM O O (gQ O (fun h4 => ?_) (fun h4 => ?_))))))
    ·(try simp only [aC] at h4)
     have hP : (bC (l.getD y.toNat 0) big == bC (l.getD x.toNat 0) big) = true := by rw [beq_iff_eq]; exact h4
     refine fG (aV (aA (bG O (Z (dP O O (by omega)) (dL O (bD (aG ?_)))))))
     refine bZ (y + 1) ?_ ?_ ?_ ?_
     ·exact ji
     ·exact qC
     ·(try dsimp only)
      first | done | exact ⟨⟨⟨by omega, by omega⟩, fun c => by omega, (jY hy0 (by omega) hP).symm.trans hy⟩, H3⟩
     ·(try dsimp only); omega
    ·(try simp only [aC] at h4)
     have hP : ¬ (bC (l.getD y.toNat 0) big == bC (l.getD x.toNat 0) big) = true := by rw [beq_iff_eq]; exact h4
     refine bQ (aB (aB (aU (aW (aK (aV ?_))))))
     try have e1 : (if bC (l.getD x.toNat 0) big = 0 then x else iU (fun r => bC r big == bC (l.getD x.toNat 0) big) l x) = y := if hk : bC (l.getD x.toNat 0) big = 0 then (by rw [if_pos hk, hyk hk]) else (by rw [if_neg hk]; exact hy.symm.trans (by first | exact dZ (by omega) | exact fM hy0 (by omega) hP | (exfalso; omega)))
     refine dJ [(0, _)] (fun (z : Int) => [(1, .int .i64 z)]) (fun (z : Int) W => ((0 ≤ z ∧ z ≤ l.length) ∧ nX l x big = iU (fun r => dn r == 0) l z) ∧ V w0 W F) (fun (z : Int) => (l.length - z).toNat) (_) ji ji ⟨⟨⟨by omega, by omega⟩, by unfold nX; first | (rw [if_neg (by omega)]; done) | (rw [if_pos (by omega), e1]; done)⟩, H3⟩ ?_
     rintro z w4 ⟨⟨⟨hz0, hzl⟩, hz⟩, HM⟩
     dsimp only [List.cons_append, List.nil_append]
     refine aK (bM O (bG O (Z (jZ aj O) (Z (fF O O) (iZ O (fun h5 => ?_) (fun h5 => ?_))))))
     ·(try simp only [aC] at h5)
      refine bg (bG O (bg (bG O (bg (Z (dh aj bF O O (by omega)) (bg ?_))))))
      refine Z (dH (bT aQ O) O (by first | exact dR.jo (hr _ (HM)) (by omega) | exact dR.qB (hr _ (HM)) (by omega) | exact dR.qx (hr _ (HM)) (by omega))) ?_
      refine bg (dX O func15 (oZ HM) ?_)
      rintro _ w5 ⟨rfl, H5⟩
      refine bg (Z (cZ O O) (iM O O (gQ O (fun h6 => ?_) (fun h6 => ?_))))
      ·(try simp only [aC] at h6)
       have hQ : (dn (l.getD z.toNat 0) == 0) = true := by rw [beq_iff_eq]; exact h6
       refine fG (aV (aA (bG O (Z (dP O O (by omega)) (dL O (bD (aG ?_)))))))
       refine bZ (z + 1) ?_ ?_ ?_ ?_
       ·exact ji
       ·exact ji
       ·(try dsimp only)
        first | done | exact ⟨⟨⟨by omega, by omega⟩, hz.trans (jY hz0 (by omega) hQ)⟩, H5⟩
       ·(try dsimp only); omega
      ·(try simp only [aC] at h6)
       have hQ : ¬ (dn (l.getD z.toNat 0) == 0) = true := by rw [beq_iff_eq]; exact h6
       refine bQ (aB (aB (aU (aW (bM O (dU O (dF results100 O ?_)))))))
       exact ⟨by rw [hz]; first | rw [dZ (by omega)] | rw [fM hz0 (by omega) hQ], H5⟩
     ·(try simp only [aC] at h5)
      refine bn (bn (bn (bn (bn (bn (gI O O (iy (oD (bQ (aB (aB (aU (aW (bM O (dU O (dF results100 O ?_))))))))))))))))
      exact ⟨by rw [hz]; first | rw [dZ (by omega)] | rw [fM hz0 (by omega) hQ], HM⟩
   ·(try simp only [aC] at h3)
    refine bn (bn (bn (bn (bn (bn (bn (bn (gI O O (iy (oD (bQ (aB (aB (aU (aW (aK (aV ?_)))))))))))))))))
    try have e1 : (if bC (l.getD x.toNat 0) big = 0 then x else iU (fun r => bC r big == bC (l.getD x.toNat 0) big) l x) = y := if hk : bC (l.getD x.toNat 0) big = 0 then (by rw [if_pos hk, hyk hk]) else (by rw [if_neg hk]; exact hy.symm.trans (by first | exact dZ (by omega) | exact fM hy0 (by omega) hP | (exfalso; omega)))
    refine dJ [(0, _)] (fun (z : Int) => [(1, .int .i64 z)]) (fun (z : Int) W => ((0 ≤ z ∧ z ≤ l.length) ∧ nX l x big = iU (fun r => dn r == 0) l z) ∧ V w0 W F) (fun (z : Int) => (l.length - z).toNat) (_) ji ji ⟨⟨⟨by omega, by omega⟩, by unfold nX; first | (rw [if_neg (by omega)]; done) | (rw [if_pos (by omega), e1]; done)⟩, HL⟩ ?_
    rintro z w6 ⟨⟨⟨hz0, hzl⟩, hz⟩, HM⟩
    dsimp only [List.cons_append, List.nil_append]
    refine aK (bM O (bG O (Z (jZ aj O) (Z (fF O O) (iZ O (fun h7 => ?_) (fun h7 => ?_))))))
    ·(try simp only [aC] at h7)
     refine bg (bG O (bg (bG O (bg (Z (dh aj bF O O (by omega)) (bg ?_))))))
     refine Z (dH (bT aQ O) O (by first | exact dR.jo (hr _ (HM)) (by omega) | exact dR.qB (hr _ (HM)) (by omega) | exact dR.qx (hr _ (HM)) (by omega))) ?_
     refine bg (dX O func15 (oZ HM) ?_)
     rintro _ w7 ⟨rfl, H7⟩
     refine bg (Z (cZ O O) (iM O O (gQ O (fun h8 => ?_) (fun h8 => ?_))))
     ·(try simp only [aC] at h8)
      have hQ : (dn (l.getD z.toNat 0) == 0) = true := by rw [beq_iff_eq]; exact h8
      refine fG (aV (aA (bG O (Z (dP O O (by omega)) (dL O (bD (aG ?_)))))))
      refine bZ (z + 1) ?_ ?_ ?_ ?_
      ·exact ji
      ·exact ji
      ·(try dsimp only)
       first | done | exact ⟨⟨⟨by omega, by omega⟩, hz.trans (jY hz0 (by omega) hQ)⟩, H7⟩
      ·(try dsimp only); omega
     ·(try simp only [aC] at h8)
      have hQ : ¬ (dn (l.getD z.toNat 0) == 0) = true := by rw [beq_iff_eq]; exact h8
      refine bQ (aB (aB (aU (aW (bM O (dU O (dF results100 O ?_)))))))
      exact ⟨by rw [hz]; first | rw [dZ (by omega)] | rw [fM hz0 (by omega) hQ], H7⟩
    ·(try simp only [aC] at h7)
     refine bn (bn (bn (bn (bn (bn (gI O O (iy (oD (bQ (aB (aB (aU (aW (bM O (dU O (dF results100 O ?_))))))))))))))))
     exact ⟨by rw [hz]; first | rw [dZ (by omega)] | rw [fM hz0 (by omega) hQ], HM⟩
  ·(try simp only [aC] at h2)
   refine bn (bn (bn (bn (gI O O (bG O (bn (bn (bn (bn (bn (bn (bn (bn (gI O O (iy (oD (bQ (aB (aB (aU (aW (aK (aV ?_)))))))))))))))))))))))
   try have e1 : (if bC (l.getD x.toNat 0) big = 0 then x else iU (fun r => bC r big == bC (l.getD x.toNat 0) big) l x) = y := if hk : bC (l.getD x.toNat 0) big = 0 then (by rw [if_pos hk, hyk hk]) else (by rw [if_neg hk]; exact hy.symm.trans (by first | exact dZ (by omega) | exact fM hy0 (by omega) hP | (exfalso; omega)))
   refine dJ [(0, _)] (fun (z : Int) => [(1, .int .i64 z)]) (fun (z : Int) W => ((0 ≤ z ∧ z ≤ l.length) ∧ nX l x big = iU (fun r => dn r == 0) l z) ∧ V w0 W F) (fun (z : Int) => (l.length - z).toNat) (_) ji ji ⟨⟨⟨by omega, by omega⟩, by unfold nX; first | (rw [if_neg (by omega)]; done) | (rw [if_pos (by omega), e1]; done)⟩, HL⟩ ?_
   rintro z w8 ⟨⟨⟨hz0, hzl⟩, hz⟩, HM⟩
   dsimp only [List.cons_append, List.nil_append]
   refine aK (bM O (bG O (Z (jZ aj O) (Z (fF O O) (iZ O (fun h9 => ?_) (fun h9 => ?_))))))
   ·(try simp only [aC] at h9)
    refine bg (bG O (bg (bG O (bg (Z (dh aj bF O O (by omega)) (bg ?_))))))
    refine Z (dH (bT aQ O) O (by first | exact dR.jo (hr _ (HM)) (by omega) | exact dR.qB (hr _ (HM)) (by omega) | exact dR.qx (hr _ (HM)) (by omega))) ?_
    refine bg (dX O func15 (oZ HM) ?_)
    rintro _ w9 ⟨rfl, H9⟩
    refine bg (Z (cZ O O) (iM O O (gQ O (fun h10 => ?_) (fun h10 => ?_))))
    ·(try simp only [aC] at h10)
     have hQ : (dn (l.getD z.toNat 0) == 0) = true := by rw [beq_iff_eq]; exact h10
     refine fG (aV (aA (bG O (Z (dP O O (by omega)) (dL O (bD (aG ?_)))))))
     refine bZ (z + 1) ?_ ?_ ?_ ?_
     ·exact ji
     ·exact ji
     ·(try dsimp only)
      first | done | exact ⟨⟨⟨by omega, by omega⟩, hz.trans (jY hz0 (by omega) hQ)⟩, H9⟩
     ·(try dsimp only); omega
    ·(try simp only [aC] at h10)
     have hQ : ¬ (dn (l.getD z.toNat 0) == 0) = true := by rw [beq_iff_eq]; exact h10
     refine bQ (aB (aB (aU (aW (bM O (dU O (dF results100 O ?_)))))))
     exact ⟨by rw [hz]; first | rw [dZ (by omega)] | rw [fM hz0 (by omega) hQ], H9⟩
   ·(try simp only [aC] at h9)
    refine bn (bn (bn (bn (bn (bn (gI O O (iy (oD (bQ (aB (aB (aU (aW (bM O (dU O (dF results100 O ?_))))))))))))))))
    exact ⟨by rw [hz]; first | rw [dZ (by omega)] | rw [fM hz0 (by omega) hQ], HM⟩
 ·(try simp only [aC] at h1)
  refine fG (aK (aV ?_))
  try have e1 : (if bC (l.getD x.toNat 0) big = 0 then x else iU (fun r => bC r big == bC (l.getD x.toNat 0) big) l x) = y := if hk : bC (l.getD x.toNat 0) big = 0 then (by rw [if_pos hk, hyk hk]) else (by rw [if_neg hk]; exact hy.symm.trans (by first | exact dZ (by omega) | exact fM hy0 (by omega) hP | (exfalso; omega)))
  refine dJ [(0, _)] (fun (z : Int) => [(1, .int .i64 z)]) (fun (z : Int) W => ((0 ≤ z ∧ z ≤ l.length) ∧ nX l x big = iU (fun r => dn r == 0) l z) ∧ V w0 W F) (fun (z : Int) => (l.length - z).toNat) (_) ji ji ⟨⟨⟨by omega, by omega⟩, by unfold nX; first | (rw [if_neg (by omega)]; done) | (rw [if_pos (by omega), e1]; done)⟩, H⟩ ?_
  rintro z w10 ⟨⟨⟨hz0, hzl⟩, hz⟩, HM⟩
  dsimp only [List.cons_append, List.nil_append]
  refine aK (bM O (bG O (Z (fO (hr _ (HM)) aj O) (Z (fF O O) (iZ O (fun h11 => ?_) (fun h11 => ?_))))))
  ·(try simp only [aC] at h11)
   refine bg (bG O (bg (bG O (bg ?_))))
   obtain ⟨bv, ov, cv, ev⟩ := dR.nJ (hr _ (HM)) (by omega)
   cases ev
   refine Z (dh aj bF O O (by omega)) (bg ?_)
   refine Z (dH (bT aQ O) O (by first | exact dR.jo (hr _ (HM)) (by omega) | exact dR.qB (hr _ (HM)) (by omega) | exact dR.qx (hr _ (HM)) (by omega))) ?_
   refine bg (dX O func15 (oZ HM) ?_)
   rintro _ ED ⟨rfl, rM⟩
   refine bg (Z (cZ O O) (iM O O (gQ O (fun h12 => ?_) (fun h12 => ?_))))
   ·(try simp only [aC] at h12)
    have hQ : (dn (l.getD z.toNat 0) == 0) = true := by rw [beq_iff_eq]; exact h12
    refine fG (aV (aA (bG O (Z (dP O O (by omega)) (dL O (bD (aG ?_)))))))
    refine bZ (z + 1) ?_ ?_ ?_ ?_
    ·exact ji
    ·exact ji
    ·(try dsimp only)
     first | done | exact ⟨⟨⟨by omega, by omega⟩, hz.trans (jY hz0 (by omega) hQ)⟩, rM⟩
    ·(try dsimp only); omega
   ·(try simp only [aC] at h12)
    have hQ : ¬ (dn (l.getD z.toNat 0) == 0) = true := by rw [beq_iff_eq]; exact h12
    refine bQ (aB (aB (aU (aW (bM O (dU O (dF results100 O ?_)))))))
    exact ⟨by rw [hz]; first | rw [dZ (by omega)] | rw [fM hz0 (by omega) hQ], rM⟩
  ·(try simp only [aC] at h11)
   refine bn (bn (bn (bn (bn (bn (gI O O (iy (oD (bQ (aB (aB (aU (aW (bM O (dU O (dF results100 O ?_))))))))))))))))
   exact ⟨by rw [hz]; first | rw [dZ (by omega)] | rw [fM hz0 (by omega) hQ], HM⟩
end
section
variable {w0 w : World} {F : HP} {r x : Int} {big : Bool} {l : List Int} {v : Value}
theorem U3 (H : V w0 w F) (hr : jE w0 F .i32 v l) (hx0 : 0 ≤ x) (hx1 : x ≤ l.length) : ig prog 101 #[v, .int .i64 x, .bool big] w fun v' w' => v' = .int .i64 (ql l x big) ∧ V w0 w' F := by
 have SC : l.length ≤ 9223372036854775807 := by have := (hr _ H).open; obtain ⟨a, c, e, h3, h4, _⟩ := this; omega
 refine DL func101 ntmps101 ?_
 refine jy O (aK (aV ?_))
 refine dJ [(0, _), (2, _)] (fun (y : Int) => [(1, .int .i64 y)]) (fun (y : Int) W => ((0 ≤ y ∧ y ≤ l.length) ∧ ru (fun r => dn r == 0) l y = ru (fun r => dn r == 0) l x) ∧ V w0 W F) (fun (y : Int) => y.toNat) (x) mW ji ⟨⟨⟨hx0, hx1⟩, O⟩, H⟩ ?_
 rintro y w1 ⟨⟨⟨hy0, hyl⟩, hy⟩, HL⟩
 dsimp only [List.cons_append, List.nil_append]
 refine aK (bM O (Z (iw O O) (iZ O (fun h1 => ?_) (fun h1 => ?_))))
 ·(try simp only [aC] at h1)
  refine bg (bG O (bg (bG O (bg (Z (iG O O (by omega)) (bg ?_))))))
  obtain ⟨bv, ov, cv, ev⟩ := dR.nJ (hr _ (HL)) (by omega)
  cases ev
  refine Z (dh aj bF O O (by omega)) (bg ?_)
  refine Z (dH (bT aQ O) O (by first | exact dR.jo (hr _ (HL)) (by omega) | exact dR.qB (hr _ (HL)) (by omega) | exact dR.qx (hr _ (HL)) (by omega))) ?_
  refine bg (dX O func15 (oZ HL) ?_)
  rintro _ w2 ⟨rfl, H2⟩
  refine bg (Z (cZ O O) (iM O O (gQ O (fun h2 => ?_) (fun h2 => ?_))))
  ·(try simp only [aC] at h2)
   have hP : (dn (l.getD (y - 1).toNat 0) == 0) = true := by rw [beq_iff_eq]; exact h2
   refine fG (aV (aA (bG O (Z (iG O O (by omega)) (dL O (bD (aG ?_)))))))
   refine bZ (y - 1) ?_ ?_ ?_ ?_
   ·exact ji
   ·exact mW
   ·(try dsimp only)
    first | done | exact ⟨⟨⟨by omega, by omega⟩, (zk (by omega) hyl hP).symm.trans hy⟩, H2⟩
   ·(try dsimp only); omega
  ·(try simp only [aC] at h2)
   have hP : ¬ (dn (l.getD (y - 1).toNat 0) == 0) = true := by rw [beq_iff_eq]; exact h2
   refine bQ (aB (aB (aU (aW (aK (aK ?_))))))
   have e1 : ru (fun r => dn r == 0) l x = y := hy.symm.trans (by first | exact lQ (by omega) | exact oh (by omega) hyl hP)
   refine aA (bG O (Z (iw O O) (gQ O (fun h3 => ?_) (fun h3 => ?_))))
   ·(try simp only [aC] at h3)
    refine bM O (bG O (Z (iG O O (by omega)) (Z (dh aj bF O O (by omega)) ?_)))
    refine Z (dH (bT aQ O) O (by first | exact dR.jo (hr _ (H2)) (by omega) | exact dR.qB (hr _ (H2)) (by omega) | exact dR.qx (hr _ (H2)) (by omega))) ?_
    refine bG O (dX O func144 (lY H2) ?_)
    rintro _ w3 ⟨rfl, H3⟩
    refine fV O (aV ?_)
    refine dJ [(0, _), (2, _), (7, _)] (fun (z : Int) => [(1, .int .i64 z)]) (fun (z : Int) W => ((0 ≤ z ∧ z ≤ l.length) ∧ ru (fun r => bC r big == bC (l.getD (y - 1).toNat 0) big) l z = ru (fun r => bC r big == bC (l.getD (y - 1).toNat 0) big) l y) ∧ V w0 W F) (fun (z : Int) => z.toNat) (y) qC ji ⟨⟨⟨by omega, by omega⟩, O⟩, H3⟩ ?_
    rintro z w4 ⟨⟨⟨hz0, hzl⟩, hz⟩, HM⟩
    dsimp only [List.cons_append, List.nil_append]
    refine aK (bM O (Z (iw O O) (iZ O (fun h4 => ?_) (fun h4 => ?_))))
    ·(try simp only [aC] at h4)
     refine bg (bG O (bg (bG O (bg (Z (iG O O (by omega)) (bg (Z (dh aj bF O O (by omega)) (bg ?_))))))))
     refine Z (dH (bT aQ O) O (by first | exact dR.jo (hr _ (HM)) (by omega) | exact dR.qB (hr _ (HM)) (by omega) | exact dR.qx (hr _ (HM)) (by omega))) ?_
     refine bg (bG O (bg (dX O func144 (lY HM) ?_)))
     rintro _ w5 ⟨rfl, H5⟩
     refine bg (bG O (bg (Z (cZ O O) (iM O O (gQ O (fun h5 => ?_) (fun h5 => ?_))))))
     ·(try simp only [aC] at h5)
      have hQ : (bC (l.getD (z - 1).toNat 0) big == bC (l.getD (y - 1).toNat 0) big) = true := by rw [beq_iff_eq]; exact h5
      refine fG (aV (aA (bG O (Z (iG O O (by omega)) (dL O (bD (aG ?_)))))))
      refine bZ (z - 1) ?_ ?_ ?_ ?_
      ·exact ji
      ·exact qC
      ·(try dsimp only)
       first | done | exact ⟨⟨⟨by omega, by omega⟩, (zk (by omega) hzl hQ).symm.trans hz⟩, H5⟩
      ·(try dsimp only); omega
     ·(try simp only [aC] at h5)
      have hQ : ¬ (bC (l.getD (z - 1).toNat 0) big == bC (l.getD (y - 1).toNat 0) big) = true := by rw [beq_iff_eq]; exact h5
      refine bQ (aB (aB (aU (aW (bM O (dU O (dF results101 O ?_)))))))
      exact ⟨by unfold ql; rw [e1]; first | (rw [if_neg (by omega)]; done) | (rw [if_pos (by omega), ← hz]; first | rw [lQ (by omega)] | rw [oh (by omega) hzl hQ]), H5⟩
    ·(try simp only [aC] at h4)
     refine bn (bn (bn (bn (bn (bn (bn (bn (bn (gI O O (iy (oD (bQ (aB (aB (aU (aW (bM O (dU O (dF results101 O ?_)))))))))))))))))))
     exact ⟨by unfold ql; rw [e1]; first | (rw [if_neg (by omega)]; done) | (rw [if_pos (by omega), ← hz]; first | rw [lQ (by omega)] | rw [oh (by omega) hzl hQ]), HM⟩
   ·(try simp only [aC] at h3)
    refine fG (bM O (dU O (dF results101 O ?_)))
    exact ⟨by unfold ql; rw [e1]; first | (rw [if_neg (by omega)]; done) | (rw [if_pos (by omega), ← hz]; first | rw [lQ (by omega)] | rw [oh (by omega) hzl hQ]), H2⟩
 ·(try simp only [aC] at h1)
  refine bn (bn (bn (bn (bn (bn (bn (gI O O (iy (oD (bQ (aB (aB (aU (aW (aK (aK ?_))))))))))))))))
  have e1 : ru (fun r => dn r == 0) l x = y := hy.symm.trans (by first | exact lQ (by omega) | exact oh (by omega) hyl hP)
  refine aA (bG O (Z (iw O O) (gQ O (fun h6 => ?_) (fun h6 => ?_))))
  ·(try simp only [aC] at h6)
   refine bM O (bG O (Z (iG O O (by omega)) ?_))
   obtain ⟨bv, ov, cv, ev⟩ := dR.nJ (hr _ (HL)) (by omega)
   cases ev
   refine Z (dh aj bF O O (by omega)) ?_
   refine Z (dH (bT aQ O) O (by first | exact dR.jo (hr _ (HL)) (by omega) | exact dR.qB (hr _ (HL)) (by omega) | exact dR.qx (hr _ (HL)) (by omega))) ?_
   refine bG O (dX O func144 (lY HL) ?_)
   rintro _ w6 ⟨rfl, H6⟩
   refine fV O (aV ?_)
   refine dJ [(0, _), (2, _), (7, _)] (fun (z : Int) => [(1, .int .i64 z)]) (fun (z : Int) W => ((0 ≤ z ∧ z ≤ l.length) ∧ ru (fun r => bC r big == bC (l.getD (y - 1).toNat 0) big) l z = ru (fun r => bC r big == bC (l.getD (y - 1).toNat 0) big) l y) ∧ V w0 W F) (fun (z : Int) => z.toNat) (y) qC ji ⟨⟨⟨by omega, by omega⟩, O⟩, H6⟩ ?_
   rintro z w7 ⟨⟨⟨hz0, hzl⟩, hz⟩, HM⟩
   dsimp only [List.cons_append, List.nil_append]
   refine aK (bM O (Z (iw O O) (iZ O (fun h7 => ?_) (fun h7 => ?_))))
   ·(try simp only [aC] at h7)
    refine bg (bG O (bg (bG O (bg (Z (iG O O (by omega)) (bg (Z (dh aj bF O O (by omega)) (bg ?_))))))))
    refine Z (dH (bT aQ O) O (by first | exact dR.jo (hr _ (HM)) (by omega) | exact dR.qB (hr _ (HM)) (by omega) | exact dR.qx (hr _ (HM)) (by omega))) ?_
    refine bg (bG O (bg (dX O func144 (lY HM) ?_)))
    rintro _ w8 ⟨rfl, H8⟩
    refine bg (bG O (bg (Z (cZ O O) (iM O O (gQ O (fun h8 => ?_) (fun h8 => ?_))))))
    ·(try simp only [aC] at h8)
     have hQ : (bC (l.getD (z - 1).toNat 0) big == bC (l.getD (y - 1).toNat 0) big) = true := by rw [beq_iff_eq]; exact h8
     refine fG (aV (aA (bG O (Z (iG O O (by omega)) (dL O (bD (aG ?_)))))))
     refine bZ (z - 1) ?_ ?_ ?_ ?_
     ·exact ji
     ·exact qC
     ·(try dsimp only)
      first | done | exact ⟨⟨⟨by omega, by omega⟩, (zk (by omega) hzl hQ).symm.trans hz⟩, H8⟩
     ·(try dsimp only); omega
    ·(try simp only [aC] at h8)
     have hQ : ¬ (bC (l.getD (z - 1).toNat 0) big == bC (l.getD (y - 1).toNat 0) big) = true := by rw [beq_iff_eq]; exact h8
     refine bQ (aB (aB (aU (aW (bM O (dU O (dF results101 O ?_)))))))
     exact ⟨by unfold ql; rw [e1]; first | (rw [if_neg (by omega)]; done) | (rw [if_pos (by omega), ← hz]; first | rw [lQ (by omega)] | rw [oh (by omega) hzl hQ]), H8⟩
   ·(try simp only [aC] at h7)
    refine bn (bn (bn (bn (bn (bn (bn (bn (bn (gI O O (iy (oD (bQ (aB (aB (aU (aW (bM O (dU O (dF results101 O ?_)))))))))))))))))))
    exact ⟨by unfold ql; rw [e1]; first | (rw [if_neg (by omega)]; done) | (rw [if_pos (by omega), ← hz]; first | rw [lQ (by omega)] | rw [oh (by omega) hzl hQ]), HM⟩
  ·(try simp only [aC] at h6)
   refine fG (bM O (dU O (dF results101 O ?_)))
   exact ⟨by unfold ql; rw [e1]; first | (rw [if_neg (by omega)]; done) | (rw [if_pos (by omega), ← hz]; first | rw [lQ (by omega)] | rw [oh (by omega) hzl hQ]), HL⟩
theorem Yb (H : V w0 w F) (hr : jE w0 F .i32 v l) (hx0 : 0 ≤ x) (hx1 : x ≤ l.length) (Va : l.length ≤ 4611686018427387904) : ig prog 102 #[v, .int .i64 x, .bool big] w fun v' w' => v' = .int .i64 (max 0 (uD l x big)) ∧ V w0 w' F := by
 refine DL func102 ntmps102 ?_
 refine jy O (bM O (Z (dP O O (by omega)) (tX O (aV ?_))))
 refine dJ [(0, _), (2, _)] (fun (y : Int) => [(1, .int .i64 y)]) (fun (y : Int) W => ((0 ≤ y ∧ y ≤ l.length + 1) ∧ iU (fun r => dn r == 0) l y = iU (fun r => dn r == 0) l (x + 1)) ∧ V w0 W F) (fun (y : Int) => (l.length + 1 - y).toNat) (x + 1) mW ji ⟨⟨⟨by omega, by omega⟩, O⟩, H⟩ ?_
 rintro y w1 ⟨⟨⟨hy0, hyl⟩, hy⟩, HL⟩
 dsimp only [List.cons_append, List.nil_append]
 refine aK (bM O (bG O (Z (fO (hr _ (HL)) aj O) (Z (fF O O) (iZ O (fun h1 => ?_) (fun h1 => ?_))))))
 ·(try simp only [aC] at h1)
  refine bg (bG O (bg (bG O (bg ?_))))
  obtain ⟨bv, ov, cv, ev⟩ := dR.nJ (hr _ (HL)) (by omega)
  cases ev
  refine Z (dh aj bF O O (by omega)) (bg ?_)
  refine Z (dH (bT aQ O) O (by first | exact dR.jo (hr _ (HL)) (by omega) | exact dR.qB (hr _ (HL)) (by omega) | exact dR.qx (hr _ (HL)) (by omega))) ?_
  refine bg (dX O func15 (oZ HL) ?_)
  rintro _ w2 ⟨rfl, H2⟩
  refine bg (Z (cZ O O) (iM O O (gQ O (fun h2 => ?_) (fun h2 => ?_))))
  ·(try simp only [aC] at h2)
   have hP : (dn (l.getD y.toNat 0) == 0) = true := by rw [beq_iff_eq]; exact h2
   refine fG (aV (aA (bG O (Z (dP O O (by omega)) (dL O (bD (aG ?_)))))))
   refine bZ (y + 1) ?_ ?_ ?_ ?_
   ·exact ji
   ·exact mW
   ·(try dsimp only)
    first | done | exact ⟨⟨⟨by omega, by omega⟩, (jY hy0 (by omega) hP).symm.trans hy⟩, H2⟩
   ·(try dsimp only); omega
  ·(try simp only [aC] at h2)
   have hP : ¬ (dn (l.getD y.toNat 0) == 0) = true := by rw [beq_iff_eq]; exact h2
   refine bQ (aB (aB (aU (aW (aK (aK ?_))))))
   have e1 : iU (fun r => dn r == 0) l (x + 1) = y := hy.symm.trans (by first | exact dZ (by omega) | exact fM hy0 (by omega) hP)
   refine aA (jr O O (Z (jZ aj O) (Z (jw O O) (gQ O (fun h3 => ?_) (fun h3 => ?_)))))
   ·(try simp only [aC] at h3)
    refine bM O (Z (jZ aj O) (Z (iG O O (by omega)) (Z (Fj O O) (dU O (ay (dF results102 O ?_))))))
    exact ⟨by congr 1; unfold uD; rw [e1, if_pos (by omega)], H2⟩
   ·(try simp only [aC] at h3)
    refine fG (bM O (bG O (Z (dh aj bF O O (by omega)) ?_)))
    refine Z (dH (bT aQ O) O (by first | exact dR.jo (hr _ (H2)) (by omega) | exact dR.qB (hr _ (H2)) (by omega) | exact dR.qx (hr _ (H2)) (by omega))) ?_
    refine bG O (dX O func144 (lY H2) ?_)
    rintro _ w3 ⟨rfl, H3⟩
    refine tX O (aV ?_)
    refine dJ [(0, _), (2, _), (7, _)] (fun (z : Int) => [(1, .int .i64 z)]) (fun (z : Int) W => ((0 ≤ z ∧ z < l.length) ∧ iU (fun r => bC r big == bC (l.getD y.toNat 0) big) l (z + 1) = iU (fun r => bC r big == bC (l.getD y.toNat 0) big) l (y + 1)) ∧ V w0 W F) (fun (z : Int) => (l.length - z).toNat) (y) qC ji ⟨⟨⟨by omega, by omega⟩, O⟩, H3⟩ ?_
    rintro z w4 ⟨⟨⟨hz0, hzl⟩, hz⟩, HM⟩
    dsimp only [List.cons_append, List.nil_append]
    refine aK (bM O (Z (dP O O (by omega)) (bG O (Z (jZ aj O) (Z (fF O O) (iZ O (fun h4 => ?_) (fun h4 => ?_)))))))
    ·(try simp only [aC] at h4)
     refine bg (bG O (bg (bG O (bg (Z (dP O O (by omega)) (bg (Z (dh aj bF O O (by omega)) (bg ?_))))))))
     refine Z (dH (bT aQ O) O (by first | exact dR.jo (hr _ (HM)) (by omega) | exact dR.qB (hr _ (HM)) (by omega) | exact dR.qx (hr _ (HM)) (by omega))) ?_
     refine bg (bG O (bg (dX O func144 (lY HM) ?_)))
     rintro _ w5 ⟨rfl, H5⟩
     refine bg (bG O (bg (Z (cZ O O) (iM O O (gQ O (fun h5 => ?_) (fun h5 => ?_))))))
     ·(try simp only [aC] at h5)
      have hQ : (bC (l.getD (z + 1).toNat 0) big == bC (l.getD y.toNat 0) big) = true := by rw [beq_iff_eq]; exact h5
      refine fG (aV (aA (bG O (Z (dP O O (by omega)) (dL O (bD (aG ?_)))))))
      refine bZ (z + 1) ?_ ?_ ?_ ?_
      ·exact ji
      ·exact qC
      ·(try dsimp only)
       first | done | exact ⟨⟨⟨by omega, by omega⟩, (jY (by omega) (by omega) hQ).symm.trans hz⟩, H5⟩
      ·(try dsimp only); omega
     ·(try simp only [aC] at h5)
      have hQ : ¬ (bC (l.getD (z + 1).toNat 0) big == bC (l.getD y.toNat 0) big) = true := by rw [beq_iff_eq]; exact h5
      refine bQ (aB (aB (aU (aW (bM O (dU O (dF results102 O ?_)))))))
      exact ⟨by unfold uD; rw [e1, if_neg (by omega), ← hz]; first | (rw [dZ (by omega)]; congr 1; omega) | (rw [fM (by omega) (by omega) hQ]; congr 1; omega), H5⟩
    ·(try simp only [aC] at h4)
     refine bn (bn (bn (bn (bn (bn (bn (bn (bn (gI O O (iy (oD (bQ (aB (aB (aU (aW (bM O (dU O (dF results102 O ?_)))))))))))))))))))
     exact ⟨by unfold uD; rw [e1, if_neg (by omega), ← hz]; first | (rw [dZ (by omega)]; congr 1; omega) | (rw [fM (by omega) (by omega) hQ]; congr 1; omega), HM⟩
 ·(try simp only [aC] at h1)
  refine bn (bn (bn (bn (bn (bn (gI O O (iy (oD (bQ (aB (aB (aU (aW (aK (aK ?_)))))))))))))))
  have e1 : iU (fun r => dn r == 0) l (x + 1) = y := hy.symm.trans (by first | exact dZ (by omega) | exact fM hy0 (by omega) hP)
  refine aA (jr O O (Z (fO (hr _ (HL)) aj O) (Z (jw O O) (gQ O (fun h6 => ?_) (fun h6 => ?_)))))
  ·(try simp only [aC] at h6)
   refine bM O (Z (fO (hr _ (HL)) aj O) (Z (iG O O (by omega)) (Z (Fj O O) (dU O (ay (dF results102 O ?_))))))
   exact ⟨by congr 1; unfold uD; rw [e1, if_pos (by omega)], HL⟩
  ·(try simp only [aC] at h6)
   refine fG (bM O (bG O ?_))
   obtain ⟨bv, ov, cv, ev⟩ := dR.nJ (hr _ (HL)) (by omega)
   cases ev
   refine Z (dh aj bF O O (by omega)) ?_
   refine Z (dH (bT aQ O) O (by first | exact dR.jo (hr _ (HL)) (by omega) | exact dR.qB (hr _ (HL)) (by omega) | exact dR.qx (hr _ (HL)) (by omega))) ?_
   refine bG O (dX O func144 (lY HL) ?_)
   rintro _ w6 ⟨rfl, H6⟩
   refine tX O (aV ?_)
   refine dJ [(0, _), (2, _), (7, _)] (fun (z : Int) => [(1, .int .i64 z)]) (fun (z : Int) W => ((0 ≤ z ∧ z < l.length) ∧ iU (fun r => bC r big == bC (l.getD y.toNat 0) big) l (z + 1) = iU (fun r => bC r big == bC (l.getD y.toNat 0) big) l (y + 1)) ∧ V w0 W F) (fun (z : Int) => (l.length - z).toNat) (y) qC ji ⟨⟨⟨by omega, by omega⟩, O⟩, H6⟩ ?_
   rintro z w7 ⟨⟨⟨hz0, hzl⟩, hz⟩, HM⟩
   dsimp only [List.cons_append, List.nil_append]
   refine aK (bM O (Z (dP O O (by omega)) (bG O (Z (jZ aj O) (Z (fF O O) (iZ O (fun h7 => ?_) (fun h7 => ?_)))))))
   ·(try simp only [aC] at h7)
    refine bg (bG O (bg (bG O (bg (Z (dP O O (by omega)) (bg (Z (dh aj bF O O (by omega)) (bg ?_))))))))
    refine Z (dH (bT aQ O) O (by first | exact dR.jo (hr _ (HM)) (by omega) | exact dR.qB (hr _ (HM)) (by omega) | exact dR.qx (hr _ (HM)) (by omega))) ?_
    refine bg (bG O (bg (dX O func144 (lY HM) ?_)))
    rintro _ w8 ⟨rfl, H8⟩
    refine bg (bG O (bg (Z (cZ O O) (iM O O (gQ O (fun h8 => ?_) (fun h8 => ?_))))))
    ·(try simp only [aC] at h8)
     have hQ : (bC (l.getD (z + 1).toNat 0) big == bC (l.getD y.toNat 0) big) = true := by rw [beq_iff_eq]; exact h8
     refine fG (aV (aA (bG O (Z (dP O O (by omega)) (dL O (bD (aG ?_)))))))
     refine bZ (z + 1) ?_ ?_ ?_ ?_
     ·exact ji
     ·exact qC
     ·(try dsimp only)
      first | done | exact ⟨⟨⟨by omega, by omega⟩, (jY (by omega) (by omega) hQ).symm.trans hz⟩, H8⟩
     ·(try dsimp only); omega
    ·(try simp only [aC] at h8)
     have hQ : ¬ (bC (l.getD (z + 1).toNat 0) big == bC (l.getD y.toNat 0) big) = true := by rw [beq_iff_eq]; exact h8
     refine bQ (aB (aB (aU (aW (bM O (dU O (dF results102 O ?_)))))))
     exact ⟨by unfold uD; rw [e1, if_neg (by omega), ← hz]; first | (rw [dZ (by omega)]; congr 1; omega) | (rw [fM (by omega) (by omega) hQ]; congr 1; omega), H8⟩
   ·(try simp only [aC] at h7)
    refine bn (bn (bn (bn (bn (bn (bn (bn (bn (gI O O (iy (oD (bQ (aB (aB (aU (aW (bM O (dU O (dF results102 O ?_)))))))))))))))))))
    exact ⟨by unfold uD; rw [e1, if_neg (by omega), ← hz]; first | (rw [dZ (by omega)]; congr 1; omega) | (rw [fM (by omega) (by omega) hQ]; congr 1; omega), HM⟩
end
end Go.Proofs.YtpdeedplgmbopaaGreatDoor
end
