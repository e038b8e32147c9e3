import Derived.Test.YtgmpclifphbjkaaGreatDoorZ2
import Derived.Test.YtgmpclifphbjkaaGreatDoorZ5
import Derived.Test.YtgmpclifphbjkaaGreatDoorZ4
set_option linter.unusedSimpArgs false
set_option linter.unusedVariables false
/- Texts of mine, joined, their names in short: Buf3 LineP Move BLive Same Apply. -/
section
namespace Go.Proofs.YtgmpclifphbjkaaGreatDoor
open Go.RowKit
open _root_.Go.Proofs.Tryz
section
variable {w0 w : World} {F : HP} {p : Nat} {L : List Int} {pt mk : Int} {v : Value} {l : List Int} {i j : Int}
theorem Eo {i j : Nat} (H : aB w0 w (dJ p L pt mk • F)) (hr : iU w0 F .i32 v l) (hb : i ≤ j ∧ j ≤ L.length) (hl : (L.length : Int) - ((j : Int) - i) + l.length ≤ 1024) :
    fQ prog 113 #[.pointer (some ⟨p, 0, none⟩), .int .i64 i, .int .i64 j, v] w fun v' w' => ∃ d s, v' = .tuple #[.agg (gU i d s), .int .i64 0] ∧
      aB w0 w' (iG 21 .i32 d ((L.drop i).take (j - i)) • iG 21 .i32 s l • dJ p (L.take i ++ l ++ L.drop j) (bK pt i j l.length) (bP mk i j l.length) • F) := by
  obtain ⟨a, c, rfl, hac, ab8, _⟩ := (hr w H.right).open
  obtain ⟨hL4, hpt, hmk⟩ : L.length ≤ 1024 ∧ (0 ≤ pt ∧ pt ≤ L.length) ∧ (-1 ≤ mk ∧ mk ≤ L.length) := by obtain ⟨a, c, xs, f, t, h1, h2, h3, h4, h5, h6, h7, hc1, hc2, hl, H1⟩ := H.buf; exact ⟨h4, h6, h7⟩
  have hg1 := MS (L := L) (i := i) (r := l.length) (by omega)
  have hg2 := JX (L := L) (i := i) (r := l.length) (by omega)
  have hg3 := JY (L := L) (i := i) (r := l.length) (by omega)
  have hL' : L.take i ++ l ++ L.drop j = (eG (gB L i l.length) i l).take (i + l.length) ++ (eG (gB L i l.length) i l).drop (i + l.length + 16 + (j - i)) := by
    rw [CQ (by omega), JW (by omega) (by omega), hg2]
    congr 1
    rw [← List.drop_drop, hg3, List.drop_drop]
    congr 1; omega
  have hlen' : (L.take i ++ l ++ L.drop j).length = L.length - (j - i) + l.length := by simp; omega
  refine gX func113 ntmps113 ?_
  dsimp only [bg, Nat.reduceAdd]
  refine ay (ah (iy (wu H zeroValue120) ?_))
  rintro _ w1 ⟨b1, rfl, H1⟩
  refine aV rfl (aA (aj (ay (ah (aO rfl (dw rfl func69 (jF H1.right) ?_))))))
  rintro _ w2 ⟨rfl, hD⟩
  have HL := H1.nH hD
  refine aV rfl (aA (aj (ay (bf (ay (ah (aO rfl (dw rfl func130 (jX HL.right) ?_))))))))
  rintro _ _ ⟨rfl, rfl⟩
  refine aV rfl (aA (aj (aH rfl (fun h1 => ?_) (fun h1 => ?_))))
  · (try simp only [aG] at h1)
    try (exfalso; first | contradiction | omega)
    all_goals
      refine ay (ah (aU (gq (pl := #[(0, 1), (1, 1), (2, 1)]) (_) underlying120 zeroValue120 (fun w => by kernel_rfl) rfl (rfl)) (aI (dO HL sizeOf120 rfl rfl rfl (by decide)) ?_)))
      rintro _ w4 H4
      refine aV rfl (aA (aj (aJ (aW (aK ?_)))))
      refine gI (.inl rfl) results113 rfl rfl underlying120 rfl (by rw [show (prog.info? 120).map (·.size) = some 3 from by kernel_rfl]; rfl) H4.get.2 ?_
      refine ⟨_, _, rfl, ?_⟩
      first
        | rw [show bK pt i j l.length = pt + ((l.length : Int) - ((j : Int) - i)) from by unfold bK; rw [if_pos (by omega)]]
        | rw [show bK pt i j l.length = (i : Int) + l.length from by unfold bK; rw [if_neg (by omega), if_pos (by omega)]]
        | rw [show bK pt i j l.length = pt from by unfold bK; rw [if_neg (by omega), if_neg (by omega)]]
      first
        | rw [show bP mk i j l.length = mk + ((l.length : Int) - ((j : Int) - i)) from by unfold bP; rw [if_pos (by omega)]]
        | rw [show bP mk i j l.length = (i : Int) from by unfold bP; rw [if_neg (by omega), if_pos (by omega)]]
        | rw [show bP mk i j l.length = mk from by unfold bP; rw [if_neg (by omega), if_neg (by omega)]]
      refine (aB.kD (f := i + l.length) (t := i + l.length + 16 + (j - i)) (v := .slice ax (gB L i l.length).length cx) (xs := eG (gB L i l.length) i l) (by omega) (by rw [bQ (by omega)]; omega) hL' (by omega) (by rw [bQ (by omega)]; omega) (by omega) (by omega) ?_).d3.swap
      rw [show ((i + l.length : Nat) : Int) = (i : Int) + l.length from by omega, show ((i + l.length + 16 + (j - i) : Nat) : Int) = ((i + l.length + 16 : Nat) : Int) + ((j : Int) - i) from by omega]
      exact H4.right.right
  · (try simp only [aG] at h1)
    try (exfalso; first | contradiction | omega)
    all_goals
      refine ay (ah (aO rfl (aU (dL rfl rfl) (jo rfl (fun h2 => ?_) (fun h2 => ?_)))))
      · (try simp only [aG] at h2)
        try (exfalso; first | contradiction | omega)
        all_goals
          refine bI (bI (bI (jO rfl rfl (aO rfl (bI (bI (bI (jO rfl rfl (aO rfl (bI (bI (bI (jO rfl rfl (aV rfl (aA (aj (yL (ay (ah (aU (gq (pl := #[(0, 1), (1, 1), (2, 1)]) (_) underlying120 zeroValue120 (fun w => by kernel_rfl) rfl (rfl)) (aI (dO HL sizeOf120 rfl rfl rfl (by decide)) ?_)))))))))))))))))))))
          rintro _ w5 H5
          refine aV rfl (aA (aj (aJ (aW (aK ?_)))))
          refine gI (.inl rfl) results113 rfl rfl underlying120 rfl (by rw [show (prog.info? 120).map (·.size) = some 3 from by kernel_rfl]; rfl) H5.get.2 ?_
          refine ⟨_, _, rfl, ?_⟩
          first
            | rw [show bK pt i j l.length = pt + ((l.length : Int) - ((j : Int) - i)) from by unfold bK; rw [if_pos (by omega)]]
            | rw [show bK pt i j l.length = (i : Int) + l.length from by unfold bK; rw [if_neg (by omega), if_pos (by omega)]]
            | rw [show bK pt i j l.length = pt from by unfold bK; rw [if_neg (by omega), if_neg (by omega)]]
          first
            | rw [show bP mk i j l.length = mk + ((l.length : Int) - ((j : Int) - i)) from by unfold bP; rw [if_pos (by omega)]]
            | rw [show bP mk i j l.length = (i : Int) from by unfold bP; rw [if_neg (by omega), if_pos (by omega)]]
            | rw [show bP mk i j l.length = mk from by unfold bP; rw [if_neg (by omega), if_neg (by omega)]]
          refine (aB.kD (f := i + l.length) (t := i + l.length + 16 + (j - i)) (v := .slice ax (gB L i l.length).length cx) (xs := eG (gB L i l.length) i l) (by omega) (by rw [bQ (by omega)]; omega) hL' (by omega) (by rw [bQ (by omega)]; omega) (by omega) (by omega) ?_).d3.swap
          rw [show ((i + l.length : Nat) : Int) = (i : Int) + l.length from by omega, show ((i + l.length + 16 + (j - i) : Nat) : Int) = ((i + l.length + 16 : Nat) : Int) + ((j : Int) - i) from by omega]
          exact H5.right.right
      · (try simp only [aG] at h2)
        try (exfalso; first | contradiction | omega)
        all_goals
          refine bD (aO rfl (bD (aO rfl (bD (aU (dQ rfl rfl) (jr rfl rfl (jo rfl (fun h3 => ?_) (fun h3 => ?_))))))))
          · (try simp only [aG] at h3)
            try (exfalso; first | contradiction | omega)
            all_goals
              refine bI (bI (bI (jO rfl rfl (aO rfl (bI (bI (bI (jO rfl rfl (aV rfl (aA (aj (yL (ay (ah (aU (gq (pl := #[(0, 1), (1, 1), (2, 1)]) (_) underlying120 zeroValue120 (fun w => by kernel_rfl) rfl (rfl)) (aI (dO HL sizeOf120 rfl rfl rfl (by decide)) ?_))))))))))))))))
              rintro _ w6 H6
              refine aV rfl (aA (aj (aJ (aW (aK ?_)))))
              refine gI (.inl rfl) results113 rfl rfl underlying120 rfl (by rw [show (prog.info? 120).map (·.size) = some 3 from by kernel_rfl]; rfl) H6.get.2 ?_
              refine ⟨_, _, rfl, ?_⟩
              first
                | rw [show bK pt i j l.length = pt + ((l.length : Int) - ((j : Int) - i)) from by unfold bK; rw [if_pos (by omega)]]
                | rw [show bK pt i j l.length = (i : Int) + l.length from by unfold bK; rw [if_neg (by omega), if_pos (by omega)]]
                | rw [show bK pt i j l.length = pt from by unfold bK; rw [if_neg (by omega), if_neg (by omega)]]
              first
                | rw [show bP mk i j l.length = mk + ((l.length : Int) - ((j : Int) - i)) from by unfold bP; rw [if_pos (by omega)]]
                | rw [show bP mk i j l.length = (i : Int) from by unfold bP; rw [if_neg (by omega), if_pos (by omega)]]
                | rw [show bP mk i j l.length = mk from by unfold bP; rw [if_neg (by omega), if_neg (by omega)]]
              refine (aB.kD (f := i + l.length) (t := i + l.length + 16 + (j - i)) (v := .slice ax (gB L i l.length).length cx) (xs := eG (gB L i l.length) i l) (by omega) (by rw [bQ (by omega)]; omega) hL' (by omega) (by rw [bQ (by omega)]; omega) (by omega) (by omega) ?_).d3.swap
              rw [show ((i + l.length : Nat) : Int) = (i : Int) + l.length from by omega, show ((i + l.length + 16 + (j - i) : Nat) : Int) = ((i + l.length + 16 : Nat) : Int) + ((j : Int) - i) from by omega]
              exact H6.right.right
          · (try simp only [aG] at h3)
            try (exfalso; first | contradiction | omega)
            all_goals
              refine bD (aO rfl (bD (aO rfl (bD (aU (dL rfl rfl) (jr rfl rfl (jo rfl (fun h4 => ?_) (fun h4 => ?_))))))))
              · (try simp only [aG] at h4)
                try (exfalso; first | contradiction | omega)
                all_goals
                  refine bI (bI (bI (jO rfl rfl (aV rfl (aA (aj (yL (ay (ah (aU (gq (pl := #[(0, 1), (1, 1), (2, 1)]) (_) underlying120 zeroValue120 (fun w => by kernel_rfl) rfl (rfl)) (aI (dO HL sizeOf120 rfl rfl rfl (by decide)) ?_)))))))))))
                  rintro _ w7 H7
                  refine aV rfl (aA (aj (aJ (aW (aK ?_)))))
                  refine gI (.inl rfl) results113 rfl rfl underlying120 rfl (by rw [show (prog.info? 120).map (·.size) = some 3 from by kernel_rfl]; rfl) H7.get.2 ?_
                  refine ⟨_, _, rfl, ?_⟩
                  first
                    | rw [show bK pt i j l.length = pt + ((l.length : Int) - ((j : Int) - i)) from by unfold bK; rw [if_pos (by omega)]]
                    | rw [show bK pt i j l.length = (i : Int) + l.length from by unfold bK; rw [if_neg (by omega), if_pos (by omega)]]
                    | rw [show bK pt i j l.length = pt from by unfold bK; rw [if_neg (by omega), if_neg (by omega)]]
                  first
                    | rw [show bP mk i j l.length = mk + ((l.length : Int) - ((j : Int) - i)) from by unfold bP; rw [if_pos (by omega)]]
                    | rw [show bP mk i j l.length = (i : Int) from by unfold bP; rw [if_neg (by omega), if_pos (by omega)]]
                    | rw [show bP mk i j l.length = mk from by unfold bP; rw [if_neg (by omega), if_neg (by omega)]]
                  refine (aB.kD (f := i + l.length) (t := i + l.length + 16 + (j - i)) (v := .slice ax (gB L i l.length).length cx) (xs := eG (gB L i l.length) i l) (by omega) (by rw [bQ (by omega)]; omega) hL' (by omega) (by rw [bQ (by omega)]; omega) (by omega) (by omega) ?_).d3.swap
                  rw [show ((i + l.length : Nat) : Int) = (i : Int) + l.length from by omega, show ((i + l.length + 16 + (j - i) : Nat) : Int) = ((i + l.length + 16 : Nat) : Int) + ((j : Int) - i) from by omega]
                  exact H7.right.right
              · (try simp only [aG] at h4)
                try (exfalso; first | contradiction | omega)
                all_goals
                  refine bD (aO rfl (bD (aO rfl (bD (aU (dQ rfl rfl) (jr rfl rfl (aV rfl (aA (aj (aH rfl (fun h => by exfalso; (try simp only [aG] at h); first | contradiction | omega | (simp at h <;> omega)) (fun h5 => ?_)))))))))))
                  (try simp only [aG] at h5)
                  refine ay (ah (aO rfl (aU (gK underlying22 rfl) (aO rfl (aO rfl (aO rfl (aU (jB rfl rfl (by omega)) (aU (jB rfl rfl (by omega)) (aU (jB rfl rfl (by omega)) (aU (dQ rfl rfl) (aV rfl (aA (aj (aH rfl (fun h => by exfalso; (try simp only [aG] at h); first | contradiction | omega | (simp at h <;> omega)) (fun h6 => ?_)))))))))))))))
                  (try simp only [aG] at h6)
                  refine aS (aQ (aj (ay (ah (aO rfl (aO rfl (dw rfl func117 (kU HL.swap) ?_)))))))
                  rintro u w8 H8
                  obtain ⟨au, cu, hu, _⟩ := (H8.aT).form
                  subst hu
                  refine aO rfl (aO rfl (aU (qG underlying22 sizeOf21 rfl rfl rfl (by omega)) (dw rfl func136 (oK H8 (fun W HW => jG.cut HW.aT (i := i) (j := j) (by omega) (by omega)) (by simp; omega)) ?_)))
                  rintro d w9 H9
                  have HC := H9.swap.right
                  obtain ⟨ad, cd, hd, _⟩ := (HC.aT).form
                  subst hd
                  refine aO rfl (dw rfl func136 (oK HC hr.under.under.under (by omega)) ?_)
                  rintro s w10 oP
                  obtain ⟨ai, ci, hs, _⟩ := (oP.aT).form
                  subst hs
                  refine aU (gq (pl := #[(0, 1), (1, 1), (2, 1)]) (gU i (.slice ad ((L.drop i).take (j - i)).length cd) (.slice ai l.length ci)) underlying120 zeroValue120 (fun w => by kernel_rfl) rfl (by kernel_rfl)) (iy (wu oP zeroValue120) ?_)
                  rintro _ FT ⟨b11, rfl, uV⟩
                  refine aI (dR (cs := gU i (.slice ad ((L.drop i).take (j - i)).length cd) (.slice ai l.length ci)) uV sizeOf120 rfl rfl rfl rfl (kV rfl rfl)) ?_
                  rintro _ w12 rV
                  refine aA (aj (ay (ah (aO rfl (aO rfl (aO rfl (aU (gK underlying22 rfl) (dw rfl func165 (IL rV.r4 (by omega) (by omega)) ?_))))))))
                  rintro _ MB ⟨x, vZ⟩
                  obtain ⟨ax, cx, hx, _⟩ := (vZ.swap.aT).form
                  subst hx
                  refine aA (aj (ay (ah (aO rfl (bH rfl (aZ 3 underlying178 rfl sizeOf3 rfl (cO underlying3 rfl vZ.get.2 rfl (aO rfl (aO rfl (aU (jB rfl rfl (by omega)) (aU (eP rfl rfl (by omega)) (bH rfl (aZ 3 underlying178 rfl sizeOf3 rfl (aI (dO vZ sizeOf3 rfl rfl rfl (by rw [jC]; decide)) ?_))))))))))))))
                  rintro _ JE uX
                  rw [zO] at uX
                  have aay := uX.get.2
                  refine aA (aj (ay ?_))
                  refine kN (n := 11) [0, 1, 2, 3, 4, 5, 6, 7, 8, 9, 10] (fun W => W.heap[p]? = some (.cells (fE (.slice ax (gB L i l.length).length cx) i ((i + l.length + 16 : Nat) + ((j : Int) - i)) pt mk) 178 (0, 0))) (by kernel_rfl) (by kernel_rfl) rfl ?_
                  have hS0 : (fun W => W.heap[p]? = some (.cells (fE (.slice ax (gB L i l.length).length cx) i ((i + l.length + 16 : Nat) + ((j : Int) - i)) pt mk) 178 (0, 0))) (JE.drew) := aay
                  have RI := uX.drew
                  refine fU 0 rfl hS0 rfl (iT 1 rfl hS0 rfl (dP 2 rfl hS0 1 underlying178 rfl sizeOf22 rfl (gQ 3 rfl hS0 (fun W hW => iI underlying22 rfl hW rfl) (fU 4 rfl hS0 rfl (iT 5 rfl hS0 rfl (dP 6 rfl hS0 2 underlying178 rfl sizeOf3 rfl (gQ 7 rfl hS0 (fun W hW => iI underlying3 rfl hW rfl) (iJ 8 rfl hS0 (fun _ => qG underlying22 sizeOf21 rfl rfl rfl (by omega)) (fU 9 rfl hS0 rfl (jH 10 rfl (xZ (i := i) (m := l) RI.swap (hr _ RI.right.right.right.right.right.right) underlying22 (by kernel_rfl) rfl rfl (by omega)) ?_))))))))))
                  rintro _ P8 ⟨rfl, yQ⟩
                  have HS := yQ.swap
                  refine Ea (by kernel_rfl) ?_
                  refine mg (aj (ay (ah (aO rfl (bH rfl (aZ 2 underlying178 rfl sizeOf3 rfl (cO underlying3 rfl HS.get.2 rfl (aO rfl (aU (gK underlying22 rfl) (aU (eP rfl rfl (by omega)) (bH rfl (aZ 2 underlying178 rfl sizeOf3 rfl (aI (dO HS sizeOf3 rfl rfl rfl (by rw [jC]; decide)) ?_)))))))))))))
                  rintro _ w16 qH
                  rw [wC] at qH
                  refine aA (aj (ay (bf (ay (ah (aO rfl (bH rfl (aZ 4 underlying178 rfl sizeOf3 rfl (cO underlying3 rfl qH.get.2 rfl (aO rfl (aU (dQ rfl rfl) (aV rfl (aA (aj (aH rfl (fun h7 => ?_) (fun h7 => ?_))))))))))))))))
                  · (try simp only [aG] at h7)
                    try (exfalso; first | contradiction | omega)
                    all_goals
                      refine ah (aO rfl (bH rfl (aZ 4 underlying178 rfl sizeOf3 rfl (cO underlying3 rfl qH.get.2 rfl (aO rfl (aU (gK underlying22 rfl) (aO rfl (aO rfl (aU (jB rfl rfl (by omega)) (aU (jB rfl rfl (by omega)) (aU (eP rfl rfl (by omega)) (bH rfl (aZ 4 underlying178 rfl sizeOf3 rfl (aI (dO qH sizeOf3 rfl rfl rfl (by rw [jC]; decide)) ?_))))))))))))))
                      rintro _ UN Aj
                      rw [uK] at Aj
                      refine aA (aQ (aj (ay (bf (ay (ah (aO rfl (bH rfl (aZ 5 underlying178 rfl sizeOf3 rfl (cO underlying3 rfl Aj.get.2 rfl (aO rfl (aU (dQ rfl rfl) (aV rfl (aA (aj (aH rfl (fun h8 => ?_) (fun h8 => ?_)))))))))))))))))
                      · (try simp only [aG] at h8)
                        try (exfalso; first | contradiction | omega)
                        all_goals
                          refine ah (aO rfl (bH rfl (aZ 5 underlying178 rfl sizeOf3 rfl (cO underlying3 rfl Aj.get.2 rfl (aO rfl (aU (gK underlying22 rfl) (aO rfl (aO rfl (aU (jB rfl rfl (by omega)) (aU (jB rfl rfl (by omega)) (aU (eP rfl rfl (by omega)) (bH rfl (aZ 5 underlying178 rfl sizeOf3 rfl (aI (dO Aj sizeOf3 rfl rfl rfl (by rw [jC]; decide)) ?_))))))))))))))
                          rintro _ UO BF
                          rw [mO] at BF
                          refine aA (aQ (aj (ay ?_)))
                          have oQ := BF.FQ
                          refine ah (aU (bU underlying120 rfl sizeOf120 rfl rfl oQ.get.2) (aI (dR (cs := gU i (.slice ad ((L.drop i).take (j - i)).length cd) (.slice ai l.length ci)) oQ.r6 sizeOf120 rfl rfl rfl rfl (kV rfl rfl)) ?_))
                          rintro _ UQ xk
                          refine aV rfl (aA (aj (aJ ?_)))
                          refine gI (.inl rfl) results113 rfl rfl underlying120 rfl (by rw [show (prog.info? 120).map (·.size) = some 3 from by kernel_rfl]; rfl) xk.get.2 ?_
                          refine ⟨_, _, rfl, ?_⟩
                          first
                            | rw [show bK pt i j l.length = pt + ((l.length : Int) - ((j : Int) - i)) from by unfold bK; rw [if_pos (by omega)]]
                            | rw [show bK pt i j l.length = (i : Int) + l.length from by unfold bK; rw [if_neg (by omega), if_pos (by omega)]]
                            | rw [show bK pt i j l.length = pt from by unfold bK; rw [if_neg (by omega), if_neg (by omega)]]
                          first
                            | rw [show bP mk i j l.length = mk + ((l.length : Int) - ((j : Int) - i)) from by unfold bP; rw [if_pos (by omega)]]
                            | rw [show bP mk i j l.length = (i : Int) from by unfold bP; rw [if_neg (by omega), if_pos (by omega)]]
                            | rw [show bP mk i j l.length = mk from by unfold bP; rw [if_neg (by omega), if_neg (by omega)]]
                          refine (aB.kD (f := i + l.length) (t := i + l.length + 16 + (j - i)) (v := .slice ax (gB L i l.length).length cx) (xs := eG (gB L i l.length) i l) (by omega) (by rw [bQ (by omega)]; omega) hL' (by omega) (by rw [bQ (by omega)]; omega) (by omega) (by omega) ?_).d3.swap
                          rw [show ((i + l.length : Nat) : Int) = (i : Int) + l.length from by omega, show ((i + l.length + 16 + (j - i) : Nat) : Int) = ((i + l.length + 16 : Nat) : Int) + ((j : Int) - i) from by omega]
                          exact xk.right.right
                      · (try simp only [aG] at h8)
                        try (exfalso; first | contradiction | omega)
                        all_goals
                          refine ay (ah (aO rfl (bH rfl (aZ 5 underlying178 rfl sizeOf3 rfl (cO underlying3 rfl Aj.get.2 rfl (aO rfl (aU (dQ rfl rfl) (aV rfl (aA (aj (aH rfl (fun h9 => ?_) (fun h9 => ?_))))))))))))
                          · (try simp only [aG] at h9)
                            try (exfalso; first | contradiction | omega)
                            all_goals
                              refine ah (aO rfl (aO rfl (bH rfl (aZ 5 underlying178 rfl sizeOf3 rfl (aI (dO Aj sizeOf3 rfl rfl rfl (by rw [jC]; decide)) ?_)))))
                              rintro _ Vh yR
                              rw [mO] at yR
                              refine aA (aQ (aj (ay ?_)))
                              have oQ := yR.FQ
                              refine ah (aU (bU underlying120 rfl sizeOf120 rfl rfl oQ.get.2) (aI (dR (cs := gU i (.slice ad ((L.drop i).take (j - i)).length cd) (.slice ai l.length ci)) oQ.r6 sizeOf120 rfl rfl rfl rfl (kV rfl rfl)) ?_))
                              rintro _ Vj oQ
                              refine aV rfl (aA (aj (aJ ?_)))
                              refine gI (.inl rfl) results113 rfl rfl underlying120 rfl (by rw [show (prog.info? 120).map (·.size) = some 3 from by kernel_rfl]; rfl) oQ.get.2 ?_
                              refine ⟨_, _, rfl, ?_⟩
                              first
                                | rw [show bK pt i j l.length = pt + ((l.length : Int) - ((j : Int) - i)) from by unfold bK; rw [if_pos (by omega)]]
                                | rw [show bK pt i j l.length = (i : Int) + l.length from by unfold bK; rw [if_neg (by omega), if_pos (by omega)]]
                                | rw [show bK pt i j l.length = pt from by unfold bK; rw [if_neg (by omega), if_neg (by omega)]]
                              first
                                | rw [show bP mk i j l.length = mk + ((l.length : Int) - ((j : Int) - i)) from by unfold bP; rw [if_pos (by omega)]]
                                | rw [show bP mk i j l.length = (i : Int) from by unfold bP; rw [if_neg (by omega), if_pos (by omega)]]
                                | rw [show bP mk i j l.length = mk from by unfold bP; rw [if_neg (by omega), if_neg (by omega)]]
                              refine (aB.kD (f := i + l.length) (t := i + l.length + 16 + (j - i)) (v := .slice ax (gB L i l.length).length cx) (xs := eG (gB L i l.length) i l) (by omega) (by rw [bQ (by omega)]; omega) hL' (by omega) (by rw [bQ (by omega)]; omega) (by omega) (by omega) ?_).d3.swap
                              rw [show ((i + l.length : Nat) : Int) = (i : Int) + l.length from by omega, show ((i + l.length + 16 + (j - i) : Nat) : Int) = ((i + l.length + 16 : Nat) : Int) + ((j : Int) - i) from by omega]
                              exact oQ.right.right
                          · (try simp only [aG] at h9)
                            try (exfalso; first | contradiction | omega)
                            all_goals
                              refine aS (aQ (aj (ay ?_)))
                              have oQ := Aj.FQ
                              refine ah (aU (bU underlying120 rfl sizeOf120 rfl rfl oQ.get.2) (aI (dR (cs := gU i (.slice ad ((L.drop i).take (j - i)).length cd) (.slice ai l.length ci)) oQ.r6 sizeOf120 rfl rfl rfl rfl (kV rfl rfl)) ?_))
                              rintro _ Yr DR
                              refine aV rfl (aA (aj (aJ ?_)))
                              refine gI (.inl rfl) results113 rfl rfl underlying120 rfl (by rw [show (prog.info? 120).map (·.size) = some 3 from by kernel_rfl]; rfl) DR.get.2 ?_
                              refine ⟨_, _, rfl, ?_⟩
                              first
                                | rw [show bK pt i j l.length = pt + ((l.length : Int) - ((j : Int) - i)) from by unfold bK; rw [if_pos (by omega)]]
                                | rw [show bK pt i j l.length = (i : Int) + l.length from by unfold bK; rw [if_neg (by omega), if_pos (by omega)]]
                                | rw [show bK pt i j l.length = pt from by unfold bK; rw [if_neg (by omega), if_neg (by omega)]]
                              first
                                | rw [show bP mk i j l.length = mk + ((l.length : Int) - ((j : Int) - i)) from by unfold bP; rw [if_pos (by omega)]]
                                | rw [show bP mk i j l.length = (i : Int) from by unfold bP; rw [if_neg (by omega), if_pos (by omega)]]
                                | rw [show bP mk i j l.length = mk from by unfold bP; rw [if_neg (by omega), if_neg (by omega)]]
                              refine (aB.kD (f := i + l.length) (t := i + l.length + 16 + (j - i)) (v := .slice ax (gB L i l.length).length cx) (xs := eG (gB L i l.length) i l) (by omega) (by rw [bQ (by omega)]; omega) hL' (by omega) (by rw [bQ (by omega)]; omega) (by omega) (by omega) ?_).d3.swap
                              rw [show ((i + l.length : Nat) : Int) = (i : Int) + l.length from by omega, show ((i + l.length + 16 + (j - i) : Nat) : Int) = ((i + l.length + 16 : Nat) : Int) + ((j : Int) - i) from by omega]
                              exact DR.right.right
                  · (try simp only [aG] at h7)
                    try (exfalso; first | contradiction | omega)
                    all_goals
                      refine ay (ah (aO rfl (bH rfl (aZ 4 underlying178 rfl sizeOf3 rfl (cO underlying3 rfl qH.get.2 rfl (aO rfl (aU (D7 rfl rfl) (aV rfl (aA (aj (aH rfl (fun h10 => ?_) (fun h10 => ?_))))))))))))
                      · (try simp only [aG] at h10)
                        try (exfalso; first | contradiction | omega)
                        all_goals
                          refine ah (aO rfl (aO rfl (aO rfl (aU (gK underlying22 rfl) (aU (eP rfl rfl (by omega)) (bH rfl (aZ 4 underlying178 rfl sizeOf3 rfl (aI (dO qH sizeOf3 rfl rfl rfl (by rw [jC]; decide)) ?_))))))))
                          rintro _ RJ tY
                          rw [uK] at tY
                          refine aA (aQ (aj (ay (bf (ay (ah (aO rfl (bH rfl (aZ 5 underlying178 rfl sizeOf3 rfl (cO underlying3 rfl tY.get.2 rfl (aO rfl (aU (dQ rfl rfl) (aV rfl (aA (aj (aH rfl (fun h11 => ?_) (fun h11 => ?_)))))))))))))))))
                          · (try simp only [aG] at h11)
                            try (exfalso; first | contradiction | omega)
                            all_goals
                              refine ah (aO rfl (bH rfl (aZ 5 underlying178 rfl sizeOf3 rfl (cO underlying3 rfl tY.get.2 rfl (aO rfl (aU (gK underlying22 rfl) (aO rfl (aO rfl (aU (jB rfl rfl (by omega)) (aU (jB rfl rfl (by omega)) (aU (eP rfl rfl (by omega)) (bH rfl (aZ 5 underlying178 rfl sizeOf3 rfl (aI (dO tY sizeOf3 rfl rfl rfl (by rw [jC]; decide)) ?_))))))))))))))
                              rintro _ YS GZ
                              rw [mO] at GZ
                              refine aA (aQ (aj (ay ?_)))
                              have oQ := GZ.FQ
                              refine ah (aU (bU underlying120 rfl sizeOf120 rfl rfl oQ.get.2) (aI (dR (cs := gU i (.slice ad ((L.drop i).take (j - i)).length cd) (.slice ai l.length ci)) oQ.r6 sizeOf120 rfl rfl rfl rfl (kV rfl rfl)) ?_))
                              rintro _ Yt G6
                              refine aV rfl (aA (aj (aJ ?_)))
                              refine gI (.inl rfl) results113 rfl rfl underlying120 rfl (by rw [show (prog.info? 120).map (·.size) = some 3 from by kernel_rfl]; rfl) G6.get.2 ?_
                              refine ⟨_, _, rfl, ?_⟩
                              first
                                | rw [show bK pt i j l.length = pt + ((l.length : Int) - ((j : Int) - i)) from by unfold bK; rw [if_pos (by omega)]]
                                | rw [show bK pt i j l.length = (i : Int) + l.length from by unfold bK; rw [if_neg (by omega), if_pos (by omega)]]
                                | rw [show bK pt i j l.length = pt from by unfold bK; rw [if_neg (by omega), if_neg (by omega)]]
                              first
                                | rw [show bP mk i j l.length = mk + ((l.length : Int) - ((j : Int) - i)) from by unfold bP; rw [if_pos (by omega)]]
                                | rw [show bP mk i j l.length = (i : Int) from by unfold bP; rw [if_neg (by omega), if_pos (by omega)]]
                                | rw [show bP mk i j l.length = mk from by unfold bP; rw [if_neg (by omega), if_neg (by omega)]]
                              refine (aB.kD (f := i + l.length) (t := i + l.length + 16 + (j - i)) (v := .slice ax (gB L i l.length).length cx) (xs := eG (gB L i l.length) i l) (by omega) (by rw [bQ (by omega)]; omega) hL' (by omega) (by rw [bQ (by omega)]; omega) (by omega) (by omega) ?_).d3.swap
                              rw [show ((i + l.length : Nat) : Int) = (i : Int) + l.length from by omega, show ((i + l.length + 16 + (j - i) : Nat) : Int) = ((i + l.length + 16 : Nat) : Int) + ((j : Int) - i) from by omega]
                              exact G6.right.right
                          · (try simp only [aG] at h11)
                            try (exfalso; first | contradiction | omega)
                            all_goals
                              refine ay (ah (aO rfl (bH rfl (aZ 5 underlying178 rfl sizeOf3 rfl (cO underlying3 rfl tY.get.2 rfl (aO rfl (aU (dQ rfl rfl) (aV rfl (aA (aj (aH rfl (fun h12 => ?_) (fun h12 => ?_))))))))))))
                              · (try simp only [aG] at h12)
                                try (exfalso; first | contradiction | omega)
                                all_goals
                                  refine ah (aO rfl (aO rfl (bH rfl (aZ 5 underlying178 rfl sizeOf3 rfl (aI (dO tY sizeOf3 rfl rfl rfl (by rw [jC]; decide)) ?_)))))
                                  rintro _ Yu JZ
                                  rw [mO] at JZ
                                  refine aA (aQ (aj (ay ?_)))
                                  have oQ := JZ.FQ
                                  refine ah (aU (bU underlying120 rfl sizeOf120 rfl rfl oQ.get.2) (aI (dR (cs := gU i (.slice ad ((L.drop i).take (j - i)).length cd) (.slice ai l.length ci)) oQ.r6 sizeOf120 rfl rfl rfl rfl (kV rfl rfl)) ?_))
                                  rintro _ Yv FZ
                                  refine aV rfl (aA (aj (aJ ?_)))
                                  refine gI (.inl rfl) results113 rfl rfl underlying120 rfl (by rw [show (prog.info? 120).map (·.size) = some 3 from by kernel_rfl]; rfl) FZ.get.2 ?_
                                  refine ⟨_, _, rfl, ?_⟩
                                  first
                                    | rw [show bK pt i j l.length = pt + ((l.length : Int) - ((j : Int) - i)) from by unfold bK; rw [if_pos (by omega)]]
                                    | rw [show bK pt i j l.length = (i : Int) + l.length from by unfold bK; rw [if_neg (by omega), if_pos (by omega)]]
                                    | rw [show bK pt i j l.length = pt from by unfold bK; rw [if_neg (by omega), if_neg (by omega)]]
                                  first
                                    | rw [show bP mk i j l.length = mk + ((l.length : Int) - ((j : Int) - i)) from by unfold bP; rw [if_pos (by omega)]]
                                    | rw [show bP mk i j l.length = (i : Int) from by unfold bP; rw [if_neg (by omega), if_pos (by omega)]]
                                    | rw [show bP mk i j l.length = mk from by unfold bP; rw [if_neg (by omega), if_neg (by omega)]]
                                  refine (aB.kD (f := i + l.length) (t := i + l.length + 16 + (j - i)) (v := .slice ax (gB L i l.length).length cx) (xs := eG (gB L i l.length) i l) (by omega) (by rw [bQ (by omega)]; omega) hL' (by omega) (by rw [bQ (by omega)]; omega) (by omega) (by omega) ?_).d3.swap
                                  rw [show ((i + l.length : Nat) : Int) = (i : Int) + l.length from by omega, show ((i + l.length + 16 + (j - i) : Nat) : Int) = ((i + l.length + 16 : Nat) : Int) + ((j : Int) - i) from by omega]
                                  exact FZ.right.right
                              · (try simp only [aG] at h12)
                                try (exfalso; first | contradiction | omega)
                                all_goals
                                  refine aS (aQ (aj (ay ?_)))
                                  have oQ := tY.FQ
                                  refine ah (aU (bU underlying120 rfl sizeOf120 rfl rfl oQ.get.2) (aI (dR (cs := gU i (.slice ad ((L.drop i).take (j - i)).length cd) (.slice ai l.length ci)) oQ.r6 sizeOf120 rfl rfl rfl rfl (kV rfl rfl)) ?_))
                                  rintro _ w28 RN
                                  refine aV rfl (aA (aj (aJ ?_)))
                                  refine gI (.inl rfl) results113 rfl rfl underlying120 rfl (by rw [show (prog.info? 120).map (·.size) = some 3 from by kernel_rfl]; rfl) RN.get.2 ?_
                                  refine ⟨_, _, rfl, ?_⟩
                                  first
                                    | rw [show bK pt i j l.length = pt + ((l.length : Int) - ((j : Int) - i)) from by unfold bK; rw [if_pos (by omega)]]
                                    | rw [show bK pt i j l.length = (i : Int) + l.length from by unfold bK; rw [if_neg (by omega), if_pos (by omega)]]
                                    | rw [show bK pt i j l.length = pt from by unfold bK; rw [if_neg (by omega), if_neg (by omega)]]
                                  first
                                    | rw [show bP mk i j l.length = mk + ((l.length : Int) - ((j : Int) - i)) from by unfold bP; rw [if_pos (by omega)]]
                                    | rw [show bP mk i j l.length = (i : Int) from by unfold bP; rw [if_neg (by omega), if_pos (by omega)]]
                                    | rw [show bP mk i j l.length = mk from by unfold bP; rw [if_neg (by omega), if_neg (by omega)]]
                                  refine (aB.kD (f := i + l.length) (t := i + l.length + 16 + (j - i)) (v := .slice ax (gB L i l.length).length cx) (xs := eG (gB L i l.length) i l) (by omega) (by rw [bQ (by omega)]; omega) hL' (by omega) (by rw [bQ (by omega)]; omega) (by omega) (by omega) ?_).d3.swap
                                  rw [show ((i + l.length : Nat) : Int) = (i : Int) + l.length from by omega, show ((i + l.length + 16 + (j - i) : Nat) : Int) = ((i + l.length + 16 : Nat) : Int) + ((j : Int) - i) from by omega]
                                  exact RN.right.right
                      · (try simp only [aG] at h10)
                        try (exfalso; first | contradiction | omega)
                        all_goals
                          refine aS (aQ (aj (ay (bf (ay (ah (aO rfl (bH rfl (aZ 5 underlying178 rfl sizeOf3 rfl (cO underlying3 rfl qH.get.2 rfl (aO rfl (aU (dQ rfl rfl) (aV rfl (aA (aj (aH rfl (fun h13 => ?_) (fun h13 => ?_)))))))))))))))))
                          · (try simp only [aG] at h13)
                            try (exfalso; first | contradiction | omega)
                            all_goals
                              refine ah (aO rfl (bH rfl (aZ 5 underlying178 rfl sizeOf3 rfl (cO underlying3 rfl qH.get.2 rfl (aO rfl (aU (gK underlying22 rfl) (aO rfl (aO rfl (aU (jB rfl rfl (by omega)) (aU (jB rfl rfl (by omega)) (aU (eP rfl rfl (by omega)) (bH rfl (aZ 5 underlying178 rfl sizeOf3 rfl (aI (dO qH sizeOf3 rfl rfl rfl (by rw [jC]; decide)) ?_))))))))))))))
                              rintro _ w29 RP
                              rw [mO] at RP
                              refine aA (aQ (aj (ay ?_)))
                              have oQ := RP.FQ
                              refine ah (aU (bU underlying120 rfl sizeOf120 rfl rfl oQ.get.2) (aI (dR (cs := gU i (.slice ad ((L.drop i).take (j - i)).length cd) (.slice ai l.length ci)) oQ.r6 sizeOf120 rfl rfl rfl rfl (kV rfl rfl)) ?_))
                              rintro _ w30 MV
                              refine aV rfl (aA (aj (aJ ?_)))
                              refine gI (.inl rfl) results113 rfl rfl underlying120 rfl (by rw [show (prog.info? 120).map (·.size) = some 3 from by kernel_rfl]; rfl) MV.get.2 ?_
                              refine ⟨_, _, rfl, ?_⟩
                              first
                                | rw [show bK pt i j l.length = pt + ((l.length : Int) - ((j : Int) - i)) from by unfold bK; rw [if_pos (by omega)]]
                                | rw [show bK pt i j l.length = (i : Int) + l.length from by unfold bK; rw [if_neg (by omega), if_pos (by omega)]]
                                | rw [show bK pt i j l.length = pt from by unfold bK; rw [if_neg (by omega), if_neg (by omega)]]
                              first
                                | rw [show bP mk i j l.length = mk + ((l.length : Int) - ((j : Int) - i)) from by unfold bP; rw [if_pos (by omega)]]
                                | rw [show bP mk i j l.length = (i : Int) from by unfold bP; rw [if_neg (by omega), if_pos (by omega)]]
                                | rw [show bP mk i j l.length = mk from by unfold bP; rw [if_neg (by omega), if_neg (by omega)]]
                              refine (aB.kD (f := i + l.length) (t := i + l.length + 16 + (j - i)) (v := .slice ax (gB L i l.length).length cx) (xs := eG (gB L i l.length) i l) (by omega) (by rw [bQ (by omega)]; omega) hL' (by omega) (by rw [bQ (by omega)]; omega) (by omega) (by omega) ?_).d3.swap
                              rw [show ((i + l.length : Nat) : Int) = (i : Int) + l.length from by omega, show ((i + l.length + 16 + (j - i) : Nat) : Int) = ((i + l.length + 16 : Nat) : Int) + ((j : Int) - i) from by omega]
                              exact MV.right.right
                          · (try simp only [aG] at h13)
                            try (exfalso; first | contradiction | omega)
                            all_goals
                              refine ay (ah (aO rfl (bH rfl (aZ 5 underlying178 rfl sizeOf3 rfl (cO underlying3 rfl qH.get.2 rfl (aO rfl (aU (dQ rfl rfl) (aV rfl (aA (aj (aH rfl (fun h14 => ?_) (fun h14 => ?_))))))))))))
                              · (try simp only [aG] at h14)
                                try (exfalso; first | contradiction | omega)
                                all_goals
                                  refine ah (aO rfl (aO rfl (bH rfl (aZ 5 underlying178 rfl sizeOf3 rfl (aI (dO qH sizeOf3 rfl rfl rfl (by rw [jC]; decide)) ?_)))))
                                  rintro _ Yw IQ
                                  rw [mO] at IQ
                                  refine aA (aQ (aj (ay ?_)))
                                  have oQ := IQ.FQ
                                  refine ah (aU (bU underlying120 rfl sizeOf120 rfl rfl oQ.get.2) (aI (dR (cs := gU i (.slice ad ((L.drop i).take (j - i)).length cd) (.slice ai l.length ci)) oQ.r6 sizeOf120 rfl rfl rfl rfl (kV rfl rfl)) ?_))
                                  rintro _ Xj FU
                                  refine aV rfl (aA (aj (aJ ?_)))
                                  refine gI (.inl rfl) results113 rfl rfl underlying120 rfl (by rw [show (prog.info? 120).map (·.size) = some 3 from by kernel_rfl]; rfl) FU.get.2 ?_
                                  refine ⟨_, _, rfl, ?_⟩
                                  first
                                    | rw [show bK pt i j l.length = pt + ((l.length : Int) - ((j : Int) - i)) from by unfold bK; rw [if_pos (by omega)]]
                                    | rw [show bK pt i j l.length = (i : Int) + l.length from by unfold bK; rw [if_neg (by omega), if_pos (by omega)]]
                                    | rw [show bK pt i j l.length = pt from by unfold bK; rw [if_neg (by omega), if_neg (by omega)]]
                                  first
                                    | rw [show bP mk i j l.length = mk + ((l.length : Int) - ((j : Int) - i)) from by unfold bP; rw [if_pos (by omega)]]
                                    | rw [show bP mk i j l.length = (i : Int) from by unfold bP; rw [if_neg (by omega), if_pos (by omega)]]
                                    | rw [show bP mk i j l.length = mk from by unfold bP; rw [if_neg (by omega), if_neg (by omega)]]
                                  refine (aB.kD (f := i + l.length) (t := i + l.length + 16 + (j - i)) (v := .slice ax (gB L i l.length).length cx) (xs := eG (gB L i l.length) i l) (by omega) (by rw [bQ (by omega)]; omega) hL' (by omega) (by rw [bQ (by omega)]; omega) (by omega) (by omega) ?_).d3.swap
                                  rw [show ((i + l.length : Nat) : Int) = (i : Int) + l.length from by omega, show ((i + l.length + 16 + (j - i) : Nat) : Int) = ((i + l.length + 16 : Nat) : Int) + ((j : Int) - i) from by omega]
                                  exact FU.right.right
                              · (try simp only [aG] at h14)
                                try (exfalso; first | contradiction | omega)
                                all_goals
                                  refine aS (aQ (aj (ay ?_)))
                                  have oQ := qH.FQ
                                  refine ah (aU (bU underlying120 rfl sizeOf120 rfl rfl oQ.get.2) (aI (dR (cs := gU i (.slice ad ((L.drop i).take (j - i)).length cd) (.slice ai l.length ci)) oQ.r6 sizeOf120 rfl rfl rfl rfl (kV rfl rfl)) ?_))
                                  rintro _ w33 P9
                                  refine aV rfl (aA (aj (aJ ?_)))
                                  refine gI (.inl rfl) results113 rfl rfl underlying120 rfl (by rw [show (prog.info? 120).map (·.size) = some 3 from by kernel_rfl]; rfl) P9.get.2 ?_
                                  refine ⟨_, _, rfl, ?_⟩
                                  first
                                    | rw [show bK pt i j l.length = pt + ((l.length : Int) - ((j : Int) - i)) from by unfold bK; rw [if_pos (by omega)]]
                                    | rw [show bK pt i j l.length = (i : Int) + l.length from by unfold bK; rw [if_neg (by omega), if_pos (by omega)]]
                                    | rw [show bK pt i j l.length = pt from by unfold bK; rw [if_neg (by omega), if_neg (by omega)]]
                                  first
                                    | rw [show bP mk i j l.length = mk + ((l.length : Int) - ((j : Int) - i)) from by unfold bP; rw [if_pos (by omega)]]
                                    | rw [show bP mk i j l.length = (i : Int) from by unfold bP; rw [if_neg (by omega), if_pos (by omega)]]
                                    | rw [show bP mk i j l.length = mk from by unfold bP; rw [if_neg (by omega), if_neg (by omega)]]
                                  refine (aB.kD (f := i + l.length) (t := i + l.length + 16 + (j - i)) (v := .slice ax (gB L i l.length).length cx) (xs := eG (gB L i l.length) i l) (by omega) (by rw [bQ (by omega)]; omega) hL' (by omega) (by rw [bQ (by omega)]; omega) (by omega) (by omega) ?_).d3.swap
                                  rw [show ((i + l.length : Nat) : Int) = (i : Int) + l.length from by omega, show ((i + l.length + 16 + (j - i) : Nat) : Int) = ((i + l.length + 16 : Nat) : Int) + ((j : Int) - i) from by omega]
                                  exact P9.right.right
end
end Go.Proofs.YtgmpclifphbjkaaGreatDoor
end
section
namespace Go.Proofs.YtgmpclifphbjkaaGreatDoor
open Go.RowKit
open _root_.Go.Proofs.Tryz
def V8 (n : Nat) (pt x : Int) : Int := if 0 ≤ x ∧ x ≤ n then x else pt
def YT (n : Nat) (x : Int) : Int := if 0 ≤ x ∧ x ≤ n then 0 else 70
def lS (v : Value) (pt mk : Int) : Array Value := #[v, .int .i64 pt, .int .i64 mk]
theorem Qa {v : Value} {pt mk : Int} (h : v.oneCell' = true) : ∀ u ∈ (lS v pt mk).toList, u.oneCell' = true := by
  intro u hu
  simp [lS] at hu
  rcases hu with rfl | rfl | rfl
  · exact h
  · rfl
  · rfl
section
variable {w0 w : World} {F : HP} {p : Nat} {L : List Int} {pt mk x : Int} {v : Value} {l : List Int}
theorem IU (H : aB w0 w (dJ p L pt mk • F)) : fQ prog 74 #[.pointer (some ⟨p, 0, none⟩), .int .i64 x] w fun v w' => v = .int .i64 (YT L.length x) ∧ aB w0 w' (dJ p L (V8 L.length pt x) mk • F) := by
 refine gX func74 ntmps74 ?_
 dsimp only [bg, Nat.reduceAdd]
 refine ay (ah (aV rfl (aA (aj (ay (bf (ay (ah (aO rfl (dw rfl func130 (jX H) ?_))))))))))
 rintro _ _ ⟨rfl, rfl⟩
 refine aV rfl (aA (aj (aH rfl (fun h1 => ?_) (fun h1 => ?_))))
 ·(try simp only [aG] at h1)
  exfalso; first | contradiction | omega
 ·(try simp only [aG] at h1)
  try (exfalso; first | contradiction | omega)
  all_goals
   refine ay (ah (aO rfl (aU (dL rfl rfl) (jo rfl (fun h2 => ?_) (fun h2 => ?_)))))
   ·(try simp only [aG] at h2)
    try (exfalso; first | contradiction | omega)
    all_goals
     refine bI (bI (bI (bI (jO rfl rfl (aV rfl (aA (aj (yL (ay (ah (aV rfl (aA (aj (aJ (aW (aK (aP (.inl rfl) results74 rfl ?_)))))))))))))))))
     exact ⟨by rw [YT, if_neg (by omega)], by rw [V8, if_neg (by omega)]; exact H⟩
   ·(try simp only [aG] at h2)
    try (exfalso; first | contradiction | omega)
    all_goals
     refine bD (aO rfl (bD (aO rfl (bD (dw rfl func69 (jF H) ?_)))))
     rintro _ w2 ⟨rfl, hD⟩
     have HL := H.nH hD
     refine bD (aU (dQ rfl rfl) (jr rfl rfl (aV rfl (aA (aj (aH rfl (fun h3 => ?_) (fun h3 => ?_)))))))
     ·(try simp only [aG] at h3)
      try (exfalso; first | contradiction | omega)
      all_goals
       refine ay (ah (aV rfl (aA (aj (aJ (aW (aK (aP (.inl rfl) results74 rfl ?_))))))))
       exact ⟨by rw [YT, if_neg (by omega)], by rw [V8, if_neg (by omega)]; exact HL⟩
     ·(try simp only [aG] at h3)
      try (exfalso; first | contradiction | omega)
      all_goals
       refine aS (aQ (aj (ay ?_)))
       obtain ⟨a, c, xs, f, t, h11, h12, h13, h14, h15, h16, h17, hc1, hc2, hl, HB⟩ := HL.buf
       refine ah (aO rfl (aO rfl (bH rfl (aZ 4 underlying178 rfl sizeOf3 rfl (aI (dO HB sizeOf3 rfl rfl rfl (by rw [jC]; decide)) ?_)))))
       rintro _ w3 H3
       rw [uK] at H3
       refine aA (aj (ay (ah (aV rfl (aA (aj (aJ (aP (.inl rfl) results74 rfl ?_))))))))
       exact ⟨by rw [YT, if_pos (by omega)], by rw [V8, if_pos (by omega)]; exact aB.kD h11 h12 h13 h14 h15 (by omega) h17 H3⟩
theorem IV (H : aB w0 w (dJ p L pt mk • F)) : fQ prog 62 #[.pointer (some ⟨p, 0, none⟩)] w fun v' w' => ∃ u, v' = .agg (lS u pt mk) ∧ aB w0 w' (iG 21 .i32 u L • dJ p L pt mk • F) := by
 refine gX func62 ntmps62 ?_
 dsimp only [bg, Nat.reduceAdd]
 refine ay (ah (iy (wu H zeroValue42) ?_))
 rintro _ w1 ⟨b1, rfl, H1⟩
 refine aA (aj (ay (ah (aO rfl (dw rfl func117 (kU H1.swap) ?_)))))
 rintro u w2 H2
 obtain ⟨au, cu, hu, _⟩ := (H2.aT).form
 subst hu
 refine aO rfl (dw rfl func68 (kE H2.swap) ?_)
 rintro _ _ ⟨rfl, rfl⟩
 refine aO rfl (dw rfl func131 (IK H2.swap) ?_)
 rintro _ _ ⟨rfl, rfl⟩
 refine aU (gq (pl := #[(0, 1), (1, 1), (2, 1)]) (lS (.slice au L.length cu) pt mk) underlying42 zeroValue42 (fun w => by kernel_rfl) rfl (by kernel_rfl)) (aI (dR (cs := lS (.slice au L.length cu) pt mk) H2.FQ sizeOf42 rfl rfl rfl rfl (Qa rfl)) ?_)
 rintro _ w5 H5
 refine aA (aj (aJ ?_))
 refine U8 (.inl rfl) results62 rfl underlying42 rfl (by rw [show (prog.info? 42).map (·.size) = some 3 from by kernel_rfl]; rfl) H5.get.2 ?_
 exact ⟨_, rfl, H5.right⟩
end
end Go.Proofs.YtgmpclifphbjkaaGreatDoor
end
section
namespace Go.Proofs.YtgmpclifphbjkaaGreatDoor
open Go.RowKit
def RQ (g : Int → Bool) (l : List Int) (at_ : Nat) : Nat := at_ + ((l.drop at_).takeWhile g).length
def RU (g : Int → Bool) (l : List Int) (at_ : Nat) : Nat := at_ - ((l.take at_).reverse.takeWhile g).length
def AP (n : Nat) (x : Int) : Nat := (min (max x 0) n).toNat
section
variable {w0 w : World} {F G : HP} {v fv : Value} {l : List Int} {g : Int → Bool}
def YU (l : List Int) (x : Int) : Nat := RQ DN l (RQ (fun r => !DN r) l (AP l.length x))
def Xk (l : List Int) (x : Int) : Nat := RU DN l (RU (fun r => !DN r) l (AP l.length x))
def Oz (r : Int) : Bool := decide (Rl r ≠ 0) || JO r
def abT (l : List Int) (x : Int) : Nat := if AP l.length x < l.length then RQ (fun r => !Oz r) l (AP l.length x + 1) else l.length
def abU (l : List Int) (x : Int) : Nat := RU (fun r => !Oz r) l (AP l.length x) - 1
end
end Go.Proofs.YtgmpclifphbjkaaGreatDoor
end
section
namespace Go.Proofs.YtgmpclifphbjkaaGreatDoor
open Go.RowKit
section
variable {w0 w : World} {F : HP} {p : Nat} {L : List Int} {pt mk : Int} {v : Value} {l : List Int}
end
end Go.Proofs.YtgmpclifphbjkaaGreatDoor
end
section
namespace Go.Proofs.YtgmpclifphbjkaaGreatDoor
open Go.RowKit
open _root_.Go.Proofs.Tryz
theorem J3 (w : World) (v1 v2 : Value) (l1 l2 : List Int) (h1 : jG w .i32 v1 l1) (h2 : jG w .i32 v2 l2) :
  fQ prog 67 #[v1, v2] w fun v w' => v = .bool (l1 == l2) ∧ qc w w' := by
 obtain ⟨a1, c1, rfl, hc1, hm1, hr1⟩ := h1.open
 obtain ⟨a2, c2, rfl, hc2, hm2, hr2⟩ := h2.open
 clear h1 h2
 refine gX func67 ntmps67 ?_
 dsimp only [bg, Nat.reduceAdd]
 refine ay (ah (aV rfl (aA (aj (ay (ay (ah (aO rfl (aU (gK underlying22 rfl) (aO rfl (aU (gK underlying22 rfl) (aU (bZ rfl rfl) (aA (aj (aH rfl (fun h1 => ?_) (fun h1 => ?_))))))))))))))))
 ·(try simp only [aG] at h1)
  try (exfalso; first | contradiction | omega)
  all_goals
   refine ay (ah (aV rfl (aA (aj (aJ (aK (aP (.inl rfl) results67 rfl ?_)))))))
   exact ⟨by rw [show (l1 == l2) = false from beq_eq_false_iff_ne.2 (by rintro rfl; exact h1 rfl)], qc.refl _⟩
 ·(try simp only [aG] at h1)
  try (exfalso; first | contradiction | omega)
  all_goals
   refine aS (aj (ay (ay (ah (aV rfl (aA (aj (bf ?_))))))))
   refine fM [(0, _), (1, _)] (fun (k : Nat) => [(5, .int .i64 (k : Int))]) (fun (k : Nat) W => k ≤ l1.length ∧ l1.length = l2.length ∧ l1.take k = l2.take k ∧ qc w W) (fun (k : Nat) => l1.length - k) (0) (Sub.cons rfl (Sub.cons rfl (Sub.nil _))) (Sub.cons rfl (Sub.nil _)) ⟨by omega, by omega, by simp, qc.refl _⟩ ?_
   rintro k w1 ⟨hk, hl, ht, hD⟩
   dsimp only [List.cons_append, List.nil_append]
   refine ay (ay (ah (aO rfl (aO rfl (aU (gK underlying22 rfl) (aU (dL rfl rfl) (aA (aj (aH rfl (fun h2 => ?_) (fun h2 => ?_))))))))))
   ·(try simp only [aG] at h2)
    try (exfalso; first | contradiction | omega)
    all_goals
     refine aS (aj (ay (bf (ay ?_))))
     obtain ⟨b1, o1, rfl, hq1⟩ := hr1 (by omega)
     obtain ⟨b2, o2, rfl, hq2⟩ := hr2 (by omega)
     have hc1 := hq1 k (by omega)
     have hc2 := hq2 k (by omega)
     refine kN (n := 9) [0, 1, 2, 3, 4, 5, 6, 7, 8] (fun W => W.heap = w1.heap) (by kernel_rfl) (by kernel_rfl) rfl ?_
     have hS0 : (fun W => W.heap = w1.heap) (w1.drew) := rfl
     refine fU 0 rfl hS0 rfl (fU 1 rfl hS0 rfl (iJ 2 rfl hS0 (fun _ => eF underlying22 sizeOf21 rfl rfl (by omega)) ?_))
     refine gQ 3 rfl hS0 (fun W hW => iC (dM underlying21 rfl) rfl (by rw [uY (hW.trans hD.heap)]; simpa using hc1)) ?_
     refine fU 4 rfl hS0 rfl (fU 5 rfl hS0 rfl (iJ 6 rfl hS0 (fun _ => eF underlying22 sizeOf21 rfl rfl (by omega)) ?_))
     refine gQ 7 rfl hS0 (fun W hW => iC (dM underlying21 rfl) rfl (by rw [uY (hW.trans hD.heap)]; simpa using hc2)) ?_
     refine iJ 8 rfl hS0 (fun _ => bZ rfl rfl) (mg (aj (aH rfl (fun h3 => ?_) (fun h3 => ?_))))
     ·(try simp only [aG] at h3)
      try (exfalso; first | contradiction | omega)
      all_goals
       refine ay (ah (aV rfl (aA (aj (aJ (aW (aK (aK (aW (aK (aP (.inl rfl) results67 rfl ?_)))))))))))
       exact ⟨by rw [show (l1 == l2) = false from beq_eq_false_iff_ne.2 (by rintro rfl; exact h3 rfl)], hD.drew⟩
     ·(try simp only [aG] at h3)
      try (exfalso; first | contradiction | omega)
      all_goals
       refine aS (aQ (aj (ah (aO rfl (aU (eP rfl rfl (by omega)) (aV rfl (aA ?_)))))))
       refine dK (k + 1) ?_ ?_ ?_ ?_
       ·exact (Sub.cons rfl (Sub.nil _))
       ·exact (Sub.cons rfl (Sub.cons rfl (Sub.nil _)))
       ·(try dsimp only)
        first | done | exact ⟨by omega, by omega, AO (by omega) (by omega) ht (by simpa using h3), hD.drew⟩
       ·(try dsimp only); omega
   ·(try simp only [aG] at h2)
    try (exfalso; first | contradiction | omega)
    all_goals
     refine fG (aX (aX (bM (aj (ay (ah (aV rfl (aA (aj (aJ (aP (.inl rfl) results67 rfl ?_)))))))))))
     exact ⟨by rw [show (l1 == l2) = true from beq_iff_eq.2 (by rw [List.take_of_length_le (by omega), List.take_of_length_le (by omega)] at ht; exact ht)], hD⟩
theorem J4 (w : World) (v1 v2 : Value) (l : List Int) (h1 : jG w .i32 v1 l) (h2 : jG w .i32 v2 l) :
    fQ prog 67 #[v1, v2] w fun v w' => v = .bool true ∧ qc w w' := by
  have := J3 w v1 v2 l l h1 h2
  simpa using this
end Go.Proofs.YtgmpclifphbjkaaGreatDoor
end
section
namespace Go.Proofs.YtgmpclifphbjkaaGreatDoor
open Go.RowKit
section
variable {w0 w : World} {F : HP} {p : Nat} {L : List Int} {pt mk a : Int} {d i : Value} {dl il : List Int}
end
end Go.Proofs.YtgmpclifphbjkaaGreatDoor
end
