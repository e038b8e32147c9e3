import Derived.Test.YtddekefihgejoaaGreatDoorZ2
import Derived.Test.YtddekefihgejoaaGreatDoorZ5
import Derived.Test.YtddekefihgejoaaGreatDoorZ4
set_option linter.unusedSimpArgs false
set_option linter.unusedVariables false
/- Texts of mine, joined, their names in short: Buf3 LineP Move BLive Same Apply BufP Ring. -/
section
namespace Go.Proofs.YtddekefihgejoaaGreatDoor
open Go.RowKit
open _root_.Go.Proofs.Tryz
section
variable {w0 w : World} {F : HP} {p : Nat} {L : List Int} {pt mk : Int} {v : Value} {l : List Int} {i j : Int}
theorem Dk {i j : Nat} (H : aB w0 w (dI p L pt mk • F)) (hr : iT w0 F .i32 v l) (hb : i ≤ j ∧ j ≤ L.length) (hl : (L.length : Int) - ((j : Int) - i) + l.length ≤ 1024) :
    fE prog 136 #[.pointer (some ⟨p, 0, none⟩), .int .i64 i, .int .i64 j, v] w fun v' w' => ∃ d s, v' = .tuple #[.agg (fK i d s), .int .i64 0] ∧
      aB w0 w' (gZ 21 .i32 d ((L.drop i).take (j - i)) • gZ 21 .i32 s l • dI p (L.take i ++ l ++ L.drop j) (bI pt i j l.length) (bJ mk i j l.length) • F) := by
  obtain ⟨a, c, rfl, hac, abQ, _⟩ := (hr w H.right).open
  obtain ⟨hL4, hpt, hmk⟩ : L.length ≤ 1024 ∧ (0 ≤ pt ∧ pt ≤ L.length) ∧ (-1 ≤ mk ∧ mk ≤ L.length) := by obtain ⟨a, c, xs, f, t, h1, h2, h3, h4, h5, h6, h7, hc1, hc2, hl, H1⟩ := H.buf; exact ⟨h4, h6, h7⟩
  have hg1 := Kv (L := L) (i := i) (r := l.length) (by omega)
  have hg2 := Iz (L := L) (i := i) (r := l.length) (by omega)
  have hg3 := IB (L := L) (i := i) (r := l.length) (by omega)
  have hL' : L.take i ++ l ++ L.drop j = (dH (fA L i l.length) i l).take (i + l.length) ++ (dH (fA L i l.length) i l).drop (i + l.length + 16 + (j - i)) := by
    rw [AB (by omega), Iy (by omega) (by omega), hg2]
    congr 1
    rw [← List.drop_drop, hg3, List.drop_drop]
    congr 1; omega
  have hlen' : (L.take i ++ l ++ L.drop j).length = L.length - (j - i) + l.length := by simp; omega
  refine gy func136 ntmps136 ?_
  dsimp only [aY, Nat.reduceAdd]
  refine ay (ah (gq (uU H zeroValue202) ?_))
  rintro _ w1 ⟨b1, rfl, H1⟩
  refine aV rfl (aA (aj (ay (ah (aN rfl (dw rfl func140 (rU H1.right) ?_))))))
  rintro _ w2 ⟨rfl, hD⟩
  have HL := H1.Aj hD
  refine aV rfl (aA (aj (ay (bf (ay (ah (aN rfl (dw rfl func139 (nK HL.right) ?_))))))))
  rintro _ _ ⟨rfl, rfl⟩
  refine aV rfl (aA (aj (aP rfl (fun h1 => ?_) (fun h1 => ?_))))
  · (try simp only [aI] at h1)
    try (exfalso; first | contradiction | omega)
    all_goals
      refine ay (ah (aU (fD (pl := #[(0, 1), (1, 1), (2, 1)]) (_) underlying202 zeroValue202 (fun w => by kernel_rfl) rfl (rfl)) (aG (fC HL sizeOf202 rfl rfl rfl (by decide)) ?_)))
      rintro _ w4 H4
      refine aV rfl (aA (aj (aJ (aX (aK ?_)))))
      refine fG (.inl rfl) results136 rfl rfl underlying202 rfl (by rw [show (prog.info? 202).map (·.size) = some 3 from by kernel_rfl]; rfl) H4.get.2 ?_
      refine ⟨_, _, rfl, ?_⟩
      first
        | rw [show bI pt i j l.length = pt + ((l.length : Int) - ((j : Int) - i)) from by unfold bI; rw [if_pos (by omega)]]
        | rw [show bI pt i j l.length = (i : Int) + l.length from by unfold bI; rw [if_neg (by omega), if_pos (by omega)]]
        | rw [show bI pt i j l.length = pt from by unfold bI; rw [if_neg (by omega), if_neg (by omega)]]
      first
        | rw [show bJ mk i j l.length = mk + ((l.length : Int) - ((j : Int) - i)) from by unfold bJ; rw [if_pos (by omega)]]
        | rw [show bJ mk i j l.length = (i : Int) from by unfold bJ; rw [if_neg (by omega), if_pos (by omega)]]
        | rw [show bJ mk i j l.length = mk from by unfold bJ; rw [if_neg (by omega), if_neg (by omega)]]
      refine (aB.kD (f := i + l.length) (t := i + l.length + 16 + (j - i)) (v := .slice ax (fA L i l.length).length cx) (xs := dH (fA L i l.length) i l) (by omega) (by rw [bM (by omega)]; omega) hL' (by omega) (by rw [bM (by omega)]; omega) (by omega) (by omega) ?_).d3.swap
      rw [show ((i + l.length : Nat) : Int) = (i : Int) + l.length from by omega, show ((i + l.length + 16 + (j - i) : Nat) : Int) = ((i + l.length + 16 : Nat) : Int) + ((j : Int) - i) from by omega]
      exact H4.right.right
  · (try simp only [aI] at h1)
    try (exfalso; first | contradiction | omega)
    all_goals
      refine ay (ah (aN rfl (aU (eu rfl rfl) (jy rfl (fun h2 => ?_) (fun h2 => ?_)))))
      · (try simp only [aI] at h2)
        try (exfalso; first | contradiction | omega)
        all_goals
          refine bF (bF (bF (jw rfl rfl (aN rfl (bF (bF (bF (jw rfl rfl (aN rfl (bF (bF (bF (jw rfl rfl (aV rfl (aA (aj (xg (ay (ah (aU (fD (pl := #[(0, 1), (1, 1), (2, 1)]) (_) underlying202 zeroValue202 (fun w => by kernel_rfl) rfl (rfl)) (aG (fC HL sizeOf202 rfl rfl rfl (by decide)) ?_)))))))))))))))))))))
          rintro _ w5 H5
          refine aV rfl (aA (aj (aJ (aX (aK ?_)))))
          refine fG (.inl rfl) results136 rfl rfl underlying202 rfl (by rw [show (prog.info? 202).map (·.size) = some 3 from by kernel_rfl]; rfl) H5.get.2 ?_
          refine ⟨_, _, rfl, ?_⟩
          first
            | rw [show bI pt i j l.length = pt + ((l.length : Int) - ((j : Int) - i)) from by unfold bI; rw [if_pos (by omega)]]
            | rw [show bI pt i j l.length = (i : Int) + l.length from by unfold bI; rw [if_neg (by omega), if_pos (by omega)]]
            | rw [show bI pt i j l.length = pt from by unfold bI; rw [if_neg (by omega), if_neg (by omega)]]
          first
            | rw [show bJ mk i j l.length = mk + ((l.length : Int) - ((j : Int) - i)) from by unfold bJ; rw [if_pos (by omega)]]
            | rw [show bJ mk i j l.length = (i : Int) from by unfold bJ; rw [if_neg (by omega), if_pos (by omega)]]
            | rw [show bJ mk i j l.length = mk from by unfold bJ; rw [if_neg (by omega), if_neg (by omega)]]
          refine (aB.kD (f := i + l.length) (t := i + l.length + 16 + (j - i)) (v := .slice ax (fA L i l.length).length cx) (xs := dH (fA L i l.length) i l) (by omega) (by rw [bM (by omega)]; omega) hL' (by omega) (by rw [bM (by omega)]; omega) (by omega) (by omega) ?_).d3.swap
          rw [show ((i + l.length : Nat) : Int) = (i : Int) + l.length from by omega, show ((i + l.length + 16 + (j - i) : Nat) : Int) = ((i + l.length + 16 : Nat) : Int) + ((j : Int) - i) from by omega]
          exact H5.right.right
      · (try simp only [aI] at h2)
        try (exfalso; first | contradiction | omega)
        all_goals
          refine bC (aN rfl (bC (aN rfl (bC (aU (fZ rfl rfl) (iU rfl rfl (jy rfl (fun h3 => ?_) (fun h3 => ?_))))))))
          · (try simp only [aI] at h3)
            try (exfalso; first | contradiction | omega)
            all_goals
              refine bF (bF (bF (jw rfl rfl (aN rfl (bF (bF (bF (jw rfl rfl (aV rfl (aA (aj (xg (ay (ah (aU (fD (pl := #[(0, 1), (1, 1), (2, 1)]) (_) underlying202 zeroValue202 (fun w => by kernel_rfl) rfl (rfl)) (aG (fC HL sizeOf202 rfl rfl rfl (by decide)) ?_))))))))))))))))
              rintro _ w6 H6
              refine aV rfl (aA (aj (aJ (aX (aK ?_)))))
              refine fG (.inl rfl) results136 rfl rfl underlying202 rfl (by rw [show (prog.info? 202).map (·.size) = some 3 from by kernel_rfl]; rfl) H6.get.2 ?_
              refine ⟨_, _, rfl, ?_⟩
              first
                | rw [show bI pt i j l.length = pt + ((l.length : Int) - ((j : Int) - i)) from by unfold bI; rw [if_pos (by omega)]]
                | rw [show bI pt i j l.length = (i : Int) + l.length from by unfold bI; rw [if_neg (by omega), if_pos (by omega)]]
                | rw [show bI pt i j l.length = pt from by unfold bI; rw [if_neg (by omega), if_neg (by omega)]]
              first
                | rw [show bJ mk i j l.length = mk + ((l.length : Int) - ((j : Int) - i)) from by unfold bJ; rw [if_pos (by omega)]]
                | rw [show bJ mk i j l.length = (i : Int) from by unfold bJ; rw [if_neg (by omega), if_pos (by omega)]]
                | rw [show bJ mk i j l.length = mk from by unfold bJ; rw [if_neg (by omega), if_neg (by omega)]]
              refine (aB.kD (f := i + l.length) (t := i + l.length + 16 + (j - i)) (v := .slice ax (fA L i l.length).length cx) (xs := dH (fA L i l.length) i l) (by omega) (by rw [bM (by omega)]; omega) hL' (by omega) (by rw [bM (by omega)]; omega) (by omega) (by omega) ?_).d3.swap
              rw [show ((i + l.length : Nat) : Int) = (i : Int) + l.length from by omega, show ((i + l.length + 16 + (j - i) : Nat) : Int) = ((i + l.length + 16 : Nat) : Int) + ((j : Int) - i) from by omega]
              exact H6.right.right
          · (try simp only [aI] at h3)
            try (exfalso; first | contradiction | omega)
            all_goals
              refine bC (aN rfl (bC (aN rfl (bC (aU (eu rfl rfl) (iU rfl rfl (jy rfl (fun h4 => ?_) (fun h4 => ?_))))))))
              · (try simp only [aI] at h4)
                try (exfalso; first | contradiction | omega)
                all_goals
                  refine bF (bF (bF (jw rfl rfl (aV rfl (aA (aj (xg (ay (ah (aU (fD (pl := #[(0, 1), (1, 1), (2, 1)]) (_) underlying202 zeroValue202 (fun w => by kernel_rfl) rfl (rfl)) (aG (fC HL sizeOf202 rfl rfl rfl (by decide)) ?_)))))))))))
                  rintro _ w7 H7
                  refine aV rfl (aA (aj (aJ (aX (aK ?_)))))
                  refine fG (.inl rfl) results136 rfl rfl underlying202 rfl (by rw [show (prog.info? 202).map (·.size) = some 3 from by kernel_rfl]; rfl) H7.get.2 ?_
                  refine ⟨_, _, rfl, ?_⟩
                  first
                    | rw [show bI pt i j l.length = pt + ((l.length : Int) - ((j : Int) - i)) from by unfold bI; rw [if_pos (by omega)]]
                    | rw [show bI pt i j l.length = (i : Int) + l.length from by unfold bI; rw [if_neg (by omega), if_pos (by omega)]]
                    | rw [show bI pt i j l.length = pt from by unfold bI; rw [if_neg (by omega), if_neg (by omega)]]
                  first
                    | rw [show bJ mk i j l.length = mk + ((l.length : Int) - ((j : Int) - i)) from by unfold bJ; rw [if_pos (by omega)]]
                    | rw [show bJ mk i j l.length = (i : Int) from by unfold bJ; rw [if_neg (by omega), if_pos (by omega)]]
                    | rw [show bJ mk i j l.length = mk from by unfold bJ; rw [if_neg (by omega), if_neg (by omega)]]
                  refine (aB.kD (f := i + l.length) (t := i + l.length + 16 + (j - i)) (v := .slice ax (fA L i l.length).length cx) (xs := dH (fA L i l.length) i l) (by omega) (by rw [bM (by omega)]; omega) hL' (by omega) (by rw [bM (by omega)]; omega) (by omega) (by omega) ?_).d3.swap
                  rw [show ((i + l.length : Nat) : Int) = (i : Int) + l.length from by omega, show ((i + l.length + 16 + (j - i) : Nat) : Int) = ((i + l.length + 16 : Nat) : Int) + ((j : Int) - i) from by omega]
                  exact H7.right.right
              · (try simp only [aI] at h4)
                try (exfalso; first | contradiction | omega)
                all_goals
                  refine bC (aN rfl (bC (aN rfl (bC (aU (fZ rfl rfl) (iU rfl rfl (aV rfl (aA (aj (aP rfl (fun h => by exfalso; (try simp only [aI] at h); first | contradiction | omega | (simp at h <;> omega)) (fun h5 => ?_)))))))))))
                  (try simp only [aI] at h5)
                  refine ay (ah (aN rfl (aU (iZ underlying23 rfl) (aN rfl (aN rfl (aN rfl (aU (iW rfl rfl (by omega)) (aU (iW rfl rfl (by omega)) (aU (iW rfl rfl (by omega)) (aU (fZ rfl rfl) (aV rfl (aA (aj (aP rfl (fun h => by exfalso; (try simp only [aI] at h); first | contradiction | omega | (simp at h <;> omega)) (fun h6 => ?_)))))))))))))))
                  (try simp only [aI] at h6)
                  refine aT (aH (aj (ay (ah (aN rfl (aN rfl (dw rfl func121 (nJ HL.swap) ?_)))))))
                  rintro u w8 H8
                  obtain ⟨au, cu, hu, _⟩ := (H8.aO).form
                  subst hu
                  refine aN rfl (aN rfl (aU (oK underlying23 sizeOf21 rfl rfl rfl (by omega)) (dw rfl func59 (kS H8 (fun W HW => iV.cut HW.aO (i := i) (j := j) (by omega) (by omega)) (by simp; omega)) ?_)))
                  rintro d w9 H9
                  have HC := H9.swap.right
                  obtain ⟨ad, cd, hd, _⟩ := (HC.aO).form
                  subst hd
                  refine aN rfl (dw rfl func59 (kS HC hr.under.under.under (by omega)) ?_)
                  rintro s w10 qH
                  obtain ⟨ai, ci, hs, _⟩ := (qH.aO).form
                  subst hs
                  refine aU (fD (pl := #[(0, 1), (1, 1), (2, 1)]) (fK i (.slice ad ((L.drop i).take (j - i)).length cd) (.slice ai l.length ci)) underlying202 zeroValue202 (fun w => by kernel_rfl) rfl (by kernel_rfl)) (gq (uU qH zeroValue202) ?_)
                  rintro _ Hr ⟨b11, rfl, uQ⟩
                  refine aG (dD (cs := fK i (.slice ad ((L.drop i).take (j - i)).length cd) (.slice ai l.length ci)) uQ sizeOf202 rfl rfl rfl rfl (jO rfl rfl)) ?_
                  rintro _ w12 uf
                  refine aA (aj (ay (ah (aN rfl (aN rfl (aN rfl (aU (iZ underlying23 rfl) (dw rfl func171 (F6 uf.r4 (by omega) (by omega)) ?_))))))))
                  rintro _ NY ⟨x, xC⟩
                  obtain ⟨ax, cx, hx, _⟩ := (xC.swap.aO).form
                  subst hx
                  refine aA (aj (ay (ah (aN rfl (bP rfl (bg 3 underlying208 rfl sizeOf3 rfl (dO underlying3 rfl xC.get.2 rfl (aN rfl (aN rfl (aU (iW rfl rfl (by omega)) (aU (dS rfl rfl (by omega)) (bP rfl (bg 3 underlying208 rfl sizeOf3 rfl (aG (fC xC sizeOf3 rfl rfl rfl (by rw [iP]; decide)) ?_))))))))))))))
                  rintro _ NZ yB
                  rw [xR] at yB
                  have Zi := yB.get.2
                  refine aA (aj (ay ?_))
                  refine nD (n := 11) [0, 1, 2, 3, 4, 5, 6, 7, 8, 9, 10] (fun W => W.heap[p]? = some (.cells (dP (.slice ax (fA L i l.length).length cx) i ((i + l.length + 16 : Nat) + ((j : Int) - i)) pt mk) 208 (0, 0))) (by kernel_rfl) (by kernel_rfl) rfl ?_
                  have hS0 : (fun W => W.heap[p]? = some (.cells (dP (.slice ax (fA L i l.length).length cx) i ((i + l.length + 16 : Nat) + ((j : Int) - i)) pt mk) 208 (0, 0))) (NZ.drew) := Zi
                  have PX := yB.drew
                  refine gQ 0 rfl hS0 rfl (iQ 1 rfl hS0 rfl (dR 2 rfl hS0 1 underlying208 rfl sizeOf23 rfl (gY 3 rfl hS0 (fun W hW => iH underlying23 rfl hW rfl) (gQ 4 rfl hS0 rfl (iQ 5 rfl hS0 rfl (dR 6 rfl hS0 2 underlying208 rfl sizeOf3 rfl (gY 7 rfl hS0 (fun W hW => iH underlying3 rfl hW rfl) (iJ 8 rfl hS0 (fun _ => oK underlying23 sizeOf21 rfl rfl rfl (by omega)) (gQ 9 rfl hS0 rfl (jk 10 rfl (wB (i := i) (m := l) PX.swap (hr _ PX.right.right.right.right.right.right) underlying23 (by kernel_rfl) rfl rfl (by omega)) ?_))))))))))
                  rintro _ PY ⟨rfl, wC⟩
                  have HS := wC.swap
                  refine L6 (by kernel_rfl) ?_
                  refine nT (aj (ay (ah (aN rfl (bP rfl (bg 2 underlying208 rfl sizeOf3 rfl (dO underlying3 rfl HS.get.2 rfl (aN rfl (aU (iZ underlying23 rfl) (aU (dS rfl rfl (by omega)) (bP rfl (bg 2 underlying208 rfl sizeOf3 rfl (aG (fC HS sizeOf3 rfl rfl rfl (by rw [iP]; decide)) ?_)))))))))))))
                  rintro _ w16 qY
                  rw [uX] at qY
                  refine aA (aj (ay (bf (ay (ah (aN rfl (bP rfl (bg 4 underlying208 rfl sizeOf3 rfl (dO underlying3 rfl qY.get.2 rfl (aN rfl (aU (fZ rfl rfl) (aV rfl (aA (aj (aP rfl (fun h7 => ?_) (fun h7 => ?_))))))))))))))))
                  · (try simp only [aI] at h7)
                    try (exfalso; first | contradiction | omega)
                    all_goals
                      refine ah (aN rfl (bP rfl (bg 4 underlying208 rfl sizeOf3 rfl (dO underlying3 rfl qY.get.2 rfl (aN rfl (aU (iZ underlying23 rfl) (aN rfl (aN rfl (aU (iW rfl rfl (by omega)) (aU (iW rfl rfl (by omega)) (aU (dS rfl rfl (by omega)) (bP rfl (bg 4 underlying208 rfl sizeOf3 rfl (aG (fC qY sizeOf3 rfl rfl rfl (by rw [iP]; decide)) ?_))))))))))))))
                      rintro _ Tz yC
                      rw [sS] at yC
                      refine aA (aH (aj (ay (bf (ay (ah (aN rfl (bP rfl (bg 5 underlying208 rfl sizeOf3 rfl (dO underlying3 rfl yC.get.2 rfl (aN rfl (aU (fZ rfl rfl) (aV rfl (aA (aj (aP rfl (fun h8 => ?_) (fun h8 => ?_)))))))))))))))))
                      · (try simp only [aI] at h8)
                        try (exfalso; first | contradiction | omega)
                        all_goals
                          refine ah (aN rfl (bP rfl (bg 5 underlying208 rfl sizeOf3 rfl (dO underlying3 rfl yC.get.2 rfl (aN rfl (aU (iZ underlying23 rfl) (aN rfl (aN rfl (aU (iW rfl rfl (by omega)) (aU (iW rfl rfl (by omega)) (aU (dS rfl rfl (by omega)) (bP rfl (bg 5 underlying208 rfl sizeOf3 rfl (aG (fC yC sizeOf3 rfl rfl rfl (by rw [iP]; decide)) ?_))))))))))))))
                          rintro _ Sv zB
                          rw [kT] at zB
                          refine aA (aH (aj (ay ?_)))
                          have oV := zB.Hu
                          refine ah (aU (bQ underlying202 rfl sizeOf202 rfl rfl oV.get.2) (aG (dD (cs := fK i (.slice ad ((L.drop i).take (j - i)).length cd) (.slice ai l.length ci)) oV.r6 sizeOf202 rfl rfl rfl rfl (jO rfl rfl)) ?_))
                          rintro _ PZ uY
                          refine aV rfl (aA (aj (aJ ?_)))
                          refine fG (.inl rfl) results136 rfl rfl underlying202 rfl (by rw [show (prog.info? 202).map (·.size) = some 3 from by kernel_rfl]; rfl) uY.get.2 ?_
                          refine ⟨_, _, rfl, ?_⟩
                          first
                            | rw [show bI pt i j l.length = pt + ((l.length : Int) - ((j : Int) - i)) from by unfold bI; rw [if_pos (by omega)]]
                            | rw [show bI pt i j l.length = (i : Int) + l.length from by unfold bI; rw [if_neg (by omega), if_pos (by omega)]]
                            | rw [show bI pt i j l.length = pt from by unfold bI; rw [if_neg (by omega), if_neg (by omega)]]
                          first
                            | rw [show bJ mk i j l.length = mk + ((l.length : Int) - ((j : Int) - i)) from by unfold bJ; rw [if_pos (by omega)]]
                            | rw [show bJ mk i j l.length = (i : Int) from by unfold bJ; rw [if_neg (by omega), if_pos (by omega)]]
                            | rw [show bJ mk i j l.length = mk from by unfold bJ; rw [if_neg (by omega), if_neg (by omega)]]
                          refine (aB.kD (f := i + l.length) (t := i + l.length + 16 + (j - i)) (v := .slice ax (fA L i l.length).length cx) (xs := dH (fA L i l.length) i l) (by omega) (by rw [bM (by omega)]; omega) hL' (by omega) (by rw [bM (by omega)]; omega) (by omega) (by omega) ?_).d3.swap
                          rw [show ((i + l.length : Nat) : Int) = (i : Int) + l.length from by omega, show ((i + l.length + 16 + (j - i) : Nat) : Int) = ((i + l.length + 16 : Nat) : Int) + ((j : Int) - i) from by omega]
                          exact uY.right.right
                      · (try simp only [aI] at h8)
                        try (exfalso; first | contradiction | omega)
                        all_goals
                          refine ay (ah (aN rfl (bP rfl (bg 5 underlying208 rfl sizeOf3 rfl (dO underlying3 rfl yC.get.2 rfl (aN rfl (aU (fZ rfl rfl) (aV rfl (aA (aj (aP rfl (fun h9 => ?_) (fun h9 => ?_))))))))))))
                          · (try simp only [aI] at h9)
                            try (exfalso; first | contradiction | omega)
                            all_goals
                              refine ah (aN rfl (aN rfl (bP rfl (bg 5 underlying208 rfl sizeOf3 rfl (aG (fC yC sizeOf3 rfl rfl rfl (by rw [iP]; decide)) ?_)))))
                              rintro _ Sz yD
                              rw [kT] at yD
                              refine aA (aH (aj (ay ?_)))
                              have oV := yD.Hu
                              refine ah (aU (bQ underlying202 rfl sizeOf202 rfl rfl oV.get.2) (aG (dD (cs := fK i (.slice ad ((L.drop i).take (j - i)).length cd) (.slice ai l.length ci)) oV.r6 sizeOf202 rfl rfl rfl rfl (jO rfl rfl)) ?_))
                              rintro _ TA oV
                              refine aV rfl (aA (aj (aJ ?_)))
                              refine fG (.inl rfl) results136 rfl rfl underlying202 rfl (by rw [show (prog.info? 202).map (·.size) = some 3 from by kernel_rfl]; rfl) oV.get.2 ?_
                              refine ⟨_, _, rfl, ?_⟩
                              first
                                | rw [show bI pt i j l.length = pt + ((l.length : Int) - ((j : Int) - i)) from by unfold bI; rw [if_pos (by omega)]]
                                | rw [show bI pt i j l.length = (i : Int) + l.length from by unfold bI; rw [if_neg (by omega), if_pos (by omega)]]
                                | rw [show bI pt i j l.length = pt from by unfold bI; rw [if_neg (by omega), if_neg (by omega)]]
                              first
                                | rw [show bJ mk i j l.length = mk + ((l.length : Int) - ((j : Int) - i)) from by unfold bJ; rw [if_pos (by omega)]]
                                | rw [show bJ mk i j l.length = (i : Int) from by unfold bJ; rw [if_neg (by omega), if_pos (by omega)]]
                                | rw [show bJ mk i j l.length = mk from by unfold bJ; rw [if_neg (by omega), if_neg (by omega)]]
                              refine (aB.kD (f := i + l.length) (t := i + l.length + 16 + (j - i)) (v := .slice ax (fA L i l.length).length cx) (xs := dH (fA L i l.length) i l) (by omega) (by rw [bM (by omega)]; omega) hL' (by omega) (by rw [bM (by omega)]; omega) (by omega) (by omega) ?_).d3.swap
                              rw [show ((i + l.length : Nat) : Int) = (i : Int) + l.length from by omega, show ((i + l.length + 16 + (j - i) : Nat) : Int) = ((i + l.length + 16 : Nat) : Int) + ((j : Int) - i) from by omega]
                              exact oV.right.right
                          · (try simp only [aI] at h9)
                            try (exfalso; first | contradiction | omega)
                            all_goals
                              refine aT (aH (aj (ay ?_)))
                              have oV := yC.Hu
                              refine ah (aU (bQ underlying202 rfl sizeOf202 rfl rfl oV.get.2) (aG (dD (cs := fK i (.slice ad ((L.drop i).take (j - i)).length cd) (.slice ai l.length ci)) oV.r6 sizeOf202 rfl rfl rfl rfl (jO rfl rfl)) ?_))
                              rintro _ Xf JX
                              refine aV rfl (aA (aj (aJ ?_)))
                              refine fG (.inl rfl) results136 rfl rfl underlying202 rfl (by rw [show (prog.info? 202).map (·.size) = some 3 from by kernel_rfl]; rfl) JX.get.2 ?_
                              refine ⟨_, _, rfl, ?_⟩
                              first
                                | rw [show bI pt i j l.length = pt + ((l.length : Int) - ((j : Int) - i)) from by unfold bI; rw [if_pos (by omega)]]
                                | rw [show bI pt i j l.length = (i : Int) + l.length from by unfold bI; rw [if_neg (by omega), if_pos (by omega)]]
                                | rw [show bI pt i j l.length = pt from by unfold bI; rw [if_neg (by omega), if_neg (by omega)]]
                              first
                                | rw [show bJ mk i j l.length = mk + ((l.length : Int) - ((j : Int) - i)) from by unfold bJ; rw [if_pos (by omega)]]
                                | rw [show bJ mk i j l.length = (i : Int) from by unfold bJ; rw [if_neg (by omega), if_pos (by omega)]]
                                | rw [show bJ mk i j l.length = mk from by unfold bJ; rw [if_neg (by omega), if_neg (by omega)]]
                              refine (aB.kD (f := i + l.length) (t := i + l.length + 16 + (j - i)) (v := .slice ax (fA L i l.length).length cx) (xs := dH (fA L i l.length) i l) (by omega) (by rw [bM (by omega)]; omega) hL' (by omega) (by rw [bM (by omega)]; omega) (by omega) (by omega) ?_).d3.swap
                              rw [show ((i + l.length : Nat) : Int) = (i : Int) + l.length from by omega, show ((i + l.length + 16 + (j - i) : Nat) : Int) = ((i + l.length + 16 : Nat) : Int) + ((j : Int) - i) from by omega]
                              exact JX.right.right
                  · (try simp only [aI] at h7)
                    try (exfalso; first | contradiction | omega)
                    all_goals
                      refine ay (ah (aN rfl (bP rfl (bg 4 underlying208 rfl sizeOf3 rfl (dO underlying3 rfl qY.get.2 rfl (aN rfl (aU (vY rfl rfl) (aV rfl (aA (aj (aP rfl (fun h10 => ?_) (fun h10 => ?_))))))))))))
                      · (try simp only [aI] at h10)
                        try (exfalso; first | contradiction | omega)
                        all_goals
                          refine ah (aN rfl (aN rfl (aN rfl (aU (iZ underlying23 rfl) (aU (dS rfl rfl (by omega)) (bP rfl (bg 4 underlying208 rfl sizeOf3 rfl (aG (fC qY sizeOf3 rfl rfl rfl (by rw [iP]; decide)) ?_))))))))
                          rintro _ O7 rV
                          rw [sS] at rV
                          refine aA (aH (aj (ay (bf (ay (ah (aN rfl (bP rfl (bg 5 underlying208 rfl sizeOf3 rfl (dO underlying3 rfl rV.get.2 rfl (aN rfl (aU (fZ rfl rfl) (aV rfl (aA (aj (aP rfl (fun h11 => ?_) (fun h11 => ?_)))))))))))))))))
                          · (try simp only [aI] at h11)
                            try (exfalso; first | contradiction | omega)
                            all_goals
                              refine ah (aN rfl (bP rfl (bg 5 underlying208 rfl sizeOf3 rfl (dO underlying3 rfl rV.get.2 rfl (aN rfl (aU (iZ underlying23 rfl) (aN rfl (aN rfl (aU (iW rfl rfl (by omega)) (aU (iW rfl rfl (by omega)) (aU (dS rfl rfl (by omega)) (bP rfl (bg 5 underlying208 rfl sizeOf3 rfl (aG (fC rV sizeOf3 rfl rfl rfl (by rw [iP]; decide)) ?_))))))))))))))
                              rintro _ YN SA
                              rw [kT] at SA
                              refine aA (aH (aj (ay ?_)))
                              have oV := SA.Hu
                              refine ah (aU (bQ underlying202 rfl sizeOf202 rfl rfl oV.get.2) (aG (dD (cs := fK i (.slice ad ((L.drop i).take (j - i)).length cd) (.slice ai l.length ci)) oV.r6 sizeOf202 rfl rfl rfl rfl (jO rfl rfl)) ?_))
                              rintro _ Xg IC
                              refine aV rfl (aA (aj (aJ ?_)))
                              refine fG (.inl rfl) results136 rfl rfl underlying202 rfl (by rw [show (prog.info? 202).map (·.size) = some 3 from by kernel_rfl]; rfl) IC.get.2 ?_
                              refine ⟨_, _, rfl, ?_⟩
                              first
                                | rw [show bI pt i j l.length = pt + ((l.length : Int) - ((j : Int) - i)) from by unfold bI; rw [if_pos (by omega)]]
                                | rw [show bI pt i j l.length = (i : Int) + l.length from by unfold bI; rw [if_neg (by omega), if_pos (by omega)]]
                                | rw [show bI pt i j l.length = pt from by unfold bI; rw [if_neg (by omega), if_neg (by omega)]]
                              first
                                | rw [show bJ mk i j l.length = mk + ((l.length : Int) - ((j : Int) - i)) from by unfold bJ; rw [if_pos (by omega)]]
                                | rw [show bJ mk i j l.length = (i : Int) from by unfold bJ; rw [if_neg (by omega), if_pos (by omega)]]
                                | rw [show bJ mk i j l.length = mk from by unfold bJ; rw [if_neg (by omega), if_neg (by omega)]]
                              refine (aB.kD (f := i + l.length) (t := i + l.length + 16 + (j - i)) (v := .slice ax (fA L i l.length).length cx) (xs := dH (fA L i l.length) i l) (by omega) (by rw [bM (by omega)]; omega) hL' (by omega) (by rw [bM (by omega)]; omega) (by omega) (by omega) ?_).d3.swap
                              rw [show ((i + l.length : Nat) : Int) = (i : Int) + l.length from by omega, show ((i + l.length + 16 + (j - i) : Nat) : Int) = ((i + l.length + 16 : Nat) : Int) + ((j : Int) - i) from by omega]
                              exact IC.right.right
                          · (try simp only [aI] at h11)
                            try (exfalso; first | contradiction | omega)
                            all_goals
                              refine ay (ah (aN rfl (bP rfl (bg 5 underlying208 rfl sizeOf3 rfl (dO underlying3 rfl rV.get.2 rfl (aN rfl (aU (fZ rfl rfl) (aV rfl (aA (aj (aP rfl (fun h12 => ?_) (fun h12 => ?_))))))))))))
                              · (try simp only [aI] at h12)
                                try (exfalso; first | contradiction | omega)
                                all_goals
                                  refine ah (aN rfl (aN rfl (bP rfl (bg 5 underlying208 rfl sizeOf3 rfl (aG (fC rV sizeOf3 rfl rfl rfl (by rw [iP]; decide)) ?_)))))
                                  rintro _ YO Me
                                  rw [kT] at Me
                                  refine aA (aH (aj (ay ?_)))
                                  have oV := Me.Hu
                                  refine ah (aU (bQ underlying202 rfl sizeOf202 rfl rfl oV.get.2) (aG (dD (cs := fK i (.slice ad ((L.drop i).take (j - i)).length cd) (.slice ai l.length ci)) oV.r6 sizeOf202 rfl rfl rfl rfl (jO rfl rfl)) ?_))
                                  rintro _ YP Ht
                                  refine aV rfl (aA (aj (aJ ?_)))
                                  refine fG (.inl rfl) results136 rfl rfl underlying202 rfl (by rw [show (prog.info? 202).map (·.size) = some 3 from by kernel_rfl]; rfl) Ht.get.2 ?_
                                  refine ⟨_, _, rfl, ?_⟩
                                  first
                                    | rw [show bI pt i j l.length = pt + ((l.length : Int) - ((j : Int) - i)) from by unfold bI; rw [if_pos (by omega)]]
                                    | rw [show bI pt i j l.length = (i : Int) + l.length from by unfold bI; rw [if_neg (by omega), if_pos (by omega)]]
                                    | rw [show bI pt i j l.length = pt from by unfold bI; rw [if_neg (by omega), if_neg (by omega)]]
                                  first
                                    | rw [show bJ mk i j l.length = mk + ((l.length : Int) - ((j : Int) - i)) from by unfold bJ; rw [if_pos (by omega)]]
                                    | rw [show bJ mk i j l.length = (i : Int) from by unfold bJ; rw [if_neg (by omega), if_pos (by omega)]]
                                    | rw [show bJ mk i j l.length = mk from by unfold bJ; rw [if_neg (by omega), if_neg (by omega)]]
                                  refine (aB.kD (f := i + l.length) (t := i + l.length + 16 + (j - i)) (v := .slice ax (fA L i l.length).length cx) (xs := dH (fA L i l.length) i l) (by omega) (by rw [bM (by omega)]; omega) hL' (by omega) (by rw [bM (by omega)]; omega) (by omega) (by omega) ?_).d3.swap
                                  rw [show ((i + l.length : Nat) : Int) = (i : Int) + l.length from by omega, show ((i + l.length + 16 + (j - i) : Nat) : Int) = ((i + l.length + 16 : Nat) : Int) + ((j : Int) - i) from by omega]
                                  exact Ht.right.right
                              · (try simp only [aI] at h12)
                                try (exfalso; first | contradiction | omega)
                                all_goals
                                  refine aT (aH (aj (ay ?_)))
                                  have oV := rV.Hu
                                  refine ah (aU (bQ underlying202 rfl sizeOf202 rfl rfl oV.get.2) (aG (dD (cs := fK i (.slice ad ((L.drop i).take (j - i)).length cd) (.slice ai l.length ci)) oV.r6 sizeOf202 rfl rfl rfl rfl (jO rfl rfl)) ?_))
                                  rintro _ YQ SB
                                  refine aV rfl (aA (aj (aJ ?_)))
                                  refine fG (.inl rfl) results136 rfl rfl underlying202 rfl (by rw [show (prog.info? 202).map (·.size) = some 3 from by kernel_rfl]; rfl) SB.get.2 ?_
                                  refine ⟨_, _, rfl, ?_⟩
                                  first
                                    | rw [show bI pt i j l.length = pt + ((l.length : Int) - ((j : Int) - i)) from by unfold bI; rw [if_pos (by omega)]]
                                    | rw [show bI pt i j l.length = (i : Int) + l.length from by unfold bI; rw [if_neg (by omega), if_pos (by omega)]]
                                    | rw [show bI pt i j l.length = pt from by unfold bI; rw [if_neg (by omega), if_neg (by omega)]]
                                  first
                                    | rw [show bJ mk i j l.length = mk + ((l.length : Int) - ((j : Int) - i)) from by unfold bJ; rw [if_pos (by omega)]]
                                    | rw [show bJ mk i j l.length = (i : Int) from by unfold bJ; rw [if_neg (by omega), if_pos (by omega)]]
                                    | rw [show bJ mk i j l.length = mk from by unfold bJ; rw [if_neg (by omega), if_neg (by omega)]]
                                  refine (aB.kD (f := i + l.length) (t := i + l.length + 16 + (j - i)) (v := .slice ax (fA L i l.length).length cx) (xs := dH (fA L i l.length) i l) (by omega) (by rw [bM (by omega)]; omega) hL' (by omega) (by rw [bM (by omega)]; omega) (by omega) (by omega) ?_).d3.swap
                                  rw [show ((i + l.length : Nat) : Int) = (i : Int) + l.length from by omega, show ((i + l.length + 16 + (j - i) : Nat) : Int) = ((i + l.length + 16 : Nat) : Int) + ((j : Int) - i) from by omega]
                                  exact SB.right.right
                      · (try simp only [aI] at h10)
                        try (exfalso; first | contradiction | omega)
                        all_goals
                          refine aT (aH (aj (ay (bf (ay (ah (aN rfl (bP rfl (bg 5 underlying208 rfl sizeOf3 rfl (dO underlying3 rfl qY.get.2 rfl (aN rfl (aU (fZ rfl rfl) (aV rfl (aA (aj (aP rfl (fun h13 => ?_) (fun h13 => ?_)))))))))))))))))
                          · (try simp only [aI] at h13)
                            try (exfalso; first | contradiction | omega)
                            all_goals
                              refine ah (aN rfl (bP rfl (bg 5 underlying208 rfl sizeOf3 rfl (dO underlying3 rfl qY.get.2 rfl (aN rfl (aU (iZ underlying23 rfl) (aN rfl (aN rfl (aU (iW rfl rfl (by omega)) (aU (iW rfl rfl (by omega)) (aU (dS rfl rfl (by omega)) (bP rfl (bg 5 underlying208 rfl sizeOf3 rfl (aG (fC qY sizeOf3 rfl rfl rfl (by rw [iP]; decide)) ?_))))))))))))))
                              rintro _ Zj N7
                              rw [kT] at N7
                              refine aA (aH (aj (ay ?_)))
                              have oV := N7.Hu
                              refine ah (aU (bQ underlying202 rfl sizeOf202 rfl rfl oV.get.2) (aG (dD (cs := fK i (.slice ad ((L.drop i).take (j - i)).length cd) (.slice ai l.length ci)) oV.r6 sizeOf202 rfl rfl rfl rfl (jO rfl rfl)) ?_))
                              rintro _ YR JY
                              refine aV rfl (aA (aj (aJ ?_)))
                              refine fG (.inl rfl) results136 rfl rfl underlying202 rfl (by rw [show (prog.info? 202).map (·.size) = some 3 from by kernel_rfl]; rfl) JY.get.2 ?_
                              refine ⟨_, _, rfl, ?_⟩
                              first
                                | rw [show bI pt i j l.length = pt + ((l.length : Int) - ((j : Int) - i)) from by unfold bI; rw [if_pos (by omega)]]
                                | rw [show bI pt i j l.length = (i : Int) + l.length from by unfold bI; rw [if_neg (by omega), if_pos (by omega)]]
                                | rw [show bI pt i j l.length = pt from by unfold bI; rw [if_neg (by omega), if_neg (by omega)]]
                              first
                                | rw [show bJ mk i j l.length = mk + ((l.length : Int) - ((j : Int) - i)) from by unfold bJ; rw [if_pos (by omega)]]
                                | rw [show bJ mk i j l.length = (i : Int) from by unfold bJ; rw [if_neg (by omega), if_pos (by omega)]]
                                | rw [show bJ mk i j l.length = mk from by unfold bJ; rw [if_neg (by omega), if_neg (by omega)]]
                              refine (aB.kD (f := i + l.length) (t := i + l.length + 16 + (j - i)) (v := .slice ax (fA L i l.length).length cx) (xs := dH (fA L i l.length) i l) (by omega) (by rw [bM (by omega)]; omega) hL' (by omega) (by rw [bM (by omega)]; omega) (by omega) (by omega) ?_).d3.swap
                              rw [show ((i + l.length : Nat) : Int) = (i : Int) + l.length from by omega, show ((i + l.length + 16 + (j - i) : Nat) : Int) = ((i + l.length + 16 : Nat) : Int) + ((j : Int) - i) from by omega]
                              exact JY.right.right
                          · (try simp only [aI] at h13)
                            try (exfalso; first | contradiction | omega)
                            all_goals
                              refine ay (ah (aN rfl (bP rfl (bg 5 underlying208 rfl sizeOf3 rfl (dO underlying3 rfl qY.get.2 rfl (aN rfl (aU (fZ rfl rfl) (aV rfl (aA (aj (aP rfl (fun h14 => ?_) (fun h14 => ?_))))))))))))
                              · (try simp only [aI] at h14)
                                try (exfalso; first | contradiction | omega)
                                all_goals
                                  refine ah (aN rfl (aN rfl (bP rfl (bg 5 underlying208 rfl sizeOf3 rfl (aG (fC qY sizeOf3 rfl rfl rfl (by rw [iP]; decide)) ?_)))))
                                  rintro _ Wq JZ
                                  rw [kT] at JZ
                                  refine aA (aH (aj (ay ?_)))
                                  have oV := JZ.Hu
                                  refine ah (aU (bQ underlying202 rfl sizeOf202 rfl rfl oV.get.2) (aG (dD (cs := fK i (.slice ad ((L.drop i).take (j - i)).length cd) (.slice ai l.length ci)) oV.r6 sizeOf202 rfl rfl rfl rfl (jO rfl rfl)) ?_))
                                  rintro _ w32 Et
                                  refine aV rfl (aA (aj (aJ ?_)))
                                  refine fG (.inl rfl) results136 rfl rfl underlying202 rfl (by rw [show (prog.info? 202).map (·.size) = some 3 from by kernel_rfl]; rfl) Et.get.2 ?_
                                  refine ⟨_, _, rfl, ?_⟩
                                  first
                                    | rw [show bI pt i j l.length = pt + ((l.length : Int) - ((j : Int) - i)) from by unfold bI; rw [if_pos (by omega)]]
                                    | rw [show bI pt i j l.length = (i : Int) + l.length from by unfold bI; rw [if_neg (by omega), if_pos (by omega)]]
                                    | rw [show bI pt i j l.length = pt from by unfold bI; rw [if_neg (by omega), if_neg (by omega)]]
                                  first
                                    | rw [show bJ mk i j l.length = mk + ((l.length : Int) - ((j : Int) - i)) from by unfold bJ; rw [if_pos (by omega)]]
                                    | rw [show bJ mk i j l.length = (i : Int) from by unfold bJ; rw [if_neg (by omega), if_pos (by omega)]]
                                    | rw [show bJ mk i j l.length = mk from by unfold bJ; rw [if_neg (by omega), if_neg (by omega)]]
                                  refine (aB.kD (f := i + l.length) (t := i + l.length + 16 + (j - i)) (v := .slice ax (fA L i l.length).length cx) (xs := dH (fA L i l.length) i l) (by omega) (by rw [bM (by omega)]; omega) hL' (by omega) (by rw [bM (by omega)]; omega) (by omega) (by omega) ?_).d3.swap
                                  rw [show ((i + l.length : Nat) : Int) = (i : Int) + l.length from by omega, show ((i + l.length + 16 + (j - i) : Nat) : Int) = ((i + l.length + 16 : Nat) : Int) + ((j : Int) - i) from by omega]
                                  exact Et.right.right
                              · (try simp only [aI] at h14)
                                try (exfalso; first | contradiction | omega)
                                all_goals
                                  refine aT (aH (aj (ay ?_)))
                                  have oV := qY.Hu
                                  refine ah (aU (bQ underlying202 rfl sizeOf202 rfl rfl oV.get.2) (aG (dD (cs := fK i (.slice ad ((L.drop i).take (j - i)).length cd) (.slice ai l.length ci)) oV.r6 sizeOf202 rfl rfl rfl rfl (jO rfl rfl)) ?_))
                                  rintro _ YS Kw
                                  refine aV rfl (aA (aj (aJ ?_)))
                                  refine fG (.inl rfl) results136 rfl rfl underlying202 rfl (by rw [show (prog.info? 202).map (·.size) = some 3 from by kernel_rfl]; rfl) Kw.get.2 ?_
                                  refine ⟨_, _, rfl, ?_⟩
                                  first
                                    | rw [show bI pt i j l.length = pt + ((l.length : Int) - ((j : Int) - i)) from by unfold bI; rw [if_pos (by omega)]]
                                    | rw [show bI pt i j l.length = (i : Int) + l.length from by unfold bI; rw [if_neg (by omega), if_pos (by omega)]]
                                    | rw [show bI pt i j l.length = pt from by unfold bI; rw [if_neg (by omega), if_neg (by omega)]]
                                  first
                                    | rw [show bJ mk i j l.length = mk + ((l.length : Int) - ((j : Int) - i)) from by unfold bJ; rw [if_pos (by omega)]]
                                    | rw [show bJ mk i j l.length = (i : Int) from by unfold bJ; rw [if_neg (by omega), if_pos (by omega)]]
                                    | rw [show bJ mk i j l.length = mk from by unfold bJ; rw [if_neg (by omega), if_neg (by omega)]]
                                  refine (aB.kD (f := i + l.length) (t := i + l.length + 16 + (j - i)) (v := .slice ax (fA L i l.length).length cx) (xs := dH (fA L i l.length) i l) (by omega) (by rw [bM (by omega)]; omega) hL' (by omega) (by rw [bM (by omega)]; omega) (by omega) (by omega) ?_).d3.swap
                                  rw [show ((i + l.length : Nat) : Int) = (i : Int) + l.length from by omega, show ((i + l.length + 16 + (j - i) : Nat) : Int) = ((i + l.length + 16 : Nat) : Int) + ((j : Int) - i) from by omega]
                                  exact Kw.right.right
end
end Go.Proofs.YtddekefihgejoaaGreatDoor
end
section
namespace Go.Proofs.YtddekefihgejoaaGreatDoor
open Go.RowKit
open _root_.Go.Proofs.Tryz
def UF (n : Nat) (pt x : Int) : Int := if 0 ≤ x ∧ x ≤ n then x else pt
def Xh (n : Nat) (x : Int) : Int := if 0 ≤ x ∧ x ≤ n then 0 else 70
def lU (v : Value) (pt mk : Int) : Array Value := #[v, .int .i64 pt, .int .i64 mk]
theorem N8 {v : Value} {pt mk : Int} (h : v.oneCell' = true) : ∀ u ∈ (lU v pt mk).toList, u.oneCell' = true := by
  intro u hu
  simp [lU] at hu
  rcases hu with rfl | rfl | rfl
  · exact h
  · rfl
  · rfl
section
variable {w0 w : World} {F : HP} {p : Nat} {L : List Int} {pt mk x : Int} {v : Value} {l : List Int}
theorem F7 (H : aB w0 w (dI p L pt mk • F)) : fE prog 90 #[.pointer (some ⟨p, 0, none⟩), .int .i64 x] w fun v w' => v = .int .i64 (Xh L.length x) ∧ aB w0 w' (dI p L (UF L.length pt x) mk • F) := by
 refine gy func90 ntmps90 ?_
 dsimp only [aY, Nat.reduceAdd]
 refine ay (ah (aV rfl (aA (aj (ay (bf (ay (ah (aN rfl (dw rfl func139 (nK H) ?_))))))))))
 rintro _ _ ⟨rfl, rfl⟩
 refine aV rfl (aA (aj (aP rfl (fun h1 => ?_) (fun h1 => ?_))))
 ·(try simp only [aI] at h1)
  exfalso; first | contradiction | omega
 ·(try simp only [aI] at h1)
  try (exfalso; first | contradiction | omega)
  all_goals
   refine ay (ah (aN rfl (aU (eu rfl rfl) (jy rfl (fun h2 => ?_) (fun h2 => ?_)))))
   ·(try simp only [aI] at h2)
    try (exfalso; first | contradiction | omega)
    all_goals
     refine bF (bF (bF (bF (jw rfl rfl (aV rfl (aA (aj (xg (ay (ah (aV rfl (aA (aj (aJ (aX (aK (aQ (.inl rfl) results90 rfl ?_)))))))))))))))))
     exact ⟨by rw [Xh, if_neg (by omega)], by rw [UF, if_neg (by omega)]; exact H⟩
   ·(try simp only [aI] at h2)
    try (exfalso; first | contradiction | omega)
    all_goals
     refine bC (aN rfl (bC (aN rfl (bC (dw rfl func140 (rU H) ?_)))))
     rintro _ w2 ⟨rfl, hD⟩
     have HL := H.Aj hD
     refine bC (aU (fZ rfl rfl) (iU rfl rfl (aV rfl (aA (aj (aP rfl (fun h3 => ?_) (fun h3 => ?_)))))))
     ·(try simp only [aI] at h3)
      try (exfalso; first | contradiction | omega)
      all_goals
       refine ay (ah (aV rfl (aA (aj (aJ (aX (aK (aQ (.inl rfl) results90 rfl ?_))))))))
       exact ⟨by rw [Xh, if_neg (by omega)], by rw [UF, if_neg (by omega)]; exact HL⟩
     ·(try simp only [aI] at h3)
      try (exfalso; first | contradiction | omega)
      all_goals
       refine aT (aH (aj (ay ?_)))
       obtain ⟨a, c, xs, f, t, h11, h12, h13, h14, h15, h16, h17, hc1, hc2, hl, HB⟩ := HL.buf
       refine ah (aN rfl (aN rfl (bP rfl (bg 4 underlying208 rfl sizeOf3 rfl (aG (fC HB sizeOf3 rfl rfl rfl (by rw [iP]; decide)) ?_)))))
       rintro _ w3 H3
       rw [sS] at H3
       refine aA (aj (ay (ah (aV rfl (aA (aj (aJ (aQ (.inl rfl) results90 rfl ?_))))))))
       exact ⟨by rw [Xh, if_pos (by omega)], by rw [UF, if_pos (by omega)]; exact aB.kD h11 h12 h13 h14 h15 (by omega) h17 H3⟩
theorem yQ (H : aB w0 w (dI p L pt mk • F)) : fE prog 74 #[.pointer (some ⟨p, 0, none⟩)] w fun v' w' => ∃ u, v' = .agg (lU u pt mk) ∧ aB w0 w' (gZ 21 .i32 u L • dI p L pt mk • F) := by
 refine gy func74 ntmps74 ?_
 dsimp only [aY, Nat.reduceAdd]
 refine ay (ah (gq (uU H zeroValue41) ?_))
 rintro _ w1 ⟨b1, rfl, H1⟩
 refine aA (aj (ay (ah (aN rfl (dw rfl func121 (nJ H1.swap) ?_)))))
 rintro u w2 H2
 obtain ⟨au, cu, hu, _⟩ := (H2.aO).form
 subst hu
 refine aN rfl (dw rfl func89 (sU H2.swap) ?_)
 rintro _ _ ⟨rfl, rfl⟩
 refine aN rfl (dw rfl func122 (F5 H2.swap) ?_)
 rintro _ _ ⟨rfl, rfl⟩
 refine aU (fD (pl := #[(0, 1), (1, 1), (2, 1)]) (lU (.slice au L.length cu) pt mk) underlying41 zeroValue41 (fun w => by kernel_rfl) rfl (by kernel_rfl)) (aG (dD (cs := lU (.slice au L.length cu) pt mk) H2.Hu sizeOf41 rfl rfl rfl rfl (N8 rfl)) ?_)
 rintro _ w5 H5
 refine aA (aj (aJ ?_))
 refine Ti (.inl rfl) results74 rfl underlying41 rfl (by rw [show (prog.info? 41).map (·.size) = some 3 from by kernel_rfl]; rfl) H5.get.2 ?_
 exact ⟨_, rfl, H5.right⟩
end
end Go.Proofs.YtddekefihgejoaaGreatDoor
end
section
namespace Go.Proofs.YtddekefihgejoaaGreatDoor
open Go.RowKit
def P5 (g : Int → Bool) (l : List Int) (at_ : Nat) : Nat := at_ + ((l.drop at_).takeWhile g).length
def P6 (g : Int → Bool) (l : List Int) (at_ : Nat) : Nat := at_ - ((l.take at_).reverse.takeWhile g).length
def yR (n : Nat) (x : Int) : Nat := (min (max x 0) n).toNat
section
variable {w0 w : World} {F G : HP} {v fv : Value} {l : List Int} {g : Int → Bool}
def Xi (l : List Int) (x : Int) : Nat := P5 BO l (P5 (fun r => !BO r) l (yR l.length x))
def Vo (l : List Int) (x : Int) : Nat := P6 BO l (P6 (fun r => !BO r) l (yR l.length x))
def MB (r : Int) : Bool := decide (PD r ≠ 0) || Ik r
def abb (l : List Int) (x : Int) : Nat := if yR l.length x < l.length then P5 (fun r => !MB r) l (yR l.length x + 1) else l.length
def abd (l : List Int) (x : Int) : Nat := P6 (fun r => !MB r) l (yR l.length x) - 1
end
end Go.Proofs.YtddekefihgejoaaGreatDoor
end
section
namespace Go.Proofs.YtddekefihgejoaaGreatDoor
open Go.RowKit
section
variable {w0 w : World} {F : HP} {p : Nat} {L : List Int} {pt mk : Int} {v : Value} {l : List Int}
end
end Go.Proofs.YtddekefihgejoaaGreatDoor
end
section
namespace Go.Proofs.YtddekefihgejoaaGreatDoor
open Go.RowKit
end Go.Proofs.YtddekefihgejoaaGreatDoor
end
section
namespace Go.Proofs.YtddekefihgejoaaGreatDoor
open Go.RowKit
section
variable {w0 w : World} {F : HP} {p : Nat} {L : List Int} {pt mk a : Int} {d i : Value} {dl il : List Int}
end
end Go.Proofs.YtddekefihgejoaaGreatDoor
end
section
namespace Go.Proofs.YtddekefihgejoaaGreatDoor
open Go.RowKit
open _root_.Go.Proofs.Tryz
def kE (L : List Int) (i j : Int) (l : List Int) : Int := if i < 0 ∨ L.length < i ∨ j < i ∨ L.length < j then 70 else if 1024 < L.length - (j - i) + l.length then 3 else 0
def pK (L : List Int) (i j : Int) (l : List Int) : List Int := if kE L i j l = 0 then L.take i.toNat ++ l ++ L.drop j.toNat else L
def pO (L : List Int) (pt i j : Int) (l : List Int) : Int := if kE L i j l = 0 then bI pt i j l.length else pt
def pR (L : List Int) (mk i j : Int) (l : List Int) : Int := if kE L i j l = 0 then bJ mk i j l.length else mk
def oW (L : List Int) (i j : Int) (l : List Int) : Int := if kE L i j l = 0 then i else 0
def jT (L : List Int) (i j : Int) (l : List Int) : List Int := if kE L i j l = 0 then (L.drop i.toNat).take (j - i).toNat else []
def jU (L : List Int) (i j : Int) (l : List Int) : List Int := if kE L i j l = 0 then l else []
section
variable {w0 w : World} {F : HP} {p : Nat} {L : List Int} {pt mk : Int} {v d s : Value} {l dl il : List Int} {i j a x : Int}
theorem Bz (H : aB w0 w (dI p L pt mk • F)) (hr : iT w0 F .i32 v l) :
    fE prog 136 #[.pointer (some ⟨p, 0, none⟩), .int .i64 i, .int .i64 j, v] w fun v' w' => ∃ d s, v' = .tuple #[.agg #[.int .i64 (oW L i j l), d, s], .int .i64 (kE L i j l)] ∧
      aB w0 w' (gZ 21 .i32 d (jT L i j l) • gZ 21 .i32 s (jU L i j l) • dI p (pK L i j l) (pO L pt i j l) (pR L mk i j l) • F) := by
  unfold oW pK pO pR jT jU
  by_cases h1 : i < 0 ∨ L.length < i ∨ j < i ∨ L.length < j
  · have e : kE L i j l = 70 := by unfold kE; rw [if_pos h1]
    simp only [e, show ¬ (70 : Int) = 0 from by decide, if_false]
    exact (Bv H hr h1).mono fun v' w' h => ⟨_, _, h.1, (h.2.yM none).yM none⟩
  · have h2 : 0 ≤ i ∧ i ≤ j ∧ j ≤ L.length := by omega
    by_cases h3 : 1024 < L.length - (j - i) + l.length
    · have e : kE L i j l = 3 := by unfold kE; rw [if_neg h1, if_pos h3]
      simp only [e, show ¬ (3 : Int) = 0 from by decide, if_false]
      exact (zL H hr h2 h3).mono fun v' w' h => ⟨_, _, h.1, (h.2.yM none).yM none⟩
    · have e : kE L i j l = 0 := by unfold kE; rw [if_neg h1, if_neg h3]
      simp only [e, if_true]
      obtain ⟨i', rfl⟩ := Int.eq_ofNat_of_zero_le h2.1
      obtain ⟨j', rfl⟩ := Int.eq_ofNat_of_zero_le (show 0 ≤ j by omega)
      have hij : i' ≤ j' ∧ j' ≤ L.length := by omega
      have := Dk (i := i') (j := j') H hr hij (by omega)
      simpa only [Int.toNat_natCast, show ((j' : Int) - (i' : Int)).toNat = j' - i' from by omega, fK] using this
def smE (L : List Int) (x : Int) : Int := if x < -1 ∨ L.length < x then 70 else 0
def smM (L : List Int) (mk x : Int) : Int := if x < -1 ∨ L.length < x then mk else x
def swE (mk : Int) : Int := if mk < 0 then 6 else 0
def swP (pt mk : Int) : Int := if mk < 0 then pt else mk
def swM (pt mk : Int) : Int := if mk < 0 then mk else pt
theorem Ez (H : aB w0 w (dI p L pt mk • F)) : fE prog 125 #[.pointer (some ⟨p, 0, none⟩)] w fun v' w' => ∃ q, v' = .pointer (some ⟨q, 0, none⟩) ∧ aB w0 w' (dI q L pt mk • dI p L pt mk • F) := by
 refine gy func125 ntmps125 ?_
 dsimp only [aY, Nat.reduceAdd]
 refine ay (ah (aV rfl (aA (aj (ay (ay (ah (aN rfl (dw rfl func139 (nK H) ?_)))))))))
 rintro _ _ ⟨rfl, rfl⟩
 refine aA (aj (pJ (aT (aj (ay ?_)))))
 obtain ⟨abR, abS, abT, f_p, t_p, Xj, Xk, Xl, Xm, Xn, Xo, abU, abV, abW, abe, Xp⟩ := (H).buf
 refine ah (aN rfl (bP rfl (aU (bQ underlying208 rfl sizeOf208 rfl rfl (Xp).get.2) (gq (bU (l := [_, _, _, _, _, _]) Xp zeroValue208 rfl) ?_))))
 rintro _ w3 ⟨b3, rfl, H3⟩
 refine aG (bn 0 (l' := [_, _, _, _, _, _]) (us := [_, _, _, _, _, _]) H3 sizeOf208 rfl rfl rfl (aC (by first | rfl | assumption) (aC (by first | rfl | exact Rd.one ((H3.f3).aO)) (aC (by first | rfl | assumption) (aC (by first | rfl | assumption) (aC (by first | rfl | assumption) (aC (by first | rfl | assumption) aZ)))))) rfl rfl) ?_
 rintro _ w4 H4
 refine aA (aj (ay (ah (aN rfl (bP rfl (bg 1 underlying208 rfl sizeOf23 rfl (dO underlying23 rfl (H4.f2).get.2 rfl (dw rfl func59 (kS H4 (fun W HW => (HW.f3).aO) (by omega)) ?_))))))))
 rintro u5 w5 H5
 refine bg 1 underlying208 rfl sizeOf23 rfl (aG (aS 1 (l' := [_, _, _, _, _, _]) H5.f2 sizeOf23 rfl rfl (by first | rfl | exact Rd.one ((H5).aO)) rfl rfl) ?_)
 rintro _ w6 H6
 refine aA (aj (ay (ah (aV rfl (aA (aj (aJ (aQ (.inl rfl) results125 rfl ?_))))))))
 exact ⟨_, rfl, (aB.kD Xj Xk Xl Xm Xn Xo (by omega) (aB.kD Xj Xk Xl Xm Xn Xo (by omega) H6.f4.f4.f4.f4).f2.f3.f2).f2⟩
def Xq (L : List Int) (a : Int) (dl : List Int) : Bool := decide ((dl.length : Int) ≤ L.length - a) && ((L.drop a.toNat).take dl.length == dl)
def Vp (L : List Int) (a : Int) (dl il : List Int) : Int := if a < 0 ∨ L.length < a then 70 else if Xq L a dl then kE L a (a + dl.length) il else 71
def Zk (L : List Int) (a : Int) (dl il : List Int) : List Int := if Vp L a dl il = 0 then pK L a (a + dl.length) il else L
def Zl (L : List Int) (pt a : Int) (dl il : List Int) : Int := if Vp L a dl il = 0 then pO L pt a (a + dl.length) il else pt
def Zm (L : List Int) (mk a : Int) (dl il : List Int) : Int := if Vp L a dl il = 0 then pR L mk a (a + dl.length) il else mk
end
end Go.Proofs.YtddekefihgejoaaGreatDoor
end
section
namespace Go.Proofs.YtddekefihgejoaaGreatDoor
open Go.RowKit
open _root_.Go.Proofs.Tryz
def dX (s : List Value) (h n p : Nat) : Array Value := (Value.bool true :: (s ++ [.int .i64 h, .int .i64 n, .int .i64 p])).toArray
section
variable {s : List Value} {h n p : Nat}
theorem zM (hs : s.length = 60) : (dX s h n p).size = 64 := by simp [dX, hs]
theorem F8 : (dX s h n p)[0]? = some (.bool true) := by simp [dX]
theorem N9 (hs : s.length = 60) {i : Nat} (hi : i < 60) : (dX s h n p)[1 + i]? = some (s.getD i undef) := by
  simp [dX, Nat.add_comm 1 i, List.getElem?_append_left (show i < s.length by omega), List.getD_eq_getElem?_getD, show i < s.length by omega]
theorem Oa (hs : s.length = 60) : (dX s h n p)[61]? = some (.int .i64 h) := by simp [dX, hs]
theorem ou (hs : s.length = 60) : (dX s h n p)[62]? = some (.int .i64 n) := by simp [dX, hs]
theorem Dl (hs : s.length = 60) : (dX s h n p)[63]? = some (.int .i64 p) := by simp [dX, hs]
theorem Dn (hs : s.length = 60) (x : Nat) : (dX s h n p).setIfInBounds 63 (.int .i64 x) = dX s h n x := by
  apply Array.ext'; simp [dX, List.set_append, hs]
end
def Xt (I : Hp) (s : List Value) (h : Nat) (E : List (List Int)) : Prop := ∀ i, i < E.length → xk I .i32 (s.getD ((h + i) % 60) undef) (E.getD i [])
def uZ (s : List Value) (h : Nat) (E : List (List Int)) : HP := know (fun I => Xt I s h E) fun _ _ hl hk i hi => (hk i hi).mono hl
def dU (p : Nat) (E : List (List Int)) (place : Nat) : HP := qJ fun (x : List Value × Nat) =>
  fact (x.1.length = 60 ∧ x.2 < 60 ∧ E.length ≤ 60 ∧ (place < E.length ∨ place = 0) ∧ (∀ e ∈ E, e.length ≤ 1024) ∧ ∀ v ∈ x.1, v.oneCell' = true) • bY p (.cells (dX x.1 x.2 E.length place) 193 (0, 0)) • uZ x.1 x.2 E
section
variable {w0 w : World} {F : HP} {p place : Nat} {E : List (List Int)}
theorem aB.ring (H : aB w0 w (dU p E place • F)) : ∃ s h, s.length = 60 ∧ h < 60 ∧ E.length ≤ 60 ∧ (place < E.length ∨ place = 0) ∧ (∀ e ∈ E, e.length ≤ 1024) ∧ (∀ v ∈ s, v.oneCell' = true) ∧ aB w0 w (bY p (.cells (dX s h E.length place) 193 (0, 0)) • uZ s h E • F) := by
  obtain ⟨⟨s, h⟩, H⟩ := H.lg
  obtain ⟨⟨h1, h2, h3, h4, h5, h6⟩, H⟩ := H.flat.fact
  exact ⟨s, h, h1, h2, h3, h4, h5, h6, H.flat⟩
theorem aB.BP {s : List Value} {h : Nat} (h1 : s.length = 60) (h2 : h < 60) (h3 : E.length ≤ 60) (h4 : place < E.length ∨ place = 0) (h5 : ∀ e ∈ E, e.length ≤ 1024) (h6 : ∀ v ∈ s, v.oneCell' = true) (H : aB w0 w (bY p (.cells (dX s h E.length place) 193 (0, 0)) • uZ s h E • F)) : aB w0 w (dU p E place • F) :=
  aB.gJ (s, h) (aB.deep (aB.jL ⟨h1, h2, h3, h4, h5, h6⟩ H.deep))
theorem F9 (H : aB w0 w F) : fE prog 78 #[] w fun v w' => ∃ p, v = .pointer (some ⟨p, 0, none⟩) ∧ aB w0 w' (dU p [] 0 • F) := by
 refine gy func78 ntmps78 ?_
 dsimp only [aY, Nat.reduceAdd]
 refine ay (ah (aV rfl (aA (aj (ay (ah (aU (fD (pl := #[(0, 1), (1, 60), (61, 1), (62, 1), (63, 1)]) (dX (List.replicate 60 (.slice none 0 0)) 0 0 0) underlying193 zeroValue193 (fun w => by kernel_rfl) rfl (by kernel_rfl)) (gq (Pm H rfl) ?_))))))))
 rintro _ w1 ⟨b1, rfl, H1⟩
 refine aV rfl (aA (aj (aJ (aQ (.inl rfl) results78 rfl ?_))))
 refine ⟨b1, rfl, aB.BP (s := List.replicate 60 (.slice none 0 0)) (h := 0) (by simp) (by omega) (by simp) (.inr rfl) (by simp) (by intro v hv; rw [List.eq_of_mem_replicate hv]; rfl) ?_⟩
 exact aB.swap (aB.wR (fun I i hi => by simp at hi) H1)
theorem oL (t : TypeId) {cs : Array Value} {fr : Nat × Nat} {m : Bool} (hb : w.heap[p]? = some (.cells cs t fr)) (h0 : cs[0]? = some (.bool m)) :
  fE prog 158 #[.pointer (some ⟨p, 0, none⟩)] w fun v w' => v = .bool (!m) ∧ w = w' := by
 refine gy func158 ntmps158 ?_
 dsimp only [aY, Nat.reduceAdd]
 refine ay (ah (aV rfl (aA (aj (ay (ah (aN rfl (aU (eF underlying60 rfl rfl) (jy rfl (fun h => by exfalso; (try simp only [aI] at h); simp at h) (fun h1 => ?_))))))))))
 (try simp only [aI] at h1)
 refine bC (aN rfl (bC (bP rfl (bC (bg 0 underlying193 rfl sizeOf4 rfl (bC (dO underlying4 rfl hb h0 (bC (aU (kJ rfl) (iU rfl rfl (aV rfl (aA (aj (aJ (aQ (.inl rfl) results158 rfl ?_)))))))))))))))
 exact ⟨rfl, rfl⟩
theorem aB.P7 {s : List Value} {h i : Nat} (H : aB w0 w (uZ s h E • F)) (hi : i < E.length) : iV w .i32 (s.getD ((h + i) % 60) undef) (E.getD i []) := let ⟨I, k, hI⟩ := H.rM; (k i hi).rd hI
theorem IE {s : List Value} {h n m : Nat} {t : TypeId} {fr : Nat × Nat} {k : Nat} (hs : s.length = 60) (hh : h < 60) (hk : k < 60) (hb : w.heap[p]? = some (.cells (dX s h n m) t fr)) :
  fE prog 159 #[.pointer (some ⟨p, 0, none⟩), .int .i64 k] w fun v w' => v = s.getD ((h + k) % 60) undef ∧ rJ w w' := by
 refine gy func159 ntmps159 ?_
 dsimp only [aY, Nat.reduceAdd]
 refine ay (ah (aV rfl (aA (aj (ay ?_)))))
 refine nD (n := 13) [0, 1, 2, 3, 4, 5, 6, 7, 8, 9, 10, 11, 12] (fun W => W.heap = w.heap) (by kernel_rfl) (by kernel_rfl) rfl ?_
 have hS0 : (fun W => W.heap = w.heap) (w.drew) := rfl
 refine gQ 0 rfl hS0 rfl (gQ 1 rfl hS0 rfl (iQ 2 rfl hS0 rfl (dR 3 rfl hS0 61 underlying193 rfl sizeOf3 rfl ?_)))
 refine gY 4 rfl hS0 (fun W hW => iH underlying3 rfl (by rw [hW]; exact hb) (Oa hs)) ?_
 refine gQ 5 rfl hS0 rfl (iJ 6 rfl hS0 (fun _ => dS rfl rfl (by omega)) ?_)
 refine iJ 7 rfl hS0 (fun _ => WW rfl rfl (by omega) (by  omega)) ?_
 refine iQ 8 rfl hS0 rfl (dR 9 rfl hS0 1 underlying193 rfl sizeOf191 rfl (iJ 10 rfl hS0 (fun _ => vZ underlying191 sizeOf23 rfl rfl (by omega)) ?_))
 refine gY 11 rfl hS0 (fun W hW => iH underlying23 rfl (by rw [hW]; exact hb) (by rw [show (1 + (((h : Int) + (k : Int)) % 60).toNat * 1) = 1 + (h + k) % 60 from by omega]; exact N9 hs (by omega))) ?_
 refine iJ 12 rfl hS0 (fun _ => eP rfl) (nT (aj (aJ (aQ (.inl rfl) results159 rfl ?_))))
 exact ⟨rfl, ⟨1, rfl⟩⟩
theorem Gf (H : aB w0 w (dU p E place • F)) : fE prog 114 #[.pointer (some ⟨p, 0, none⟩)] w fun v w' => v = .int .i64 E.length ∧ w = w' := by
 obtain ⟨s, h, hs, hh, hE, hp, hm, ho, H1⟩ := H.ring
 have hb := H1.get.2
 refine gy func114 ntmps114 ?_
 dsimp only [aY, Nat.reduceAdd]
 refine ay (ah (aV rfl (aA (aj (ay (ay (ah (aN rfl (dw rfl func158 (oL _ hb F8) ?_)))))))))
 rintro _ _ ⟨rfl, rfl⟩
 refine aA (aj (pJ (aT (aj (ay (ah (aN rfl (bP rfl (bg 62 underlying193 rfl sizeOf3 rfl (dO underlying3 rfl hb (ou hs) (aV rfl (aA (aj (aJ (aQ (.inl rfl) results114 rfl ?_)))))))))))))))
 exact ⟨rfl, rfl⟩
end
end Go.Proofs.YtddekefihgejoaaGreatDoor
end
