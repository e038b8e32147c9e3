import Derived.Test.YtgndbccogcofjaaGreatDoorZ2
import Derived.Test.YtgndbccogcofjaaGreatDoorZ7
set_option linter.unusedSimpArgs false
set_option linter.unusedVariables false
/- Texts of mine, joined, their names in short: Buf3 LineP BLive Same Apply BufP. -/
section
namespace Go.Proofs.YtgndbccogcofjaaGreatDoor
open Go.RowKit
open _root_.Go.Proofs.Tryz
section
variable {w0 w : World} {F : HP} {p : Nat} {L : List Int} {pt mk : Int} {v : Value} {l : List Int} {i j : Int}
theorem Cm {i j : Nat} (H : aB w0 w (dL p L pt mk • F)) (hr : gW w0 F .i32 v l) (hb : i ≤ j ∧ j ≤ L.length) (hl : (L.length : Int) - ((j : Int) - i) + l.length ≤ 1024) :
    fO prog 193 #[.pointer (some ⟨p, 0, none⟩), .int .i64 i, .int .i64 j, v] w fun v' w' => ∃ d s, v' = .tuple #[.agg (fB i d s), .int .i64 0] ∧
      aB w0 w' (iU 21 .i32 d ((L.drop i).take (j - i)) • iU 21 .i32 s l • dL p (L.take i ++ l ++ L.drop j) (bI pt i j l.length) (bJ mk i j l.length) • F) := by
  obtain ⟨a, c, rfl, hac, QD, _⟩ := (hr w H.right).open
  obtain ⟨hL4, hpt, hmk⟩ : L.length ≤ 1024 ∧ (0 ≤ pt ∧ pt ≤ L.length) ∧ (-1 ≤ mk ∧ mk ≤ L.length) := by obtain ⟨a, c, xs, f, t, h1, h2, h3, h4, h5, h6, h7, hc1, hc2, hl, H1⟩ := H.buf; exact ⟨h4, h6, h7⟩
  have hg1 := JC (L := L) (i := i) (r := l.length) (by omega)
  have hg2 := Ig (L := L) (i := i) (r := l.length) (by omega)
  have hg3 := Ih (L := L) (i := i) (r := l.length) (by omega)
  have hL' : L.take i ++ l ++ L.drop j = (dI (dY L i l.length) i l).take (i + l.length) ++ (dI (dY L i l.length) i l).drop (i + l.length + 16 + (j - i)) := by
    rw [Ad (by omega), Ie (by omega) (by omega), hg2]
    congr 1
    rw [← List.drop_drop, hg3, List.drop_drop]
    congr 1; omega
  have hlen' : (L.take i ++ l ++ L.drop j).length = L.length - (j - i) + l.length := by simp; omega
  refine gB func193 ntmps193 ?_
  dsimp only [bf, Nat.reduceAdd]
  refine ay (ah (jh (qP H zeroValue101) ?_))
  rintro _ w1 ⟨b1, rfl, H1⟩
  refine aV rfl (aA (aj (ay (ah (aN rfl (bZ rfl func186 (kH H1.right) ?_))))))
  rintro _ w2 ⟨rfl, hD⟩
  have HL := H1.kV hD
  refine aV rfl (aA (aj (ay (bC (ay (ah (aN rfl (bZ rfl func185 (kS HL.right) ?_))))))))
  rintro _ _ ⟨rfl, rfl⟩
  refine aV rfl (aA (aj (aO rfl (fun h1 => ?_) (fun h1 => ?_))))
  · (try simp only [aH] at h1)
    try (exfalso; first | contradiction | omega)
    all_goals
      refine ay (ah (aX (eF (pl := #[(0, 1), (1, 1), (2, 1)]) (_) underlying101 zeroValue101 (fun w => by kernel_rfl) rfl (rfl)) (aG (dA HL sizeOf101 rfl rfl rfl (by decide)) ?_)))
      rintro _ w4 H4
      refine aV rfl (aA (aj (aJ (aW (aK ?_)))))
      refine eH (.inl rfl) results193 rfl rfl underlying101 rfl (by rw [show (prog.info? 101).map (·.size) = some 3 from by kernel_rfl]; rfl) H4.get.2 ?_
      refine ⟨_, _, rfl, ?_⟩
      first
        | rw [show bI pt i j l.length = pt + ((l.length : Int) - ((j : Int) - i)) from by unfold bI; rw [if_pos (by omega)]]
        | rw [show bI pt i j l.length = (i : Int) + l.length from by unfold bI; rw [if_neg (by omega), if_pos (by omega)]]
        | rw [show bI pt i j l.length = pt from by unfold bI; rw [if_neg (by omega), if_neg (by omega)]]
      first
        | rw [show bJ mk i j l.length = mk + ((l.length : Int) - ((j : Int) - i)) from by unfold bJ; rw [if_pos (by omega)]]
        | rw [show bJ mk i j l.length = (i : Int) from by unfold bJ; rw [if_neg (by omega), if_pos (by omega)]]
        | rw [show bJ mk i j l.length = mk from by unfold bJ; rw [if_neg (by omega), if_neg (by omega)]]
      refine (aB.jH (f := i + l.length) (t := i + l.length + 16 + (j - i)) (v := .slice ax (dY L i l.length).length cx) (xs := dI (dY L i l.length) i l) (by omega) (by rw [bK (by omega)]; omega) hL' (by omega) (by rw [bK (by omega)]; omega) (by omega) (by omega) ?_).d3.swap
      rw [show ((i + l.length : Nat) : Int) = (i : Int) + l.length from by omega, show ((i + l.length + 16 + (j - i) : Nat) : Int) = ((i + l.length + 16 : Nat) : Int) + ((j : Int) - i) from by omega]
      exact H4.right.right
  · (try simp only [aH] at h1)
    try (exfalso; first | contradiction | omega)
    all_goals
      refine ay (ah (aN rfl (aX (eu rfl rfl) (fK rfl (fun h2 => ?_) (fun h2 => ?_)))))
      · (try simp only [aH] at h2)
        try (exfalso; first | contradiction | omega)
        all_goals
          refine bD (bD (bD (fG rfl rfl (aN rfl (bD (bD (bD (fG rfl rfl (aN rfl (bD (bD (bD (fG rfl rfl (aV rfl (aA (aj (uX (ay (ah (aX (eF (pl := #[(0, 1), (1, 1), (2, 1)]) (_) underlying101 zeroValue101 (fun w => by kernel_rfl) rfl (rfl)) (aG (dA HL sizeOf101 rfl rfl rfl (by decide)) ?_)))))))))))))))))))))
          rintro _ w5 H5
          refine aV rfl (aA (aj (aJ (aW (aK ?_)))))
          refine eH (.inl rfl) results193 rfl rfl underlying101 rfl (by rw [show (prog.info? 101).map (·.size) = some 3 from by kernel_rfl]; rfl) H5.get.2 ?_
          refine ⟨_, _, rfl, ?_⟩
          first
            | rw [show bI pt i j l.length = pt + ((l.length : Int) - ((j : Int) - i)) from by unfold bI; rw [if_pos (by omega)]]
            | rw [show bI pt i j l.length = (i : Int) + l.length from by unfold bI; rw [if_neg (by omega), if_pos (by omega)]]
            | rw [show bI pt i j l.length = pt from by unfold bI; rw [if_neg (by omega), if_neg (by omega)]]
          first
            | rw [show bJ mk i j l.length = mk + ((l.length : Int) - ((j : Int) - i)) from by unfold bJ; rw [if_pos (by omega)]]
            | rw [show bJ mk i j l.length = (i : Int) from by unfold bJ; rw [if_neg (by omega), if_pos (by omega)]]
            | rw [show bJ mk i j l.length = mk from by unfold bJ; rw [if_neg (by omega), if_neg (by omega)]]
          refine (aB.jH (f := i + l.length) (t := i + l.length + 16 + (j - i)) (v := .slice ax (dY L i l.length).length cx) (xs := dI (dY L i l.length) i l) (by omega) (by rw [bK (by omega)]; omega) hL' (by omega) (by rw [bK (by omega)]; omega) (by omega) (by omega) ?_).d3.swap
          rw [show ((i + l.length : Nat) : Int) = (i : Int) + l.length from by omega, show ((i + l.length + 16 + (j - i) : Nat) : Int) = ((i + l.length + 16 : Nat) : Int) + ((j : Int) - i) from by omega]
          exact H5.right.right
      · (try simp only [aH] at h2)
        try (exfalso; first | contradiction | omega)
        all_goals
          refine aZ (aN rfl (aZ (aN rfl (aZ (aX (dn rfl rfl) (eG rfl rfl (fK rfl (fun h3 => ?_) (fun h3 => ?_))))))))
          · (try simp only [aH] at h3)
            try (exfalso; first | contradiction | omega)
            all_goals
              refine bD (bD (bD (fG rfl rfl (aN rfl (bD (bD (bD (fG rfl rfl (aV rfl (aA (aj (uX (ay (ah (aX (eF (pl := #[(0, 1), (1, 1), (2, 1)]) (_) underlying101 zeroValue101 (fun w => by kernel_rfl) rfl (rfl)) (aG (dA HL sizeOf101 rfl rfl rfl (by decide)) ?_))))))))))))))))
              rintro _ w6 H6
              refine aV rfl (aA (aj (aJ (aW (aK ?_)))))
              refine eH (.inl rfl) results193 rfl rfl underlying101 rfl (by rw [show (prog.info? 101).map (·.size) = some 3 from by kernel_rfl]; rfl) H6.get.2 ?_
              refine ⟨_, _, rfl, ?_⟩
              first
                | rw [show bI pt i j l.length = pt + ((l.length : Int) - ((j : Int) - i)) from by unfold bI; rw [if_pos (by omega)]]
                | rw [show bI pt i j l.length = (i : Int) + l.length from by unfold bI; rw [if_neg (by omega), if_pos (by omega)]]
                | rw [show bI pt i j l.length = pt from by unfold bI; rw [if_neg (by omega), if_neg (by omega)]]
              first
                | rw [show bJ mk i j l.length = mk + ((l.length : Int) - ((j : Int) - i)) from by unfold bJ; rw [if_pos (by omega)]]
                | rw [show bJ mk i j l.length = (i : Int) from by unfold bJ; rw [if_neg (by omega), if_pos (by omega)]]
                | rw [show bJ mk i j l.length = mk from by unfold bJ; rw [if_neg (by omega), if_neg (by omega)]]
              refine (aB.jH (f := i + l.length) (t := i + l.length + 16 + (j - i)) (v := .slice ax (dY L i l.length).length cx) (xs := dI (dY L i l.length) i l) (by omega) (by rw [bK (by omega)]; omega) hL' (by omega) (by rw [bK (by omega)]; omega) (by omega) (by omega) ?_).d3.swap
              rw [show ((i + l.length : Nat) : Int) = (i : Int) + l.length from by omega, show ((i + l.length + 16 + (j - i) : Nat) : Int) = ((i + l.length + 16 : Nat) : Int) + ((j : Int) - i) from by omega]
              exact H6.right.right
          · (try simp only [aH] at h3)
            try (exfalso; first | contradiction | omega)
            all_goals
              refine aZ (aN rfl (aZ (aN rfl (aZ (aX (eu rfl rfl) (eG rfl rfl (fK rfl (fun h4 => ?_) (fun h4 => ?_))))))))
              · (try simp only [aH] at h4)
                try (exfalso; first | contradiction | omega)
                all_goals
                  refine bD (bD (bD (fG rfl rfl (aV rfl (aA (aj (uX (ay (ah (aX (eF (pl := #[(0, 1), (1, 1), (2, 1)]) (_) underlying101 zeroValue101 (fun w => by kernel_rfl) rfl (rfl)) (aG (dA HL sizeOf101 rfl rfl rfl (by decide)) ?_)))))))))))
                  rintro _ w7 H7
                  refine aV rfl (aA (aj (aJ (aW (aK ?_)))))
                  refine eH (.inl rfl) results193 rfl rfl underlying101 rfl (by rw [show (prog.info? 101).map (·.size) = some 3 from by kernel_rfl]; rfl) H7.get.2 ?_
                  refine ⟨_, _, rfl, ?_⟩
                  first
                    | rw [show bI pt i j l.length = pt + ((l.length : Int) - ((j : Int) - i)) from by unfold bI; rw [if_pos (by omega)]]
                    | rw [show bI pt i j l.length = (i : Int) + l.length from by unfold bI; rw [if_neg (by omega), if_pos (by omega)]]
                    | rw [show bI pt i j l.length = pt from by unfold bI; rw [if_neg (by omega), if_neg (by omega)]]
                  first
                    | rw [show bJ mk i j l.length = mk + ((l.length : Int) - ((j : Int) - i)) from by unfold bJ; rw [if_pos (by omega)]]
                    | rw [show bJ mk i j l.length = (i : Int) from by unfold bJ; rw [if_neg (by omega), if_pos (by omega)]]
                    | rw [show bJ mk i j l.length = mk from by unfold bJ; rw [if_neg (by omega), if_neg (by omega)]]
                  refine (aB.jH (f := i + l.length) (t := i + l.length + 16 + (j - i)) (v := .slice ax (dY L i l.length).length cx) (xs := dI (dY L i l.length) i l) (by omega) (by rw [bK (by omega)]; omega) hL' (by omega) (by rw [bK (by omega)]; omega) (by omega) (by omega) ?_).d3.swap
                  rw [show ((i + l.length : Nat) : Int) = (i : Int) + l.length from by omega, show ((i + l.length + 16 + (j - i) : Nat) : Int) = ((i + l.length + 16 : Nat) : Int) + ((j : Int) - i) from by omega]
                  exact H7.right.right
              · (try simp only [aH] at h4)
                try (exfalso; first | contradiction | omega)
                all_goals
                  refine aZ (aN rfl (aZ (aN rfl (aZ (aX (dn rfl rfl) (eG rfl rfl (aV rfl (aA (aj (aO rfl (fun h => by exfalso; (try simp only [aH] at h); first | contradiction | omega | (simp at h <;> omega)) (fun h5 => ?_)))))))))))
                  (try simp only [aH] at h5)
                  refine ay (ah (aN rfl (aX (fJ underlying22 rfl) (aN rfl (aN rfl (aN rfl (aX (iG rfl rfl (by omega)) (aX (iG rfl rfl (by omega)) (aX (iG rfl rfl (by omega)) (aX (dn rfl rfl) (aV rfl (aA (aj (aO rfl (fun h => by exfalso; (try simp only [aH] at h); first | contradiction | omega | (simp at h <;> omega)) (fun h6 => ?_)))))))))))))))
                  (try simp only [aH] at h6)
                  refine aP (aQ (aj (ay (ah (aN rfl (aN rfl (bZ rfl func112 (pJ HL.swap) ?_)))))))
                  rintro u w8 H8
                  obtain ⟨au, cu, hu, _⟩ := (H8.aT).form
                  subst hu
                  refine aN rfl (aN rfl (aX (oC underlying22 sizeOf21 rfl rfl rfl (by omega)) (bZ rfl func178 (lS H8 (fun W HW => kD.cut HW.aT (i := i) (j := j) (by omega) (by omega)) (by simp; omega)) ?_)))
                  rintro d w9 H9
                  have HC := H9.swap.right
                  obtain ⟨ad, cd, hd, _⟩ := (HC.aT).form
                  subst hd
                  refine aN rfl (bZ rfl func178 (lS HC hr.under.under.under (by omega)) ?_)
                  rintro s w10 nO
                  obtain ⟨ai, ci, hs, _⟩ := (nO.aT).form
                  subst hs
                  refine aX (eF (pl := #[(0, 1), (1, 1), (2, 1)]) (fB i (.slice ad ((L.drop i).take (j - i)).length cd) (.slice ai l.length ci)) underlying101 zeroValue101 (fun w => by kernel_rfl) rfl (by kernel_rfl)) (jh (qP nO zeroValue101) ?_)
                  rintro _ Hz ⟨b11, rfl, vk⟩
                  refine aG (dh (cs := fB i (.slice ad ((L.drop i).take (j - i)).length cd) (.slice ai l.length ci)) vk sizeOf101 rfl rfl rfl rfl (jJ rfl rfl)) ?_
                  rintro _ w12 wP
                  refine aA (aj (ay (ah (aN rfl (aN rfl (aN rfl (aX (fJ underlying22 rfl) (bZ rfl func229 (FX wP.r4 (by omega) (by omega)) ?_))))))))
                  rintro _ MN ⟨x, uO⟩
                  obtain ⟨ax, cx, hx, _⟩ := (uO.swap.aT).form
                  subst hx
                  refine aA (aj (ay (ah (aN rfl (bP rfl (bF 3 underlying184 rfl sizeOf3 rfl (dV underlying3 rfl uO.get.2 rfl (aN rfl (aN rfl (aX (iG rfl rfl (by omega)) (aX (gy rfl rfl (by omega)) (bP rfl (bF 3 underlying184 rfl sizeOf3 rfl (aG (dA uO sizeOf3 rfl rfl rfl (by rw [iK]; decide)) ?_))))))))))))))
                  rintro _ Jw xE
                  rw [xH] at xE
                  have XO := xE.get.2
                  refine aA (aj (ay ?_))
                  refine jT (n := 11) [0, 1, 2, 3, 4, 5, 6, 7, 8, 9, 10] (fun W => W.heap[p]? = some (.cells (dN (.slice ax (dY L i l.length).length cx) i ((i + l.length + 16 : Nat) + ((j : Int) - i)) pt mk) 184 (0, 0))) (by kernel_rfl) (by kernel_rfl) rfl ?_
                  have hS0 : (fun W => W.heap[p]? = some (.cells (dN (.slice ax (dY L i l.length).length cx) i ((i + l.length + 16 : Nat) + ((j : Int) - i)) pt mk) 184 (0, 0))) (Jw.drew) := XO
                  have Ov := xE.drew
                  refine iF 0 rfl hS0 rfl (jQ 1 rfl hS0 rfl (gV 2 rfl hS0 1 underlying184 rfl sizeOf22 rfl (jk 3 rfl hS0 (fun W hW => jP underlying22 rfl hW rfl) (iF 4 rfl hS0 rfl (jQ 5 rfl hS0 rfl (gV 6 rfl hS0 2 underlying184 rfl sizeOf3 rfl (jk 7 rfl hS0 (fun W hW => jP underlying3 rfl hW rfl) (jg 8 rfl hS0 (fun _ => oC underlying22 sizeOf21 rfl rfl rfl (by omega)) (iF 9 rfl hS0 rfl (kE 10 rfl (vI (i := i) (m := l) Ov.swap (hr _ Ov.right.right.right.right.right.right) underlying22 (by kernel_rfl) rfl rfl (by omega)) ?_))))))))))
                  rintro _ MO ⟨rfl, uf⟩
                  have HS := uf.swap
                  refine BG (by kernel_rfl) ?_
                  refine pO (aj (ay (ah (aN rfl (bP rfl (bF 2 underlying184 rfl sizeOf3 rfl (dV underlying3 rfl HS.get.2 rfl (aN rfl (aX (fJ underlying22 rfl) (aX (gy rfl rfl (by omega)) (bP rfl (bF 2 underlying184 rfl sizeOf3 rfl (aG (dA HS sizeOf3 rfl rfl rfl (by rw [iK]; decide)) ?_)))))))))))))
                  rintro _ w16 rZ
                  rw [ug] at rZ
                  refine aA (aj (ay (bC (ay (ah (aN rfl (bP rfl (bF 4 underlying184 rfl sizeOf3 rfl (dV underlying3 rfl rZ.get.2 rfl (aN rfl (aX (dn rfl rfl) (aV rfl (aA (aj (aO rfl (fun h7 => ?_) (fun h7 => ?_))))))))))))))))
                  · (try simp only [aH] at h7)
                    try (exfalso; first | contradiction | omega)
                    all_goals
                      refine ah (aN rfl (bP rfl (bF 4 underlying184 rfl sizeOf3 rfl (dV underlying3 rfl rZ.get.2 rfl (aN rfl (aX (fJ underlying22 rfl) (aN rfl (aN rfl (aX (iG rfl rfl (by omega)) (aX (iG rfl rfl (by omega)) (aX (gy rfl rfl (by omega)) (bP rfl (bF 4 underlying184 rfl sizeOf3 rfl (aG (dA rZ sizeOf3 rfl rfl rfl (by rw [iK]; decide)) ?_))))))))))))))
                      rintro _ RX Ac
                      rw [rF] at Ac
                      refine aA (aQ (aj (ay (bC (ay (ah (aN rfl (bP rfl (bF 5 underlying184 rfl sizeOf3 rfl (dV underlying3 rfl Ac.get.2 rfl (aN rfl (aX (dn rfl rfl) (aV rfl (aA (aj (aO rfl (fun h8 => ?_) (fun h8 => ?_)))))))))))))))))
                      · (try simp only [aH] at h8)
                        try (exfalso; first | contradiction | omega)
                        all_goals
                          refine ah (aN rfl (bP rfl (bF 5 underlying184 rfl sizeOf3 rfl (dV underlying3 rfl Ac.get.2 rfl (aN rfl (aX (fJ underlying22 rfl) (aN rfl (aN rfl (aX (iG rfl rfl (by omega)) (aX (iG rfl rfl (by omega)) (aX (gy rfl rfl (by omega)) (bP rfl (bF 5 underlying184 rfl sizeOf3 rfl (aG (dA Ac sizeOf3 rfl rfl rfl (by rw [iK]; decide)) ?_))))))))))))))
                          rintro _ Qc zY
                          rw [kR] at zY
                          refine aA (aQ (aj (ay ?_)))
                          have oN := zY.DW
                          refine ah (aX (bW underlying101 rfl sizeOf101 rfl rfl oN.get.2) (aG (dh (cs := fB i (.slice ad ((L.drop i).take (j - i)).length cd) (.slice ai l.length ci)) oN.r6 sizeOf101 rfl rfl rfl rfl (jJ rfl rfl)) ?_))
                          rintro _ Qe Au
                          refine aV rfl (aA (aj (aJ ?_)))
                          refine eH (.inl rfl) results193 rfl rfl underlying101 rfl (by rw [show (prog.info? 101).map (·.size) = some 3 from by kernel_rfl]; rfl) Au.get.2 ?_
                          refine ⟨_, _, rfl, ?_⟩
                          first
                            | rw [show bI pt i j l.length = pt + ((l.length : Int) - ((j : Int) - i)) from by unfold bI; rw [if_pos (by omega)]]
                            | rw [show bI pt i j l.length = (i : Int) + l.length from by unfold bI; rw [if_neg (by omega), if_pos (by omega)]]
                            | rw [show bI pt i j l.length = pt from by unfold bI; rw [if_neg (by omega), if_neg (by omega)]]
                          first
                            | rw [show bJ mk i j l.length = mk + ((l.length : Int) - ((j : Int) - i)) from by unfold bJ; rw [if_pos (by omega)]]
                            | rw [show bJ mk i j l.length = (i : Int) from by unfold bJ; rw [if_neg (by omega), if_pos (by omega)]]
                            | rw [show bJ mk i j l.length = mk from by unfold bJ; rw [if_neg (by omega), if_neg (by omega)]]
                          refine (aB.jH (f := i + l.length) (t := i + l.length + 16 + (j - i)) (v := .slice ax (dY L i l.length).length cx) (xs := dI (dY L i l.length) i l) (by omega) (by rw [bK (by omega)]; omega) hL' (by omega) (by rw [bK (by omega)]; omega) (by omega) (by omega) ?_).d3.swap
                          rw [show ((i + l.length : Nat) : Int) = (i : Int) + l.length from by omega, show ((i + l.length + 16 + (j - i) : Nat) : Int) = ((i + l.length + 16 : Nat) : Int) + ((j : Int) - i) from by omega]
                          exact Au.right.right
                      · (try simp only [aH] at h8)
                        try (exfalso; first | contradiction | omega)
                        all_goals
                          refine ay (ah (aN rfl (bP rfl (bF 5 underlying184 rfl sizeOf3 rfl (dV underlying3 rfl Ac.get.2 rfl (aN rfl (aX (dn rfl rfl) (aV rfl (aA (aj (aO rfl (fun h9 => ?_) (fun h9 => ?_))))))))))))
                          · (try simp only [aH] at h9)
                            try (exfalso; first | contradiction | omega)
                            all_goals
                              refine ah (aN rfl (aN rfl (bP rfl (bF 5 underlying184 rfl sizeOf3 rfl (aG (dA Ac sizeOf3 rfl rfl rfl (by rw [iK]; decide)) ?_)))))
                              rintro _ Qd uZ
                              rw [kR] at uZ
                              refine aA (aQ (aj (ay ?_)))
                              have oN := uZ.DW
                              refine ah (aX (bW underlying101 rfl sizeOf101 rfl rfl oN.get.2) (aG (dh (cs := fB i (.slice ad ((L.drop i).take (j - i)).length cd) (.slice ai l.length ci)) oN.r6 sizeOf101 rfl rfl rfl rfl (jJ rfl rfl)) ?_))
                              rintro _ QC oN
                              refine aV rfl (aA (aj (aJ ?_)))
                              refine eH (.inl rfl) results193 rfl rfl underlying101 rfl (by rw [show (prog.info? 101).map (·.size) = some 3 from by kernel_rfl]; rfl) oN.get.2 ?_
                              refine ⟨_, _, rfl, ?_⟩
                              first
                                | rw [show bI pt i j l.length = pt + ((l.length : Int) - ((j : Int) - i)) from by unfold bI; rw [if_pos (by omega)]]
                                | rw [show bI pt i j l.length = (i : Int) + l.length from by unfold bI; rw [if_neg (by omega), if_pos (by omega)]]
                                | rw [show bI pt i j l.length = pt from by unfold bI; rw [if_neg (by omega), if_neg (by omega)]]
                              first
                                | rw [show bJ mk i j l.length = mk + ((l.length : Int) - ((j : Int) - i)) from by unfold bJ; rw [if_pos (by omega)]]
                                | rw [show bJ mk i j l.length = (i : Int) from by unfold bJ; rw [if_neg (by omega), if_pos (by omega)]]
                                | rw [show bJ mk i j l.length = mk from by unfold bJ; rw [if_neg (by omega), if_neg (by omega)]]
                              refine (aB.jH (f := i + l.length) (t := i + l.length + 16 + (j - i)) (v := .slice ax (dY L i l.length).length cx) (xs := dI (dY L i l.length) i l) (by omega) (by rw [bK (by omega)]; omega) hL' (by omega) (by rw [bK (by omega)]; omega) (by omega) (by omega) ?_).d3.swap
                              rw [show ((i + l.length : Nat) : Int) = (i : Int) + l.length from by omega, show ((i + l.length + 16 + (j - i) : Nat) : Int) = ((i + l.length + 16 : Nat) : Int) + ((j : Int) - i) from by omega]
                              exact oN.right.right
                          · (try simp only [aH] at h9)
                            try (exfalso; first | contradiction | omega)
                            all_goals
                              refine aP (aQ (aj (ay ?_)))
                              have oN := Ac.DW
                              refine ah (aX (bW underlying101 rfl sizeOf101 rfl rfl oN.get.2) (aG (dh (cs := fB i (.slice ad ((L.drop i).take (j - i)).length cd) (.slice ai l.length ci)) oN.r6 sizeOf101 rfl rfl rfl rfl (jJ rfl rfl)) ?_))
                              rintro _ UK BQ
                              refine aV rfl (aA (aj (aJ ?_)))
                              refine eH (.inl rfl) results193 rfl rfl underlying101 rfl (by rw [show (prog.info? 101).map (·.size) = some 3 from by kernel_rfl]; rfl) BQ.get.2 ?_
                              refine ⟨_, _, rfl, ?_⟩
                              first
                                | rw [show bI pt i j l.length = pt + ((l.length : Int) - ((j : Int) - i)) from by unfold bI; rw [if_pos (by omega)]]
                                | rw [show bI pt i j l.length = (i : Int) + l.length from by unfold bI; rw [if_neg (by omega), if_pos (by omega)]]
                                | rw [show bI pt i j l.length = pt from by unfold bI; rw [if_neg (by omega), if_neg (by omega)]]
                              first
                                | rw [show bJ mk i j l.length = mk + ((l.length : Int) - ((j : Int) - i)) from by unfold bJ; rw [if_pos (by omega)]]
                                | rw [show bJ mk i j l.length = (i : Int) from by unfold bJ; rw [if_neg (by omega), if_pos (by omega)]]
                                | rw [show bJ mk i j l.length = mk from by unfold bJ; rw [if_neg (by omega), if_neg (by omega)]]
                              refine (aB.jH (f := i + l.length) (t := i + l.length + 16 + (j - i)) (v := .slice ax (dY L i l.length).length cx) (xs := dI (dY L i l.length) i l) (by omega) (by rw [bK (by omega)]; omega) hL' (by omega) (by rw [bK (by omega)]; omega) (by omega) (by omega) ?_).d3.swap
                              rw [show ((i + l.length : Nat) : Int) = (i : Int) + l.length from by omega, show ((i + l.length + 16 + (j - i) : Nat) : Int) = ((i + l.length + 16 : Nat) : Int) + ((j : Int) - i) from by omega]
                              exact BQ.right.right
                  · (try simp only [aH] at h7)
                    try (exfalso; first | contradiction | omega)
                    all_goals
                      refine ay (ah (aN rfl (bP rfl (bF 4 underlying184 rfl sizeOf3 rfl (dV underlying3 rfl rZ.get.2 rfl (aN rfl (aX (jS rfl rfl) (aV rfl (aA (aj (aO rfl (fun h10 => ?_) (fun h10 => ?_))))))))))))
                      · (try simp only [aH] at h10)
                        try (exfalso; first | contradiction | omega)
                        all_goals
                          refine ah (aN rfl (aN rfl (aN rfl (aX (fJ underlying22 rfl) (aX (gy rfl rfl (by omega)) (bP rfl (bF 4 underlying184 rfl sizeOf3 rfl (aG (dA rZ sizeOf3 rfl rfl rfl (by rw [iK]; decide)) ?_))))))))
                          rintro _ Qg yc
                          rw [rF] at yc
                          refine aA (aQ (aj (ay (bC (ay (ah (aN rfl (bP rfl (bF 5 underlying184 rfl sizeOf3 rfl (dV underlying3 rfl yc.get.2 rfl (aN rfl (aX (dn rfl rfl) (aV rfl (aA (aj (aO rfl (fun h11 => ?_) (fun h11 => ?_)))))))))))))))))
                          · (try simp only [aH] at h11)
                            try (exfalso; first | contradiction | omega)
                            all_goals
                              refine ah (aN rfl (bP rfl (bF 5 underlying184 rfl sizeOf3 rfl (dV underlying3 rfl yc.get.2 rfl (aN rfl (aX (fJ underlying22 rfl) (aN rfl (aN rfl (aX (iG rfl rfl (by omega)) (aX (iG rfl rfl (by omega)) (aX (gy rfl rfl (by omega)) (bP rfl (bF 5 underlying184 rfl sizeOf3 rfl (aG (dA yc sizeOf3 rfl rfl rfl (by rw [iK]; decide)) ?_))))))))))))))
                              rintro _ Vf Ho
                              rw [kR] at Ho
                              refine aA (aQ (aj (ay ?_)))
                              have oN := Ho.DW
                              refine ah (aX (bW underlying101 rfl sizeOf101 rfl rfl oN.get.2) (aG (dh (cs := fB i (.slice ad ((L.drop i).take (j - i)).length cd) (.slice ai l.length ci)) oN.r6 sizeOf101 rfl rfl rfl rfl (jJ rfl rfl)) ?_))
                              rintro _ Vu KU
                              refine aV rfl (aA (aj (aJ ?_)))
                              refine eH (.inl rfl) results193 rfl rfl underlying101 rfl (by rw [show (prog.info? 101).map (·.size) = some 3 from by kernel_rfl]; rfl) KU.get.2 ?_
                              refine ⟨_, _, rfl, ?_⟩
                              first
                                | rw [show bI pt i j l.length = pt + ((l.length : Int) - ((j : Int) - i)) from by unfold bI; rw [if_pos (by omega)]]
                                | rw [show bI pt i j l.length = (i : Int) + l.length from by unfold bI; rw [if_neg (by omega), if_pos (by omega)]]
                                | rw [show bI pt i j l.length = pt from by unfold bI; rw [if_neg (by omega), if_neg (by omega)]]
                              first
                                | rw [show bJ mk i j l.length = mk + ((l.length : Int) - ((j : Int) - i)) from by unfold bJ; rw [if_pos (by omega)]]
                                | rw [show bJ mk i j l.length = (i : Int) from by unfold bJ; rw [if_neg (by omega), if_pos (by omega)]]
                                | rw [show bJ mk i j l.length = mk from by unfold bJ; rw [if_neg (by omega), if_neg (by omega)]]
                              refine (aB.jH (f := i + l.length) (t := i + l.length + 16 + (j - i)) (v := .slice ax (dY L i l.length).length cx) (xs := dI (dY L i l.length) i l) (by omega) (by rw [bK (by omega)]; omega) hL' (by omega) (by rw [bK (by omega)]; omega) (by omega) (by omega) ?_).d3.swap
                              rw [show ((i + l.length : Nat) : Int) = (i : Int) + l.length from by omega, show ((i + l.length + 16 + (j - i) : Nat) : Int) = ((i + l.length + 16 : Nat) : Int) + ((j : Int) - i) from by omega]
                              exact KU.right.right
                          · (try simp only [aH] at h11)
                            try (exfalso; first | contradiction | omega)
                            all_goals
                              refine ay (ah (aN rfl (bP rfl (bF 5 underlying184 rfl sizeOf3 rfl (dV underlying3 rfl yc.get.2 rfl (aN rfl (aX (dn rfl rfl) (aV rfl (aA (aj (aO rfl (fun h12 => ?_) (fun h12 => ?_))))))))))))
                              · (try simp only [aH] at h12)
                                try (exfalso; first | contradiction | omega)
                                all_goals
                                  refine ah (aN rfl (aN rfl (bP rfl (bF 5 underlying184 rfl sizeOf3 rfl (aG (dA yc sizeOf3 rfl rfl rfl (by rw [iK]; decide)) ?_)))))
                                  rintro _ Vw MP
                                  rw [kR] at MP
                                  refine aA (aQ (aj (ay ?_)))
                                  have oN := MP.DW
                                  refine ah (aX (bW underlying101 rfl sizeOf101 rfl rfl oN.get.2) (aG (dh (cs := fB i (.slice ad ((L.drop i).take (j - i)).length cd) (.slice ai l.length ci)) oN.r6 sizeOf101 rfl rfl rfl rfl (jJ rfl rfl)) ?_))
                                  rintro _ Vx Qh
                                  refine aV rfl (aA (aj (aJ ?_)))
                                  refine eH (.inl rfl) results193 rfl rfl underlying101 rfl (by rw [show (prog.info? 101).map (·.size) = some 3 from by kernel_rfl]; rfl) Qh.get.2 ?_
                                  refine ⟨_, _, rfl, ?_⟩
                                  first
                                    | rw [show bI pt i j l.length = pt + ((l.length : Int) - ((j : Int) - i)) from by unfold bI; rw [if_pos (by omega)]]
                                    | rw [show bI pt i j l.length = (i : Int) + l.length from by unfold bI; rw [if_neg (by omega), if_pos (by omega)]]
                                    | rw [show bI pt i j l.length = pt from by unfold bI; rw [if_neg (by omega), if_neg (by omega)]]
                                  first
                                    | rw [show bJ mk i j l.length = mk + ((l.length : Int) - ((j : Int) - i)) from by unfold bJ; rw [if_pos (by omega)]]
                                    | rw [show bJ mk i j l.length = (i : Int) from by unfold bJ; rw [if_neg (by omega), if_pos (by omega)]]
                                    | rw [show bJ mk i j l.length = mk from by unfold bJ; rw [if_neg (by omega), if_neg (by omega)]]
                                  refine (aB.jH (f := i + l.length) (t := i + l.length + 16 + (j - i)) (v := .slice ax (dY L i l.length).length cx) (xs := dI (dY L i l.length) i l) (by omega) (by rw [bK (by omega)]; omega) hL' (by omega) (by rw [bK (by omega)]; omega) (by omega) (by omega) ?_).d3.swap
                                  rw [show ((i + l.length : Nat) : Int) = (i : Int) + l.length from by omega, show ((i + l.length + 16 + (j - i) : Nat) : Int) = ((i + l.length + 16 : Nat) : Int) + ((j : Int) - i) from by omega]
                                  exact Qh.right.right
                              · (try simp only [aH] at h12)
                                try (exfalso; first | contradiction | omega)
                                all_goals
                                  refine aP (aQ (aj (ay ?_)))
                                  have oN := yc.DW
                                  refine ah (aX (bW underlying101 rfl sizeOf101 rfl rfl oN.get.2) (aG (dh (cs := fB i (.slice ad ((L.drop i).take (j - i)).length cd) (.slice ai l.length ci)) oN.r6 sizeOf101 rfl rfl rfl rfl (jJ rfl rfl)) ?_))
                                  rintro _ Xd Qi
                                  refine aV rfl (aA (aj (aJ ?_)))
                                  refine eH (.inl rfl) results193 rfl rfl underlying101 rfl (by rw [show (prog.info? 101).map (·.size) = some 3 from by kernel_rfl]; rfl) Qi.get.2 ?_
                                  refine ⟨_, _, rfl, ?_⟩
                                  first
                                    | rw [show bI pt i j l.length = pt + ((l.length : Int) - ((j : Int) - i)) from by unfold bI; rw [if_pos (by omega)]]
                                    | rw [show bI pt i j l.length = (i : Int) + l.length from by unfold bI; rw [if_neg (by omega), if_pos (by omega)]]
                                    | rw [show bI pt i j l.length = pt from by unfold bI; rw [if_neg (by omega), if_neg (by omega)]]
                                  first
                                    | rw [show bJ mk i j l.length = mk + ((l.length : Int) - ((j : Int) - i)) from by unfold bJ; rw [if_pos (by omega)]]
                                    | rw [show bJ mk i j l.length = (i : Int) from by unfold bJ; rw [if_neg (by omega), if_pos (by omega)]]
                                    | rw [show bJ mk i j l.length = mk from by unfold bJ; rw [if_neg (by omega), if_neg (by omega)]]
                                  refine (aB.jH (f := i + l.length) (t := i + l.length + 16 + (j - i)) (v := .slice ax (dY L i l.length).length cx) (xs := dI (dY L i l.length) i l) (by omega) (by rw [bK (by omega)]; omega) hL' (by omega) (by rw [bK (by omega)]; omega) (by omega) (by omega) ?_).d3.swap
                                  rw [show ((i + l.length : Nat) : Int) = (i : Int) + l.length from by omega, show ((i + l.length + 16 + (j - i) : Nat) : Int) = ((i + l.length + 16 : Nat) : Int) + ((j : Int) - i) from by omega]
                                  exact Qi.right.right
                      · (try simp only [aH] at h10)
                        try (exfalso; first | contradiction | omega)
                        all_goals
                          refine aP (aQ (aj (ay (bC (ay (ah (aN rfl (bP rfl (bF 5 underlying184 rfl sizeOf3 rfl (dV underlying3 rfl rZ.get.2 rfl (aN rfl (aX (dn rfl rfl) (aV rfl (aA (aj (aO rfl (fun h13 => ?_) (fun h13 => ?_)))))))))))))))))
                          · (try simp only [aH] at h13)
                            try (exfalso; first | contradiction | omega)
                            all_goals
                              refine ah (aN rfl (bP rfl (bF 5 underlying184 rfl sizeOf3 rfl (dV underlying3 rfl rZ.get.2 rfl (aN rfl (aX (fJ underlying22 rfl) (aN rfl (aN rfl (aX (iG rfl rfl (by omega)) (aX (iG rfl rfl (by omega)) (aX (gy rfl rfl (by omega)) (bP rfl (bF 5 underlying184 rfl sizeOf3 rfl (aG (dA rZ sizeOf3 rfl rfl rfl (by rw [iK]; decide)) ?_))))))))))))))
                              rintro _ w29 TJ
                              rw [kR] at TJ
                              refine aA (aQ (aj (ay ?_)))
                              have oN := TJ.DW
                              refine ah (aX (bW underlying101 rfl sizeOf101 rfl rfl oN.get.2) (aG (dh (cs := fB i (.slice ad ((L.drop i).take (j - i)).length cd) (.slice ai l.length ci)) oN.r6 sizeOf101 rfl rfl rfl rfl (jJ rfl rfl)) ?_))
                              rintro _ XJ Oq
                              refine aV rfl (aA (aj (aJ ?_)))
                              refine eH (.inl rfl) results193 rfl rfl underlying101 rfl (by rw [show (prog.info? 101).map (·.size) = some 3 from by kernel_rfl]; rfl) Oq.get.2 ?_
                              refine ⟨_, _, rfl, ?_⟩
                              first
                                | rw [show bI pt i j l.length = pt + ((l.length : Int) - ((j : Int) - i)) from by unfold bI; rw [if_pos (by omega)]]
                                | rw [show bI pt i j l.length = (i : Int) + l.length from by unfold bI; rw [if_neg (by omega), if_pos (by omega)]]
                                | rw [show bI pt i j l.length = pt from by unfold bI; rw [if_neg (by omega), if_neg (by omega)]]
                              first
                                | rw [show bJ mk i j l.length = mk + ((l.length : Int) - ((j : Int) - i)) from by unfold bJ; rw [if_pos (by omega)]]
                                | rw [show bJ mk i j l.length = (i : Int) from by unfold bJ; rw [if_neg (by omega), if_pos (by omega)]]
                                | rw [show bJ mk i j l.length = mk from by unfold bJ; rw [if_neg (by omega), if_neg (by omega)]]
                              refine (aB.jH (f := i + l.length) (t := i + l.length + 16 + (j - i)) (v := .slice ax (dY L i l.length).length cx) (xs := dI (dY L i l.length) i l) (by omega) (by rw [bK (by omega)]; omega) hL' (by omega) (by rw [bK (by omega)]; omega) (by omega) (by omega) ?_).d3.swap
                              rw [show ((i + l.length : Nat) : Int) = (i : Int) + l.length from by omega, show ((i + l.length + 16 + (j - i) : Nat) : Int) = ((i + l.length + 16 : Nat) : Int) + ((j : Int) - i) from by omega]
                              exact Oq.right.right
                          · (try simp only [aH] at h13)
                            try (exfalso; first | contradiction | omega)
                            all_goals
                              refine ay (ah (aN rfl (bP rfl (bF 5 underlying184 rfl sizeOf3 rfl (dV underlying3 rfl rZ.get.2 rfl (aN rfl (aX (dn rfl rfl) (aV rfl (aA (aj (aO rfl (fun h14 => ?_) (fun h14 => ?_))))))))))))
                              · (try simp only [aH] at h14)
                                try (exfalso; first | contradiction | omega)
                                all_goals
                                  refine ah (aN rfl (aN rfl (bP rfl (bF 5 underlying184 rfl sizeOf3 rfl (aG (dA rZ sizeOf3 rfl rfl rfl (by rw [iK]; decide)) ?_)))))
                                  rintro _ Vy Jy
                                  rw [kR] at Jy
                                  refine aA (aQ (aj (ay ?_)))
                                  have oN := Jy.DW
                                  refine ah (aX (bW underlying101 rfl sizeOf101 rfl rfl oN.get.2) (aG (dh (cs := fB i (.slice ad ((L.drop i).take (j - i)).length cd) (.slice ai l.length ci)) oN.r6 sizeOf101 rfl rfl rfl rfl (jJ rfl rfl)) ?_))
                                  rintro _ w32 NS
                                  refine aV rfl (aA (aj (aJ ?_)))
                                  refine eH (.inl rfl) results193 rfl rfl underlying101 rfl (by rw [show (prog.info? 101).map (·.size) = some 3 from by kernel_rfl]; rfl) NS.get.2 ?_
                                  refine ⟨_, _, rfl, ?_⟩
                                  first
                                    | rw [show bI pt i j l.length = pt + ((l.length : Int) - ((j : Int) - i)) from by unfold bI; rw [if_pos (by omega)]]
                                    | rw [show bI pt i j l.length = (i : Int) + l.length from by unfold bI; rw [if_neg (by omega), if_pos (by omega)]]
                                    | rw [show bI pt i j l.length = pt from by unfold bI; rw [if_neg (by omega), if_neg (by omega)]]
                                  first
                                    | rw [show bJ mk i j l.length = mk + ((l.length : Int) - ((j : Int) - i)) from by unfold bJ; rw [if_pos (by omega)]]
                                    | rw [show bJ mk i j l.length = (i : Int) from by unfold bJ; rw [if_neg (by omega), if_pos (by omega)]]
                                    | rw [show bJ mk i j l.length = mk from by unfold bJ; rw [if_neg (by omega), if_neg (by omega)]]
                                  refine (aB.jH (f := i + l.length) (t := i + l.length + 16 + (j - i)) (v := .slice ax (dY L i l.length).length cx) (xs := dI (dY L i l.length) i l) (by omega) (by rw [bK (by omega)]; omega) hL' (by omega) (by rw [bK (by omega)]; omega) (by omega) (by omega) ?_).d3.swap
                                  rw [show ((i + l.length : Nat) : Int) = (i : Int) + l.length from by omega, show ((i + l.length + 16 + (j - i) : Nat) : Int) = ((i + l.length + 16 : Nat) : Int) + ((j : Int) - i) from by omega]
                                  exact NS.right.right
                              · (try simp only [aH] at h14)
                                try (exfalso; first | contradiction | omega)
                                all_goals
                                  refine aP (aQ (aj (ay ?_)))
                                  have oN := rZ.DW
                                  refine ah (aX (bW underlying101 rfl sizeOf101 rfl rfl oN.get.2) (aG (dh (cs := fB i (.slice ad ((L.drop i).take (j - i)).length cd) (.slice ai l.length ci)) oN.r6 sizeOf101 rfl rfl rfl rfl (jJ rfl rfl)) ?_))
                                  rintro _ Xf Jz
                                  refine aV rfl (aA (aj (aJ ?_)))
                                  refine eH (.inl rfl) results193 rfl rfl underlying101 rfl (by rw [show (prog.info? 101).map (·.size) = some 3 from by kernel_rfl]; rfl) Jz.get.2 ?_
                                  refine ⟨_, _, rfl, ?_⟩
                                  first
                                    | rw [show bI pt i j l.length = pt + ((l.length : Int) - ((j : Int) - i)) from by unfold bI; rw [if_pos (by omega)]]
                                    | rw [show bI pt i j l.length = (i : Int) + l.length from by unfold bI; rw [if_neg (by omega), if_pos (by omega)]]
                                    | rw [show bI pt i j l.length = pt from by unfold bI; rw [if_neg (by omega), if_neg (by omega)]]
                                  first
                                    | rw [show bJ mk i j l.length = mk + ((l.length : Int) - ((j : Int) - i)) from by unfold bJ; rw [if_pos (by omega)]]
                                    | rw [show bJ mk i j l.length = (i : Int) from by unfold bJ; rw [if_neg (by omega), if_pos (by omega)]]
                                    | rw [show bJ mk i j l.length = mk from by unfold bJ; rw [if_neg (by omega), if_neg (by omega)]]
                                  refine (aB.jH (f := i + l.length) (t := i + l.length + 16 + (j - i)) (v := .slice ax (dY L i l.length).length cx) (xs := dI (dY L i l.length) i l) (by omega) (by rw [bK (by omega)]; omega) hL' (by omega) (by rw [bK (by omega)]; omega) (by omega) (by omega) ?_).d3.swap
                                  rw [show ((i + l.length : Nat) : Int) = (i : Int) + l.length from by omega, show ((i + l.length + 16 + (j - i) : Nat) : Int) = ((i + l.length + 16 : Nat) : Int) + ((j : Int) - i) from by omega]
                                  exact Jz.right.right
end
end Go.Proofs.YtgndbccogcofjaaGreatDoor
end
section
namespace Go.Proofs.YtgndbccogcofjaaGreatDoor
open Go.RowKit
open _root_.Go.Proofs.Tryz
def QF (n : Nat) (pt x : Int) : Int := if 0 ≤ x ∧ x ≤ n then x else pt
def Si (n : Nat) (x : Int) : Int := if 0 ≤ x ∧ x ≤ n then 0 else 70
def pR (v : Value) (pt mk : Int) : Array Value := #[v, .int .i64 pt, .int .i64 mk]
theorem MS {v : Value} {pt mk : Int} (h : v.oneCell' = true) : ∀ u ∈ (pR v pt mk).toList, u.oneCell' = true := by
  intro u hu
  simp [pR] at hu
  rcases hu with rfl | rfl | rfl
  · exact h
  · rfl
  · rfl
section
variable {w0 w : World} {F : HP} {p : Nat} {L : List Int} {pt mk x : Int} {v : Value} {l : List Int}
theorem FY (H : aB w0 w (dL p L pt mk • F)) : fO prog 111 #[.pointer (some ⟨p, 0, none⟩), .int .i64 x] w fun v w' => v = .int .i64 (Si L.length x) ∧ aB w0 w' (dL p L (QF L.length pt x) mk • F) := by
 refine gB func111 ntmps111 ?_
 dsimp only [bf, Nat.reduceAdd]
 refine ay (ah (aV rfl (aA (aj (ay (bC (ay (ah (aN rfl (bZ rfl func185 (kS H) ?_))))))))))
 rintro _ _ ⟨rfl, rfl⟩
 refine aV rfl (aA (aj (aO rfl (fun h1 => ?_) (fun h1 => ?_))))
 ·(try simp only [aH] at h1)
  exfalso; first | contradiction | omega
 ·(try simp only [aH] at h1)
  try (exfalso; first | contradiction | omega)
  all_goals
   refine ay (ah (aN rfl (aX (eu rfl rfl) (fK rfl (fun h2 => ?_) (fun h2 => ?_)))))
   ·(try simp only [aH] at h2)
    try (exfalso; first | contradiction | omega)
    all_goals
     refine bD (bD (bD (bD (fG rfl rfl (aV rfl (aA (aj (uX (ay (ah (aV rfl (aA (aj (aJ (aW (aK (aI (.inl rfl) results111 rfl ?_)))))))))))))))))
     exact ⟨by rw [Si, if_neg (by omega)], by rw [QF, if_neg (by omega)]; exact H⟩
   ·(try simp only [aH] at h2)
    try (exfalso; first | contradiction | omega)
    all_goals
     refine aZ (aN rfl (aZ (aN rfl (aZ (bZ rfl func186 (kH H) ?_)))))
     rintro _ w2 ⟨rfl, hD⟩
     have HL := H.kV hD
     refine aZ (aX (dn rfl rfl) (eG rfl rfl (aV rfl (aA (aj (aO rfl (fun h3 => ?_) (fun h3 => ?_)))))))
     ·(try simp only [aH] at h3)
      try (exfalso; first | contradiction | omega)
      all_goals
       refine ay (ah (aV rfl (aA (aj (aJ (aW (aK (aI (.inl rfl) results111 rfl ?_))))))))
       exact ⟨by rw [Si, if_neg (by omega)], by rw [QF, if_neg (by omega)]; exact HL⟩
     ·(try simp only [aH] at h3)
      try (exfalso; first | contradiction | omega)
      all_goals
       refine aP (aQ (aj (ay ?_)))
       obtain ⟨a, c, xs, f, t, h11, h12, h13, h14, h15, h16, h17, hc1, hc2, hl, HB⟩ := HL.buf
       refine ah (aN rfl (aN rfl (bP rfl (bF 4 underlying184 rfl sizeOf3 rfl (aG (dA HB sizeOf3 rfl rfl rfl (by rw [iK]; decide)) ?_)))))
       rintro _ w3 H3
       rw [rF] at H3
       refine aA (aj (ay (ah (aV rfl (aA (aj (aJ (aI (.inl rfl) results111 rfl ?_))))))))
       exact ⟨by rw [Si, if_pos (by omega)], by rw [QF, if_pos (by omega)]; exact aB.jH h11 h12 h13 h14 h15 (by omega) h17 H3⟩
theorem FZ (H : aB w0 w (dL p L pt mk • F)) : fO prog 43 #[.pointer (some ⟨p, 0, none⟩)] w fun v' w' => ∃ u, v' = .agg (pR u pt mk) ∧ aB w0 w' (iU 21 .i32 u L • dL p L pt mk • F) := by
 refine gB func43 ntmps43 ?_
 dsimp only [bf, Nat.reduceAdd]
 refine ay (ah (jh (qP H zeroValue53) ?_))
 rintro _ w1 ⟨b1, rfl, H1⟩
 refine aA (aj (ay (ah (aN rfl (bZ rfl func112 (pJ H1.swap) ?_)))))
 rintro u w2 H2
 obtain ⟨au, cu, hu, _⟩ := (H2.aT).form
 subst hu
 refine aN rfl (bZ rfl func113 (oD H2.swap) ?_)
 rintro _ _ ⟨rfl, rfl⟩
 refine aN rfl (bZ rfl func114 (FW H2.swap) ?_)
 rintro _ _ ⟨rfl, rfl⟩
 refine aX (eF (pl := #[(0, 1), (1, 1), (2, 1)]) (pR (.slice au L.length cu) pt mk) underlying53 zeroValue53 (fun w => by kernel_rfl) rfl (by kernel_rfl)) (aG (dh (cs := pR (.slice au L.length cu) pt mk) H2.DW sizeOf53 rfl rfl rfl rfl (MS rfl)) ?_)
 rintro _ w5 H5
 refine aA (aj (aJ ?_))
 refine Qw (.inl rfl) results43 rfl underlying53 rfl (by rw [show (prog.info? 53).map (·.size) = some 3 from by kernel_rfl]; rfl) H5.get.2 ?_
 exact ⟨_, rfl, H5.right⟩
end
end Go.Proofs.YtgndbccogcofjaaGreatDoor
end
section
namespace Go.Proofs.YtgndbccogcofjaaGreatDoor
open Go.RowKit
section
variable {w0 w : World} {F : HP} {p : Nat} {L : List Int} {pt mk : Int} {v : Value} {l : List Int}
end
end Go.Proofs.YtgndbccogcofjaaGreatDoor
end
section
namespace Go.Proofs.YtgndbccogcofjaaGreatDoor
open Go.RowKit
end Go.Proofs.YtgndbccogcofjaaGreatDoor
end
section
namespace Go.Proofs.YtgndbccogcofjaaGreatDoor
open Go.RowKit
section
variable {w0 w : World} {F : HP} {p : Nat} {L : List Int} {pt mk a : Int} {d i : Value} {dl il : List Int}
end
end Go.Proofs.YtgndbccogcofjaaGreatDoor
end
section
namespace Go.Proofs.YtgndbccogcofjaaGreatDoor
open Go.RowKit
open _root_.Go.Proofs.Tryz
def iY (L : List Int) (i j : Int) (l : List Int) : Int := if i < 0 ∨ L.length < i ∨ j < i ∨ L.length < j then 70 else if 1024 < L.length - (j - i) + l.length then 3 else 0
def kW (L : List Int) (i j : Int) (l : List Int) : List Int := if iY L i j l = 0 then L.take i.toNat ++ l ++ L.drop j.toNat else L
def kX (L : List Int) (pt i j : Int) (l : List Int) : Int := if iY L i j l = 0 then bI pt i j l.length else pt
def mG (L : List Int) (mk i j : Int) (l : List Int) : Int := if iY L i j l = 0 then bJ mk i j l.length else mk
def nP (L : List Int) (i j : Int) (l : List Int) : Int := if iY L i j l = 0 then i else 0
def jB (L : List Int) (i j : Int) (l : List Int) : List Int := if iY L i j l = 0 then (L.drop i.toNat).take (j - i).toNat else []
def jC (L : List Int) (i j : Int) (l : List Int) : List Int := if iY L i j l = 0 then l else []
section
variable {w0 w : World} {F : HP} {p : Nat} {L : List Int} {pt mk : Int} {v d s : Value} {l dl il : List Int} {i j a x : Int}
theorem Az (H : aB w0 w (dL p L pt mk • F)) (hr : gW w0 F .i32 v l) :
    fO prog 193 #[.pointer (some ⟨p, 0, none⟩), .int .i64 i, .int .i64 j, v] w fun v' w' => ∃ d s, v' = .tuple #[.agg #[.int .i64 (nP L i j l), d, s], .int .i64 (iY L i j l)] ∧
      aB w0 w' (iU 21 .i32 d (jB L i j l) • iU 21 .i32 s (jC L i j l) • dL p (kW L i j l) (kX L pt i j l) (mG L mk i j l) • F) := by
  unfold nP kW kX mG jB jC
  by_cases h1 : i < 0 ∨ L.length < i ∨ j < i ∨ L.length < j
  · have e : iY L i j l = 70 := by unfold iY; rw [if_pos h1]
    simp only [e, show ¬ (70 : Int) = 0 from by decide, if_false]
    exact (Aw H hr h1).mono fun v' w' h => ⟨_, _, h.1, (h.2.yA none).yA none⟩
  · have h2 : 0 ≤ i ∧ i ≤ j ∧ j ≤ L.length := by omega
    by_cases h3 : 1024 < L.length - (j - i) + l.length
    · have e : iY L i j l = 3 := by unfold iY; rw [if_neg h1, if_pos h3]
      simp only [e, show ¬ (3 : Int) = 0 from by decide, if_false]
      exact (zo H hr h2 h3).mono fun v' w' h => ⟨_, _, h.1, (h.2.yA none).yA none⟩
    · have e : iY L i j l = 0 := by unfold iY; rw [if_neg h1, if_neg h3]
      simp only [e, if_true]
      obtain ⟨i', rfl⟩ := Int.eq_ofNat_of_zero_le h2.1
      obtain ⟨j', rfl⟩ := Int.eq_ofNat_of_zero_le (show 0 ≤ j by omega)
      have hij : i' ≤ j' ∧ j' ≤ L.length := by omega
      have := Cm (i := i') (j := j') H hr hij (by omega)
      simpa only [Int.toNat_natCast, show ((j' : Int) - (i' : Int)).toNat = j' - i' from by omega, fB] using this
def XP (L : List Int) (x : Int) : Int := if x < -1 ∨ L.length < x then 70 else 0
def QG (L : List Int) (mk x : Int) : Int := if x < -1 ∨ L.length < x then mk else x
theorem AA (H : aB w0 w (dL p L pt mk • F)) : fO prog 207 #[.pointer (some ⟨p, 0, none⟩), .int .i64 x] w fun v' w' => v' = .int .i64 (XP L x) ∧ aB w0 w' (dL p L pt (QG L mk x) • F) := by
 unfold XP QG
 have hL : L.length ≤ 1024 := by obtain ⟨a, c, xs, f, t, h1, h2, h3, h4, h5, h6, h7, hc1, hc2, hl, H1⟩ := H.buf; exact h4
 refine gB func207 ntmps207 ?_
 dsimp only [bf, Nat.reduceAdd]
 refine ay (ah (aV rfl (aA (aj (ay (bC (ay (ah (aN rfl (bZ rfl func185 (kS H) ?_))))))))))
 rintro _ _ ⟨rfl, rfl⟩
 refine aV rfl (aA (aj (nN (ay (ah (aN rfl (aX (eu rfl rfl) (fK rfl (fun h1 => ?_) (fun h1 => ?_)))))))))
 ·(try simp only [aH] at h1)
  try (exfalso; first | contradiction | omega)
  all_goals
   refine bD (bD (bD (bD (fG rfl rfl (aV rfl (aA (aj (uX (ay (ah (aV rfl (aA (aj (aJ (aW (aK (aI (.inl rfl) results207 rfl ?_)))))))))))))))))
   exact ⟨by rw [if_pos (by omega)], by rw [if_pos (by omega)]; exact H⟩
 ·(try simp only [aH] at h1)
  try (exfalso; first | contradiction | omega)
  all_goals
   refine aZ (aN rfl (aZ (aN rfl (aZ (bZ rfl func186 (kH H) ?_)))))
   rintro _ w2 ⟨rfl, hD2⟩
   have HD2 := H.kV hD2
   refine aZ (aX (dn rfl rfl) (eG rfl rfl (aV rfl (aA (aj (aO rfl (fun h2 => ?_) (fun h2 => ?_)))))))
   ·(try simp only [aH] at h2)
    try (exfalso; first | contradiction | omega)
    all_goals
     refine ay (ah (aV rfl (aA (aj (aJ (aW (aK (aI (.inl rfl) results207 rfl ?_))))))))
     exact ⟨by rw [if_pos (by omega)], by rw [if_pos (by omega)]; exact HD2⟩
   ·(try simp only [aH] at h2)
    try (exfalso; first | contradiction | omega)
    all_goals
     refine aP (aQ (aj (ay ?_)))
     obtain ⟨XQ, XR, XT, f_p, t_p, QH, QI, QJ, QK, QL, QM, XU, XV, XW, VD, QN⟩ := (HD2).buf
     refine ah (aN rfl (aN rfl (bP rfl (bF 5 underlying184 rfl sizeOf3 rfl (aG (aS 5 (l' := [_, _, _, _, _, _]) QN sizeOf3 rfl rfl (by first | rfl | assumption) rfl rfl) ?_)))))
     rintro _ w4 H4
     refine aA (aj (ay (ah (aV rfl (aA (aj (aJ (aI (.inl rfl) results207 rfl ?_))))))))
     exact ⟨by rw [if_neg (by omega)], by rw [if_neg (by omega)]; exact aB.jH QH QI QJ QK QL QM (by omega) H4.f2.f2⟩
def swE (mk : Int) : Int := if mk < 0 then 6 else 0
def swP (pt mk : Int) : Int := if mk < 0 then pt else mk
def swM (pt mk : Int) : Int := if mk < 0 then mk else pt
theorem D6 (H : aB w0 w (dL p L pt mk • F)) : fO prog 115 #[.pointer (some ⟨p, 0, none⟩)] w fun v' w' => ∃ q, v' = .pointer (some ⟨q, 0, none⟩) ∧ aB w0 w' (dL q L pt mk • dL p L pt mk • F) := by
 refine gB func115 ntmps115 ?_
 dsimp only [bf, Nat.reduceAdd]
 refine ay (ah (aV rfl (aA (aj (ay (ay (ah (aN rfl (bZ rfl func185 (kS H) ?_)))))))))
 rintro _ _ ⟨rfl, rfl⟩
 refine aA (aj (nN (aP (aj (ay ?_)))))
 obtain ⟨XQ, XR, XT, f_p, t_p, QH, QI, QJ, QK, QL, QM, XU, XV, XW, VD, QN⟩ := (H).buf
 refine ah (aN rfl (bP rfl (aX (bW underlying184 rfl sizeOf184 rfl rfl (QN).get.2) (jh (gJ (l := [_, _, _, _, _, _]) QN zeroValue184 rfl) ?_))))
 rintro _ w3 ⟨b3, rfl, H3⟩
 refine aG (cZ 0 (l' := [_, _, _, _, _, _]) (us := [_, _, _, _, _, _]) H3 sizeOf184 rfl rfl rfl (aC (by first | rfl | assumption) (aC (by first | rfl | exact Rd.one ((H3.f3).aT)) (aC (by first | rfl | assumption) (aC (by first | rfl | assumption) (aC (by first | rfl | assumption) (aC (by first | rfl | assumption) bV)))))) rfl rfl) ?_
 rintro _ w4 H4
 refine aA (aj (ay (ah (aN rfl (bP rfl (bF 1 underlying184 rfl sizeOf22 rfl (dV underlying22 rfl (H4.f2).get.2 rfl (bZ rfl func178 (lS H4 (fun W HW => (HW.f3).aT) (by omega)) ?_))))))))
 rintro u5 w5 H5
 refine bF 1 underlying184 rfl sizeOf22 rfl (aG (aS 1 (l' := [_, _, _, _, _, _]) H5.f2 sizeOf22 rfl rfl (by first | rfl | exact Rd.one ((H5).aT)) rfl rfl) ?_)
 rintro _ w6 H6
 refine aA (aj (ay (ah (aV rfl (aA (aj (aJ (aI (.inl rfl) results115 rfl ?_))))))))
 exact ⟨_, rfl, (aB.jH QH QI QJ QK QL QM (by omega) (aB.jH QH QI QJ QK QL QM (by omega) H6.f4.f4.f4.f4).f2.f3.f2).f2⟩
def VE (L : List Int) (a : Int) (dl : List Int) : Bool := decide ((dl.length : Int) ≤ L.length - a) && ((L.drop a.toNat).take dl.length == dl)
def TM (L : List Int) (a : Int) (dl il : List Int) : Int := if a < 0 ∨ L.length < a then 70 else if VE L a dl then iY L a (a + dl.length) il else 71
def XY (L : List Int) (a : Int) (dl il : List Int) : List Int := if TM L a dl il = 0 then kW L a (a + dl.length) il else L
def XZ (L : List Int) (pt a : Int) (dl il : List Int) : Int := if TM L a dl il = 0 then kX L pt a (a + dl.length) il else pt
def X0 (L : List Int) (mk a : Int) (dl il : List Int) : Int := if TM L a dl il = 0 then mG L mk a (a + dl.length) il else mk
end
end Go.Proofs.YtgndbccogcofjaaGreatDoor
end
