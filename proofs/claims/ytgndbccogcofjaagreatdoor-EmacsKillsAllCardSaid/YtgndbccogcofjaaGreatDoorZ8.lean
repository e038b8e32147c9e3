import Derived.Test.YtgndbccogcofjaaGreatDoorZ2
import Derived.Test.YtgndbccogcofjaaGreatDoorZ7
set_option linter.unusedSimpArgs false
set_option linter.unusedVariables false
/- Texts of mine, joined, their names in short: Buf3 LineP BLive Same Apply BufP. -/
section
namespace Go.Proofs.YtgndbccogcofjaaGreatDoor
open Go.RowKit
open _root_.Go.Proofs.Tryz
section
variable {w0 w : World} {F : HP} {p : Nat} {L : List Int} {pt mk : Int} {v : Value} {l : List Int} {i j : Int}
theorem BL {i j : Nat} (H : aB w0 w (dJ p L pt mk • F)) (hr : gJ w0 F .i32 v l) (hb : i ≤ j ∧ j ≤ L.length) (hl : (L.length : Int) - ((j : Int) - i) + l.length ≤ 1024) :
    fA prog 193 #[.pointer (some ⟨p, 0, none⟩), .int .i64 i, .int .i64 j, v] w fun v' w' => ∃ d s, v' = .tuple #[.agg (eF i d s), .int .i64 0] ∧
      aB w0 w' (iL 21 .i32 d ((L.drop i).take (j - i)) • iL 21 .i32 s l • dJ p (L.take i ++ l ++ L.drop j) (bI pt i j l.length) (bJ mk i j l.length) • F) := by
  obtain ⟨a, c, rfl, hac, Qq, _⟩ := (hr w H.right).open
  obtain ⟨hL4, hpt, hmk⟩ : L.length ≤ 1024 ∧ (0 ≤ pt ∧ pt ≤ L.length) ∧ (-1 ≤ mk ∧ mk ≤ L.length) := by obtain ⟨a, c, xs, f, t, h1, h2, h3, h4, h5, h6, h7, hc1, hc2, hl, H1⟩ := H.buf; exact ⟨h4, h6, h7⟩
  have hg1 := Jo (L := L) (i := i) (r := l.length) (by omega)
  have hg2 := Ht (L := L) (i := i) (r := l.length) (by omega)
  have hg3 := Hu (L := L) (i := i) (r := l.length) (by omega)
  have hL' : L.take i ++ l ++ L.drop j = (dH (dV L i l.length) i l).take (i + l.length) ++ (dH (dV L i l.length) i l).drop (i + l.length + 16 + (j - i)) := by
    rw [zN (by omega), Hr (by omega) (by omega), hg2]
    congr 1
    rw [← List.drop_drop, hg3, List.drop_drop]
    congr 1; omega
  have hlen' : (L.take i ++ l ++ L.drop j).length = L.length - (j - i) + l.length := by simp; omega
  refine fU func193 ntmps193 ?_
  dsimp only [aY, Nat.reduceAdd]
  refine ay (ah (ji (qK H zeroValue101) ?_))
  rintro _ w1 ⟨b1, rfl, H1⟩
  refine aU rfl (aA (aj (ay (ah (aO rfl (bZ rfl func186 (jV H1.right) ?_))))))
  rintro _ w2 ⟨rfl, hD⟩
  have HL := H1.qI hD
  refine aU rfl (aA (aj (ay (bC (ay (ah (aO rfl (bZ rfl func185 (kJ HL.right) ?_))))))))
  rintro _ _ ⟨rfl, rfl⟩
  refine aU rfl (aA (aj (aN rfl (fun h1 => ?_) (fun h1 => ?_))))
  · (try simp only [aH] at h1)
    try (exfalso; first | contradiction | omega)
    all_goals
      refine ay (ah (aW (dW (pl := #[(0, 1), (1, 1), (2, 1)]) (_) underlying101 zeroValue101 (fun w => by kernel_rfl) rfl (rfl)) (aG (dA HL sizeOf101 rfl rfl rfl (by decide)) ?_)))
      rintro _ w4 H4
      refine aU rfl (aA (aj (aJ (aV (aK ?_)))))
      refine dX (.inl rfl) results193 rfl rfl underlying101 rfl (by rw [show (prog.info? 101).map (·.size) = some 3 from by kernel_rfl]; rfl) H4.get.2 ?_
      refine ⟨_, _, rfl, ?_⟩
      first
        | rw [show bI pt i j l.length = pt + ((l.length : Int) - ((j : Int) - i)) from by unfold bI; rw [if_pos (by omega)]]
        | rw [show bI pt i j l.length = (i : Int) + l.length from by unfold bI; rw [if_neg (by omega), if_pos (by omega)]]
        | rw [show bI pt i j l.length = pt from by unfold bI; rw [if_neg (by omega), if_neg (by omega)]]
      first
        | rw [show bJ mk i j l.length = mk + ((l.length : Int) - ((j : Int) - i)) from by unfold bJ; rw [if_pos (by omega)]]
        | rw [show bJ mk i j l.length = (i : Int) from by unfold bJ; rw [if_neg (by omega), if_pos (by omega)]]
        | rw [show bJ mk i j l.length = mk from by unfold bJ; rw [if_neg (by omega), if_neg (by omega)]]
      refine (aB.jw (f := i + l.length) (t := i + l.length + 16 + (j - i)) (v := .slice ax (dV L i l.length).length cx) (xs := dH (dV L i l.length) i l) (by omega) (by rw [bK (by omega)]; omega) hL' (by omega) (by rw [bK (by omega)]; omega) (by omega) (by omega) ?_).d3.swap
      rw [show ((i + l.length : Nat) : Int) = (i : Int) + l.length from by omega, show ((i + l.length + 16 + (j - i) : Nat) : Int) = ((i + l.length + 16 : Nat) : Int) + ((j : Int) - i) from by omega]
      exact H4.right.right
  · (try simp only [aH] at h1)
    try (exfalso; first | contradiction | omega)
    all_goals
      refine ay (ah (aO rfl (aW (fE rfl rfl) (gB rfl (fun h2 => ?_) (fun h2 => ?_)))))
      · (try simp only [aH] at h2)
        try (exfalso; first | contradiction | omega)
        all_goals
          refine bD (bD (bD (fQ rfl rfl (aO rfl (bD (bD (bD (fQ rfl rfl (aO rfl (bD (bD (bD (fQ rfl rfl (aU rfl (aA (aj (wB (ay (ah (aW (dW (pl := #[(0, 1), (1, 1), (2, 1)]) (_) underlying101 zeroValue101 (fun w => by kernel_rfl) rfl (rfl)) (aG (dA HL sizeOf101 rfl rfl rfl (by decide)) ?_)))))))))))))))))))))
          rintro _ w5 H5
          refine aU rfl (aA (aj (aJ (aV (aK ?_)))))
          refine dX (.inl rfl) results193 rfl rfl underlying101 rfl (by rw [show (prog.info? 101).map (·.size) = some 3 from by kernel_rfl]; rfl) H5.get.2 ?_
          refine ⟨_, _, rfl, ?_⟩
          first
            | rw [show bI pt i j l.length = pt + ((l.length : Int) - ((j : Int) - i)) from by unfold bI; rw [if_pos (by omega)]]
            | rw [show bI pt i j l.length = (i : Int) + l.length from by unfold bI; rw [if_neg (by omega), if_pos (by omega)]]
            | rw [show bI pt i j l.length = pt from by unfold bI; rw [if_neg (by omega), if_neg (by omega)]]
          first
            | rw [show bJ mk i j l.length = mk + ((l.length : Int) - ((j : Int) - i)) from by unfold bJ; rw [if_pos (by omega)]]
            | rw [show bJ mk i j l.length = (i : Int) from by unfold bJ; rw [if_neg (by omega), if_pos (by omega)]]
            | rw [show bJ mk i j l.length = mk from by unfold bJ; rw [if_neg (by omega), if_neg (by omega)]]
          refine (aB.jw (f := i + l.length) (t := i + l.length + 16 + (j - i)) (v := .slice ax (dV L i l.length).length cx) (xs := dH (dV L i l.length) i l) (by omega) (by rw [bK (by omega)]; omega) hL' (by omega) (by rw [bK (by omega)]; omega) (by omega) (by omega) ?_).d3.swap
          rw [show ((i + l.length : Nat) : Int) = (i : Int) + l.length from by omega, show ((i + l.length + 16 + (j - i) : Nat) : Int) = ((i + l.length + 16 : Nat) : Int) + ((j : Int) - i) from by omega]
          exact H5.right.right
      · (try simp only [aH] at h2)
        try (exfalso; first | contradiction | omega)
        all_goals
          refine bf (aO rfl (bf (aO rfl (bf (aW (dn rfl rfl) (fG rfl rfl (gB rfl (fun h3 => ?_) (fun h3 => ?_))))))))
          · (try simp only [aH] at h3)
            try (exfalso; first | contradiction | omega)
            all_goals
              refine bD (bD (bD (fQ rfl rfl (aO rfl (bD (bD (bD (fQ rfl rfl (aU rfl (aA (aj (wB (ay (ah (aW (dW (pl := #[(0, 1), (1, 1), (2, 1)]) (_) underlying101 zeroValue101 (fun w => by kernel_rfl) rfl (rfl)) (aG (dA HL sizeOf101 rfl rfl rfl (by decide)) ?_))))))))))))))))
              rintro _ w6 H6
              refine aU rfl (aA (aj (aJ (aV (aK ?_)))))
              refine dX (.inl rfl) results193 rfl rfl underlying101 rfl (by rw [show (prog.info? 101).map (·.size) = some 3 from by kernel_rfl]; rfl) H6.get.2 ?_
              refine ⟨_, _, rfl, ?_⟩
              first
                | rw [show bI pt i j l.length = pt + ((l.length : Int) - ((j : Int) - i)) from by unfold bI; rw [if_pos (by omega)]]
                | rw [show bI pt i j l.length = (i : Int) + l.length from by unfold bI; rw [if_neg (by omega), if_pos (by omega)]]
                | rw [show bI pt i j l.length = pt from by unfold bI; rw [if_neg (by omega), if_neg (by omega)]]
              first
                | rw [show bJ mk i j l.length = mk + ((l.length : Int) - ((j : Int) - i)) from by unfold bJ; rw [if_pos (by omega)]]
                | rw [show bJ mk i j l.length = (i : Int) from by unfold bJ; rw [if_neg (by omega), if_pos (by omega)]]
                | rw [show bJ mk i j l.length = mk from by unfold bJ; rw [if_neg (by omega), if_neg (by omega)]]
              refine (aB.jw (f := i + l.length) (t := i + l.length + 16 + (j - i)) (v := .slice ax (dV L i l.length).length cx) (xs := dH (dV L i l.length) i l) (by omega) (by rw [bK (by omega)]; omega) hL' (by omega) (by rw [bK (by omega)]; omega) (by omega) (by omega) ?_).d3.swap
              rw [show ((i + l.length : Nat) : Int) = (i : Int) + l.length from by omega, show ((i + l.length + 16 + (j - i) : Nat) : Int) = ((i + l.length + 16 : Nat) : Int) + ((j : Int) - i) from by omega]
              exact H6.right.right
          · (try simp only [aH] at h3)
            try (exfalso; first | contradiction | omega)
            all_goals
              refine bf (aO rfl (bf (aO rfl (bf (aW (fE rfl rfl) (fG rfl rfl (gB rfl (fun h4 => ?_) (fun h4 => ?_))))))))
              · (try simp only [aH] at h4)
                try (exfalso; first | contradiction | omega)
                all_goals
                  refine bD (bD (bD (fQ rfl rfl (aU rfl (aA (aj (wB (ay (ah (aW (dW (pl := #[(0, 1), (1, 1), (2, 1)]) (_) underlying101 zeroValue101 (fun w => by kernel_rfl) rfl (rfl)) (aG (dA HL sizeOf101 rfl rfl rfl (by decide)) ?_)))))))))))
                  rintro _ w7 H7
                  refine aU rfl (aA (aj (aJ (aV (aK ?_)))))
                  refine dX (.inl rfl) results193 rfl rfl underlying101 rfl (by rw [show (prog.info? 101).map (·.size) = some 3 from by kernel_rfl]; rfl) H7.get.2 ?_
                  refine ⟨_, _, rfl, ?_⟩
                  first
                    | rw [show bI pt i j l.length = pt + ((l.length : Int) - ((j : Int) - i)) from by unfold bI; rw [if_pos (by omega)]]
                    | rw [show bI pt i j l.length = (i : Int) + l.length from by unfold bI; rw [if_neg (by omega), if_pos (by omega)]]
                    | rw [show bI pt i j l.length = pt from by unfold bI; rw [if_neg (by omega), if_neg (by omega)]]
                  first
                    | rw [show bJ mk i j l.length = mk + ((l.length : Int) - ((j : Int) - i)) from by unfold bJ; rw [if_pos (by omega)]]
                    | rw [show bJ mk i j l.length = (i : Int) from by unfold bJ; rw [if_neg (by omega), if_pos (by omega)]]
                    | rw [show bJ mk i j l.length = mk from by unfold bJ; rw [if_neg (by omega), if_neg (by omega)]]
                  refine (aB.jw (f := i + l.length) (t := i + l.length + 16 + (j - i)) (v := .slice ax (dV L i l.length).length cx) (xs := dH (dV L i l.length) i l) (by omega) (by rw [bK (by omega)]; omega) hL' (by omega) (by rw [bK (by omega)]; omega) (by omega) (by omega) ?_).d3.swap
                  rw [show ((i + l.length : Nat) : Int) = (i : Int) + l.length from by omega, show ((i + l.length + 16 + (j - i) : Nat) : Int) = ((i + l.length + 16 : Nat) : Int) + ((j : Int) - i) from by omega]
                  exact H7.right.right
              · (try simp only [aH] at h4)
                try (exfalso; first | contradiction | omega)
                all_goals
                  refine bf (aO rfl (bf (aO rfl (bf (aW (dn rfl rfl) (fG rfl rfl (aU rfl (aA (aj (aN rfl (fun h => by exfalso; (try simp only [aH] at h); first | contradiction | omega | (simp at h <;> omega)) (fun h5 => ?_)))))))))))
                  (try simp only [aH] at h5)
                  refine ay (ah (aO rfl (aW (fJ underlying22 rfl) (aO rfl (aO rfl (aO rfl (aW (iq rfl rfl (by omega)) (aW (iq rfl rfl (by omega)) (aW (iq rfl rfl (by omega)) (aW (dn rfl rfl) (aU rfl (aA (aj (aN rfl (fun h => by exfalso; (try simp only [aH] at h); first | contradiction | omega | (simp at h <;> omega)) (fun h6 => ?_)))))))))))))))
                  (try simp only [aH] at h6)
                  refine aP (aS (aj (ay (ah (aO rfl (aO rfl (bZ rfl func112 (oW HL.swap) ?_)))))))
                  rintro u w8 H8
                  obtain ⟨au, cu, hu, _⟩ := (H8.aT).form
                  subst hu
                  refine aO rfl (aO rfl (aW (nV underlying22 sizeOf21 rfl rfl rfl (by omega)) (bZ rfl func178 (lG H8 (fun W HW => jR.cut HW.aT (i := i) (j := j) (by omega) (by omega)) (by simp; omega)) ?_)))
                  rintro d w9 H9
                  have HC := H9.swap.right
                  obtain ⟨ad, cd, hd, _⟩ := (HC.aT).form
                  subst hd
                  refine aO rfl (bZ rfl func178 (lG HC hr.under.under.under (by omega)) ?_)
                  rintro s w10 mJ
                  obtain ⟨ai, ci, hs, _⟩ := (mJ.aT).form
                  subst hs
                  refine aW (dW (pl := #[(0, 1), (1, 1), (2, 1)]) (eF i (.slice ad ((L.drop i).take (j - i)).length cd) (.slice ai l.length ci)) underlying101 zeroValue101 (fun w => by kernel_rfl) rfl (by kernel_rfl)) (ji (qK mJ zeroValue101) ?_)
                  rintro _ He ⟨b11, rfl, uO⟩
                  refine aG (dh (cs := eF i (.slice ad ((L.drop i).take (j - i)).length cd) (.slice ai l.length ci)) uO sizeOf101 rfl rfl rfl rfl (jy rfl rfl)) ?_
                  rintro _ w12 wE
                  refine aA (aj (ay (ah (aO rfl (aO rfl (aO rfl (aW (fJ underlying22 rfl) (bZ rfl func229 (FC wE.r4 (by omega) (by omega)) ?_))))))))
                  rintro _ ND ⟨x, vY⟩
                  obtain ⟨ax, cx, hx, _⟩ := (vY.swap.aT).form
                  subst hx
                  refine aA (aj (ay (ah (aO rfl (bP rfl (bg 3 underlying184 rfl sizeOf3 rfl (dS underlying3 rfl vY.get.2 rfl (aO rfl (aO rfl (aW (iq rfl rfl (by omega)) (aW (fP rfl rfl (by omega)) (bP rfl (bg 3 underlying184 rfl sizeOf3 rfl (aG (dA vY sizeOf3 rfl rfl rfl (by rw [iF]; decide)) ?_))))))))))))))
                  rintro _ Me yc
                  rw [wZ] at yc
                  have XA := yc.get.2
                  refine aA (aj (ay ?_))
                  refine jU (n := 11) [0, 1, 2, 3, 4, 5, 6, 7, 8, 9, 10] (fun W => W.heap[p]? = some (.cells (dM (.slice ax (dV L i l.length).length cx) i ((i + l.length + 16 : Nat) + ((j : Int) - i)) pt mk) 184 (0, 0))) (by kernel_rfl) (by kernel_rfl) rfl ?_
                  have hS0 : (fun W => W.heap[p]? = some (.cells (dM (.slice ax (dV L i l.length).length cx) i ((i + l.length + 16 : Nat) + ((j : Int) - i)) pt mk) 184 (0, 0))) (Me.drew) := XA
                  have Oj := yc.drew
                  refine iE 0 rfl hS0 rfl (jF 1 rfl hS0 rfl (gG 2 rfl hS0 1 underlying184 rfl sizeOf22 rfl (je 3 rfl hS0 (fun W hW => jE underlying22 rfl hW rfl) (iE 4 rfl hS0 rfl (jF 5 rfl hS0 rfl (gG 6 rfl hS0 2 underlying184 rfl sizeOf3 rfl (je 7 rfl hS0 (fun W hW => jE underlying3 rfl hW rfl) (jc 8 rfl hS0 (fun _ => nV underlying22 sizeOf21 rfl rfl rfl (by omega)) (iE 9 rfl hS0 rfl (jQ 10 rfl (uU (i := i) (m := l) Oj.swap (hr _ Oj.right.right.right.right.right.right) underlying22 (by kernel_rfl) rfl rfl (by omega)) ?_))))))))))
                  rintro _ Oe ⟨rfl, xO⟩
                  have HS := xO.swap
                  refine Ba (by kernel_rfl) ?_
                  refine pU (aj (ay (ah (aO rfl (bP rfl (bg 2 underlying184 rfl sizeOf3 rfl (dS underlying3 rfl HS.get.2 rfl (aO rfl (aW (fJ underlying22 rfl) (aW (fP rfl rfl (by omega)) (bP rfl (bg 2 underlying184 rfl sizeOf3 rfl (aG (dA HS sizeOf3 rfl rfl rfl (by rw [iF]; decide)) ?_)))))))))))))
                  rintro _ w16 tJ
                  rw [tK] at tJ
                  refine aA (aj (ay (bC (ay (ah (aO rfl (bP rfl (bg 4 underlying184 rfl sizeOf3 rfl (dS underlying3 rfl tJ.get.2 rfl (aO rfl (aW (dn rfl rfl) (aU rfl (aA (aj (aN rfl (fun h7 => ?_) (fun h7 => ?_))))))))))))))))
                  · (try simp only [aH] at h7)
                    try (exfalso; first | contradiction | omega)
                    all_goals
                      refine ah (aO rfl (bP rfl (bg 4 underlying184 rfl sizeOf3 rfl (dS underlying3 rfl tJ.get.2 rfl (aO rfl (aW (fJ underlying22 rfl) (aO rfl (aO rfl (aW (iq rfl rfl (by omega)) (aW (iq rfl rfl (by omega)) (aW (fP rfl rfl (by omega)) (bP rfl (bg 4 underlying184 rfl sizeOf3 rfl (aG (dA tJ sizeOf3 rfl rfl rfl (by rw [iF]; decide)) ?_))))))))))))))
                      rintro _ Uw Fj
                      rw [qY] at Fj
                      refine aA (aS (aj (ay (bC (ay (ah (aO rfl (bP rfl (bg 5 underlying184 rfl sizeOf3 rfl (dS underlying3 rfl Fj.get.2 rfl (aO rfl (aW (dn rfl rfl) (aU rfl (aA (aj (aN rfl (fun h8 => ?_) (fun h8 => ?_)))))))))))))))))
                      · (try simp only [aH] at h8)
                        try (exfalso; first | contradiction | omega)
                        all_goals
                          refine ah (aO rfl (bP rfl (bg 5 underlying184 rfl sizeOf3 rfl (dS underlying3 rfl Fj.get.2 rfl (aO rfl (aW (fJ underlying22 rfl) (aO rfl (aO rfl (aW (iq rfl rfl (by omega)) (aW (iq rfl rfl (by omega)) (aW (fP rfl rfl (by omega)) (bP rfl (bg 5 underlying184 rfl sizeOf3 rfl (aG (dA Fj sizeOf3 rfl rfl rfl (by rw [iF]; decide)) ?_))))))))))))))
                          rintro _ Rx Ei
                          rw [kH] at Ei
                          refine aA (aS (aj (ay ?_)))
                          have oM := Ei.Dx
                          refine ah (aW (bW underlying101 rfl sizeOf101 rfl rfl oM.get.2) (aG (dh (cs := eF i (.slice ad ((L.drop i).take (j - i)).length cd) (.slice ai l.length ci)) oM.r6 sizeOf101 rfl rfl rfl rfl (jy rfl rfl)) ?_))
                          rintro _ RF BF
                          refine aU rfl (aA (aj (aJ ?_)))
                          refine dX (.inl rfl) results193 rfl rfl underlying101 rfl (by rw [show (prog.info? 101).map (·.size) = some 3 from by kernel_rfl]; rfl) BF.get.2 ?_
                          refine ⟨_, _, rfl, ?_⟩
                          first
                            | rw [show bI pt i j l.length = pt + ((l.length : Int) - ((j : Int) - i)) from by unfold bI; rw [if_pos (by omega)]]
                            | rw [show bI pt i j l.length = (i : Int) + l.length from by unfold bI; rw [if_neg (by omega), if_pos (by omega)]]
                            | rw [show bI pt i j l.length = pt from by unfold bI; rw [if_neg (by omega), if_neg (by omega)]]
                          first
                            | rw [show bJ mk i j l.length = mk + ((l.length : Int) - ((j : Int) - i)) from by unfold bJ; rw [if_pos (by omega)]]
                            | rw [show bJ mk i j l.length = (i : Int) from by unfold bJ; rw [if_neg (by omega), if_pos (by omega)]]
                            | rw [show bJ mk i j l.length = mk from by unfold bJ; rw [if_neg (by omega), if_neg (by omega)]]
                          refine (aB.jw (f := i + l.length) (t := i + l.length + 16 + (j - i)) (v := .slice ax (dV L i l.length).length cx) (xs := dH (dV L i l.length) i l) (by omega) (by rw [bK (by omega)]; omega) hL' (by omega) (by rw [bK (by omega)]; omega) (by omega) (by omega) ?_).d3.swap
                          rw [show ((i + l.length : Nat) : Int) = (i : Int) + l.length from by omega, show ((i + l.length + 16 + (j - i) : Nat) : Int) = ((i + l.length + 16 : Nat) : Int) + ((j : Int) - i) from by omega]
                          exact BF.right.right
                      · (try simp only [aH] at h8)
                        try (exfalso; first | contradiction | omega)
                        all_goals
                          refine ay (ah (aO rfl (bP rfl (bg 5 underlying184 rfl sizeOf3 rfl (dS underlying3 rfl Fj.get.2 rfl (aO rfl (aW (dn rfl rfl) (aU rfl (aA (aj (aN rfl (fun h9 => ?_) (fun h9 => ?_))))))))))))
                          · (try simp only [aH] at h9)
                            try (exfalso; first | contradiction | omega)
                            all_goals
                              refine ah (aO rfl (aO rfl (bP rfl (bg 5 underlying184 rfl sizeOf3 rfl (aG (dA Fj sizeOf3 rfl rfl rfl (by rw [iF]; decide)) ?_)))))
                              rintro _ Ry xM
                              rw [kH] at xM
                              refine aA (aS (aj (ay ?_)))
                              have oM := xM.Dx
                              refine ah (aW (bW underlying101 rfl sizeOf101 rfl rfl oM.get.2) (aG (dh (cs := eF i (.slice ad ((L.drop i).take (j - i)).length cd) (.slice ai l.length ci)) oM.r6 sizeOf101 rfl rfl rfl rfl (jy rfl rfl)) ?_))
                              rintro _ Ti oM
                              refine aU rfl (aA (aj (aJ ?_)))
                              refine dX (.inl rfl) results193 rfl rfl underlying101 rfl (by rw [show (prog.info? 101).map (·.size) = some 3 from by kernel_rfl]; rfl) oM.get.2 ?_
                              refine ⟨_, _, rfl, ?_⟩
                              first
                                | rw [show bI pt i j l.length = pt + ((l.length : Int) - ((j : Int) - i)) from by unfold bI; rw [if_pos (by omega)]]
                                | rw [show bI pt i j l.length = (i : Int) + l.length from by unfold bI; rw [if_neg (by omega), if_pos (by omega)]]
                                | rw [show bI pt i j l.length = pt from by unfold bI; rw [if_neg (by omega), if_neg (by omega)]]
                              first
                                | rw [show bJ mk i j l.length = mk + ((l.length : Int) - ((j : Int) - i)) from by unfold bJ; rw [if_pos (by omega)]]
                                | rw [show bJ mk i j l.length = (i : Int) from by unfold bJ; rw [if_neg (by omega), if_pos (by omega)]]
                                | rw [show bJ mk i j l.length = mk from by unfold bJ; rw [if_neg (by omega), if_neg (by omega)]]
                              refine (aB.jw (f := i + l.length) (t := i + l.length + 16 + (j - i)) (v := .slice ax (dV L i l.length).length cx) (xs := dH (dV L i l.length) i l) (by omega) (by rw [bK (by omega)]; omega) hL' (by omega) (by rw [bK (by omega)]; omega) (by omega) (by omega) ?_).d3.swap
                              rw [show ((i + l.length : Nat) : Int) = (i : Int) + l.length from by omega, show ((i + l.length + 16 + (j - i) : Nat) : Int) = ((i + l.length + 16 : Nat) : Int) + ((j : Int) - i) from by omega]
                              exact oM.right.right
                          · (try simp only [aH] at h9)
                            try (exfalso; first | contradiction | omega)
                            all_goals
                              refine aP (aS (aj (ay ?_)))
                              have oM := Fj.Dx
                              refine ah (aW (bW underlying101 rfl sizeOf101 rfl rfl oM.get.2) (aG (dh (cs := eF i (.slice ad ((L.drop i).take (j - i)).length cd) (.slice ai l.length ci)) oM.r6 sizeOf101 rfl rfl rfl rfl (jy rfl rfl)) ?_))
                              rintro _ WS GV
                              refine aU rfl (aA (aj (aJ ?_)))
                              refine dX (.inl rfl) results193 rfl rfl underlying101 rfl (by rw [show (prog.info? 101).map (·.size) = some 3 from by kernel_rfl]; rfl) GV.get.2 ?_
                              refine ⟨_, _, rfl, ?_⟩
                              first
                                | rw [show bI pt i j l.length = pt + ((l.length : Int) - ((j : Int) - i)) from by unfold bI; rw [if_pos (by omega)]]
                                | rw [show bI pt i j l.length = (i : Int) + l.length from by unfold bI; rw [if_neg (by omega), if_pos (by omega)]]
                                | rw [show bI pt i j l.length = pt from by unfold bI; rw [if_neg (by omega), if_neg (by omega)]]
                              first
                                | rw [show bJ mk i j l.length = mk + ((l.length : Int) - ((j : Int) - i)) from by unfold bJ; rw [if_pos (by omega)]]
                                | rw [show bJ mk i j l.length = (i : Int) from by unfold bJ; rw [if_neg (by omega), if_pos (by omega)]]
                                | rw [show bJ mk i j l.length = mk from by unfold bJ; rw [if_neg (by omega), if_neg (by omega)]]
                              refine (aB.jw (f := i + l.length) (t := i + l.length + 16 + (j - i)) (v := .slice ax (dV L i l.length).length cx) (xs := dH (dV L i l.length) i l) (by omega) (by rw [bK (by omega)]; omega) hL' (by omega) (by rw [bK (by omega)]; omega) (by omega) (by omega) ?_).d3.swap
                              rw [show ((i + l.length : Nat) : Int) = (i : Int) + l.length from by omega, show ((i + l.length + 16 + (j - i) : Nat) : Int) = ((i + l.length + 16 : Nat) : Int) + ((j : Int) - i) from by omega]
                              exact GV.right.right
                  · (try simp only [aH] at h7)
                    try (exfalso; first | contradiction | omega)
                    all_goals
                      refine ay (ah (aO rfl (bP rfl (bg 4 underlying184 rfl sizeOf3 rfl (dS underlying3 rfl tJ.get.2 rfl (aO rfl (aW (jH rfl rfl) (aU rfl (aA (aj (aN rfl (fun h10 => ?_) (fun h10 => ?_))))))))))))
                      · (try simp only [aH] at h10)
                        try (exfalso; first | contradiction | omega)
                        all_goals
                          refine ah (aO rfl (aO rfl (aO rfl (aW (fJ underlying22 rfl) (aW (fP rfl rfl (by omega)) (bP rfl (bg 4 underlying184 rfl sizeOf3 rfl (aG (dA tJ sizeOf3 rfl rfl rfl (by rw [iF]; decide)) ?_))))))))
                          rintro _ RG yR
                          rw [qY] at yR
                          refine aA (aS (aj (ay (bC (ay (ah (aO rfl (bP rfl (bg 5 underlying184 rfl sizeOf3 rfl (dS underlying3 rfl yR.get.2 rfl (aO rfl (aW (dn rfl rfl) (aU rfl (aA (aj (aN rfl (fun h11 => ?_) (fun h11 => ?_)))))))))))))))))
                          · (try simp only [aH] at h11)
                            try (exfalso; first | contradiction | omega)
                            all_goals
                              refine ah (aO rfl (bP rfl (bg 5 underlying184 rfl sizeOf3 rfl (dS underlying3 rfl yR.get.2 rfl (aO rfl (aW (fJ underlying22 rfl) (aO rfl (aO rfl (aW (iq rfl rfl (by omega)) (aW (iq rfl rfl (by omega)) (aW (fP rfl rfl (by omega)) (bP rfl (bg 5 underlying184 rfl sizeOf3 rfl (aG (dA yR sizeOf3 rfl rfl rfl (by rw [iF]; decide)) ?_))))))))))))))
                              rintro _ WT MB
                              rw [kH] at MB
                              refine aA (aS (aj (ay ?_)))
                              have oM := MB.Dx
                              refine ah (aW (bW underlying101 rfl sizeOf101 rfl rfl oM.get.2) (aG (dh (cs := eF i (.slice ad ((L.drop i).take (j - i)).length cd) (.slice ai l.length ci)) oM.r6 sizeOf101 rfl rfl rfl rfl (jy rfl rfl)) ?_))
                              rintro _ WU KG
                              refine aU rfl (aA (aj (aJ ?_)))
                              refine dX (.inl rfl) results193 rfl rfl underlying101 rfl (by rw [show (prog.info? 101).map (·.size) = some 3 from by kernel_rfl]; rfl) KG.get.2 ?_
                              refine ⟨_, _, rfl, ?_⟩
                              first
                                | rw [show bI pt i j l.length = pt + ((l.length : Int) - ((j : Int) - i)) from by unfold bI; rw [if_pos (by omega)]]
                                | rw [show bI pt i j l.length = (i : Int) + l.length from by unfold bI; rw [if_neg (by omega), if_pos (by omega)]]
                                | rw [show bI pt i j l.length = pt from by unfold bI; rw [if_neg (by omega), if_neg (by omega)]]
                              first
                                | rw [show bJ mk i j l.length = mk + ((l.length : Int) - ((j : Int) - i)) from by unfold bJ; rw [if_pos (by omega)]]
                                | rw [show bJ mk i j l.length = (i : Int) from by unfold bJ; rw [if_neg (by omega), if_pos (by omega)]]
                                | rw [show bJ mk i j l.length = mk from by unfold bJ; rw [if_neg (by omega), if_neg (by omega)]]
                              refine (aB.jw (f := i + l.length) (t := i + l.length + 16 + (j - i)) (v := .slice ax (dV L i l.length).length cx) (xs := dH (dV L i l.length) i l) (by omega) (by rw [bK (by omega)]; omega) hL' (by omega) (by rw [bK (by omega)]; omega) (by omega) (by omega) ?_).d3.swap
                              rw [show ((i + l.length : Nat) : Int) = (i : Int) + l.length from by omega, show ((i + l.length + 16 + (j - i) : Nat) : Int) = ((i + l.length + 16 : Nat) : Int) + ((j : Int) - i) from by omega]
                              exact KG.right.right
                          · (try simp only [aH] at h11)
                            try (exfalso; first | contradiction | omega)
                            all_goals
                              refine ay (ah (aO rfl (bP rfl (bg 5 underlying184 rfl sizeOf3 rfl (dS underlying3 rfl yR.get.2 rfl (aO rfl (aW (dn rfl rfl) (aU rfl (aA (aj (aN rfl (fun h12 => ?_) (fun h12 => ?_))))))))))))
                              · (try simp only [aH] at h12)
                                try (exfalso; first | contradiction | omega)
                                all_goals
                                  refine ah (aO rfl (aO rfl (bP rfl (bg 5 underlying184 rfl sizeOf3 rfl (aG (dA yR sizeOf3 rfl rfl rfl (by rw [iF]; decide)) ?_)))))
                                  rintro _ Vg MF
                                  rw [kH] at MF
                                  refine aA (aS (aj (ay ?_)))
                                  have oM := MF.Dx
                                  refine ah (aW (bW underlying101 rfl sizeOf101 rfl rfl oM.get.2) (aG (dh (cs := eF i (.slice ad ((L.drop i).take (j - i)).length cd) (.slice ai l.length ci)) oM.r6 sizeOf101 rfl rfl rfl rfl (jy rfl rfl)) ?_))
                                  rintro _ Vh PZ
                                  refine aU rfl (aA (aj (aJ ?_)))
                                  refine dX (.inl rfl) results193 rfl rfl underlying101 rfl (by rw [show (prog.info? 101).map (·.size) = some 3 from by kernel_rfl]; rfl) PZ.get.2 ?_
                                  refine ⟨_, _, rfl, ?_⟩
                                  first
                                    | rw [show bI pt i j l.length = pt + ((l.length : Int) - ((j : Int) - i)) from by unfold bI; rw [if_pos (by omega)]]
                                    | rw [show bI pt i j l.length = (i : Int) + l.length from by unfold bI; rw [if_neg (by omega), if_pos (by omega)]]
                                    | rw [show bI pt i j l.length = pt from by unfold bI; rw [if_neg (by omega), if_neg (by omega)]]
                                  first
                                    | rw [show bJ mk i j l.length = mk + ((l.length : Int) - ((j : Int) - i)) from by unfold bJ; rw [if_pos (by omega)]]
                                    | rw [show bJ mk i j l.length = (i : Int) from by unfold bJ; rw [if_neg (by omega), if_pos (by omega)]]
                                    | rw [show bJ mk i j l.length = mk from by unfold bJ; rw [if_neg (by omega), if_neg (by omega)]]
                                  refine (aB.jw (f := i + l.length) (t := i + l.length + 16 + (j - i)) (v := .slice ax (dV L i l.length).length cx) (xs := dH (dV L i l.length) i l) (by omega) (by rw [bK (by omega)]; omega) hL' (by omega) (by rw [bK (by omega)]; omega) (by omega) (by omega) ?_).d3.swap
                                  rw [show ((i + l.length : Nat) : Int) = (i : Int) + l.length from by omega, show ((i + l.length + 16 + (j - i) : Nat) : Int) = ((i + l.length + 16 : Nat) : Int) + ((j : Int) - i) from by omega]
                                  exact PZ.right.right
                              · (try simp only [aH] at h12)
                                try (exfalso; first | contradiction | omega)
                                all_goals
                                  refine aP (aS (aj (ay ?_)))
                                  have oM := yR.Dx
                                  refine ah (aW (bW underlying101 rfl sizeOf101 rfl rfl oM.get.2) (aG (dh (cs := eF i (.slice ad ((L.drop i).take (j - i)).length cd) (.slice ai l.length ci)) oM.r6 sizeOf101 rfl rfl rfl rfl (jy rfl rfl)) ?_))
                                  rintro _ WV P5
                                  refine aU rfl (aA (aj (aJ ?_)))
                                  refine dX (.inl rfl) results193 rfl rfl underlying101 rfl (by rw [show (prog.info? 101).map (·.size) = some 3 from by kernel_rfl]; rfl) P5.get.2 ?_
                                  refine ⟨_, _, rfl, ?_⟩
                                  first
                                    | rw [show bI pt i j l.length = pt + ((l.length : Int) - ((j : Int) - i)) from by unfold bI; rw [if_pos (by omega)]]
                                    | rw [show bI pt i j l.length = (i : Int) + l.length from by unfold bI; rw [if_neg (by omega), if_pos (by omega)]]
                                    | rw [show bI pt i j l.length = pt from by unfold bI; rw [if_neg (by omega), if_neg (by omega)]]
                                  first
                                    | rw [show bJ mk i j l.length = mk + ((l.length : Int) - ((j : Int) - i)) from by unfold bJ; rw [if_pos (by omega)]]
                                    | rw [show bJ mk i j l.length = (i : Int) from by unfold bJ; rw [if_neg (by omega), if_pos (by omega)]]
                                    | rw [show bJ mk i j l.length = mk from by unfold bJ; rw [if_neg (by omega), if_neg (by omega)]]
                                  refine (aB.jw (f := i + l.length) (t := i + l.length + 16 + (j - i)) (v := .slice ax (dV L i l.length).length cx) (xs := dH (dV L i l.length) i l) (by omega) (by rw [bK (by omega)]; omega) hL' (by omega) (by rw [bK (by omega)]; omega) (by omega) (by omega) ?_).d3.swap
                                  rw [show ((i + l.length : Nat) : Int) = (i : Int) + l.length from by omega, show ((i + l.length + 16 + (j - i) : Nat) : Int) = ((i + l.length + 16 : Nat) : Int) + ((j : Int) - i) from by omega]
                                  exact P5.right.right
                      · (try simp only [aH] at h10)
                        try (exfalso; first | contradiction | omega)
                        all_goals
                          refine aP (aS (aj (ay (bC (ay (ah (aO rfl (bP rfl (bg 5 underlying184 rfl sizeOf3 rfl (dS underlying3 rfl tJ.get.2 rfl (aO rfl (aW (dn rfl rfl) (aU rfl (aA (aj (aN rfl (fun h13 => ?_) (fun h13 => ?_)))))))))))))))))
                          · (try simp only [aH] at h13)
                            try (exfalso; first | contradiction | omega)
                            all_goals
                              refine ah (aO rfl (bP rfl (bg 5 underlying184 rfl sizeOf3 rfl (dS underlying3 rfl tJ.get.2 rfl (aO rfl (aW (fJ underlying22 rfl) (aO rfl (aO rfl (aW (iq rfl rfl (by omega)) (aW (iq rfl rfl (by omega)) (aW (fP rfl rfl (by omega)) (bP rfl (bg 5 underlying184 rfl sizeOf3 rfl (aG (dA tJ sizeOf3 rfl rfl rfl (by rw [iF]; decide)) ?_))))))))))))))
                              rintro _ ZA Tj
                              rw [kH] at Tj
                              refine aA (aS (aj (ay ?_)))
                              have oM := Tj.Dx
                              refine ah (aW (bW underlying101 rfl sizeOf101 rfl rfl oM.get.2) (aG (dh (cs := eF i (.slice ad ((L.drop i).take (j - i)).length cd) (.slice ai l.length ci)) oM.r6 sizeOf101 rfl rfl rfl rfl (jy rfl rfl)) ?_))
                              rintro _ Xw Og
                              refine aU rfl (aA (aj (aJ ?_)))
                              refine dX (.inl rfl) results193 rfl rfl underlying101 rfl (by rw [show (prog.info? 101).map (·.size) = some 3 from by kernel_rfl]; rfl) Og.get.2 ?_
                              refine ⟨_, _, rfl, ?_⟩
                              first
                                | rw [show bI pt i j l.length = pt + ((l.length : Int) - ((j : Int) - i)) from by unfold bI; rw [if_pos (by omega)]]
                                | rw [show bI pt i j l.length = (i : Int) + l.length from by unfold bI; rw [if_neg (by omega), if_pos (by omega)]]
                                | rw [show bI pt i j l.length = pt from by unfold bI; rw [if_neg (by omega), if_neg (by omega)]]
                              first
                                | rw [show bJ mk i j l.length = mk + ((l.length : Int) - ((j : Int) - i)) from by unfold bJ; rw [if_pos (by omega)]]
                                | rw [show bJ mk i j l.length = (i : Int) from by unfold bJ; rw [if_neg (by omega), if_pos (by omega)]]
                                | rw [show bJ mk i j l.length = mk from by unfold bJ; rw [if_neg (by omega), if_neg (by omega)]]
                              refine (aB.jw (f := i + l.length) (t := i + l.length + 16 + (j - i)) (v := .slice ax (dV L i l.length).length cx) (xs := dH (dV L i l.length) i l) (by omega) (by rw [bK (by omega)]; omega) hL' (by omega) (by rw [bK (by omega)]; omega) (by omega) (by omega) ?_).d3.swap
                              rw [show ((i + l.length : Nat) : Int) = (i : Int) + l.length from by omega, show ((i + l.length + 16 + (j - i) : Nat) : Int) = ((i + l.length + 16 : Nat) : Int) + ((j : Int) - i) from by omega]
                              exact Og.right.right
                          · (try simp only [aH] at h13)
                            try (exfalso; first | contradiction | omega)
                            all_goals
                              refine ay (ah (aO rfl (bP rfl (bg 5 underlying184 rfl sizeOf3 rfl (dS underlying3 rfl tJ.get.2 rfl (aO rfl (aW (dn rfl rfl) (aU rfl (aA (aj (aN rfl (fun h14 => ?_) (fun h14 => ?_))))))))))))
                              · (try simp only [aH] at h14)
                                try (exfalso; first | contradiction | omega)
                                all_goals
                                  refine ah (aO rfl (aO rfl (bP rfl (bg 5 underlying184 rfl sizeOf3 rfl (aG (dA tJ sizeOf3 rfl rfl rfl (by rw [iF]; decide)) ?_)))))
                                  rintro _ Vj Jj
                                  rw [kH] at Jj
                                  refine aA (aS (aj (ay ?_)))
                                  have oM := Jj.Dx
                                  refine ah (aW (bW underlying101 rfl sizeOf101 rfl rfl oM.get.2) (aG (dh (cs := eF i (.slice ad ((L.drop i).take (j - i)).length cd) (.slice ai l.length ci)) oM.r6 sizeOf101 rfl rfl rfl rfl (jy rfl rfl)) ?_))
                                  rintro _ w32 NG
                                  refine aU rfl (aA (aj (aJ ?_)))
                                  refine dX (.inl rfl) results193 rfl rfl underlying101 rfl (by rw [show (prog.info? 101).map (·.size) = some 3 from by kernel_rfl]; rfl) NG.get.2 ?_
                                  refine ⟨_, _, rfl, ?_⟩
                                  first
                                    | rw [show bI pt i j l.length = pt + ((l.length : Int) - ((j : Int) - i)) from by unfold bI; rw [if_pos (by omega)]]
                                    | rw [show bI pt i j l.length = (i : Int) + l.length from by unfold bI; rw [if_neg (by omega), if_pos (by omega)]]
                                    | rw [show bI pt i j l.length = pt from by unfold bI; rw [if_neg (by omega), if_neg (by omega)]]
                                  first
                                    | rw [show bJ mk i j l.length = mk + ((l.length : Int) - ((j : Int) - i)) from by unfold bJ; rw [if_pos (by omega)]]
                                    | rw [show bJ mk i j l.length = (i : Int) from by unfold bJ; rw [if_neg (by omega), if_pos (by omega)]]
                                    | rw [show bJ mk i j l.length = mk from by unfold bJ; rw [if_neg (by omega), if_neg (by omega)]]
                                  refine (aB.jw (f := i + l.length) (t := i + l.length + 16 + (j - i)) (v := .slice ax (dV L i l.length).length cx) (xs := dH (dV L i l.length) i l) (by omega) (by rw [bK (by omega)]; omega) hL' (by omega) (by rw [bK (by omega)]; omega) (by omega) (by omega) ?_).d3.swap
                                  rw [show ((i + l.length : Nat) : Int) = (i : Int) + l.length from by omega, show ((i + l.length + 16 + (j - i) : Nat) : Int) = ((i + l.length + 16 : Nat) : Int) + ((j : Int) - i) from by omega]
                                  exact NG.right.right
                              · (try simp only [aH] at h14)
                                try (exfalso; first | contradiction | omega)
                                all_goals
                                  refine aP (aS (aj (ay ?_)))
                                  have oM := tJ.Dx
                                  refine ah (aW (bW underlying101 rfl sizeOf101 rfl rfl oM.get.2) (aG (dh (cs := eF i (.slice ad ((L.drop i).take (j - i)).length cd) (.slice ai l.length ci)) oM.r6 sizeOf101 rfl rfl rfl rfl (jy rfl rfl)) ?_))
                                  rintro _ WW Jk
                                  refine aU rfl (aA (aj (aJ ?_)))
                                  refine dX (.inl rfl) results193 rfl rfl underlying101 rfl (by rw [show (prog.info? 101).map (·.size) = some 3 from by kernel_rfl]; rfl) Jk.get.2 ?_
                                  refine ⟨_, _, rfl, ?_⟩
                                  first
                                    | rw [show bI pt i j l.length = pt + ((l.length : Int) - ((j : Int) - i)) from by unfold bI; rw [if_pos (by omega)]]
                                    | rw [show bI pt i j l.length = (i : Int) + l.length from by unfold bI; rw [if_neg (by omega), if_pos (by omega)]]
                                    | rw [show bI pt i j l.length = pt from by unfold bI; rw [if_neg (by omega), if_neg (by omega)]]
                                  first
                                    | rw [show bJ mk i j l.length = mk + ((l.length : Int) - ((j : Int) - i)) from by unfold bJ; rw [if_pos (by omega)]]
                                    | rw [show bJ mk i j l.length = (i : Int) from by unfold bJ; rw [if_neg (by omega), if_pos (by omega)]]
                                    | rw [show bJ mk i j l.length = mk from by unfold bJ; rw [if_neg (by omega), if_neg (by omega)]]
                                  refine (aB.jw (f := i + l.length) (t := i + l.length + 16 + (j - i)) (v := .slice ax (dV L i l.length).length cx) (xs := dH (dV L i l.length) i l) (by omega) (by rw [bK (by omega)]; omega) hL' (by omega) (by rw [bK (by omega)]; omega) (by omega) (by omega) ?_).d3.swap
                                  rw [show ((i + l.length : Nat) : Int) = (i : Int) + l.length from by omega, show ((i + l.length + 16 + (j - i) : Nat) : Int) = ((i + l.length + 16 : Nat) : Int) + ((j : Int) - i) from by omega]
                                  exact Jk.right.right
end
end Go.Proofs.YtgndbccogcofjaaGreatDoor
end
section
namespace Go.Proofs.YtgndbccogcofjaaGreatDoor
open Go.RowKit
open _root_.Go.Proofs.Tryz
def Qs (n : Nat) (pt x : Int) : Int := if 0 ≤ x ∧ x ≤ n then x else pt
def RJ (n : Nat) (x : Int) : Int := if 0 ≤ x ∧ x ≤ n then 0 else 70
def pq (v : Value) (pt mk : Int) : Array Value := #[v, .int .i64 pt, .int .i64 mk]
theorem MI {v : Value} {pt mk : Int} (h : v.oneCell' = true) : ∀ u ∈ (pq v pt mk).toList, u.oneCell' = true := by
  intro u hu
  simp [pq] at hu
  rcases hu with rfl | rfl | rfl
  · exact h
  · rfl
  · rfl
section
variable {w0 w : World} {F : HP} {p : Nat} {L : List Int} {pt mk x : Int} {v : Value} {l : List Int}
theorem FD (H : aB w0 w (dJ p L pt mk • F)) : fA prog 111 #[.pointer (some ⟨p, 0, none⟩), .int .i64 x] w fun v w' => v = .int .i64 (RJ L.length x) ∧ aB w0 w' (dJ p L (Qs L.length pt x) mk • F) := by
 refine fU func111 ntmps111 ?_
 dsimp only [aY, Nat.reduceAdd]
 refine ay (ah (aU rfl (aA (aj (ay (bC (ay (ah (aO rfl (bZ rfl func185 (kJ H) ?_))))))))))
 rintro _ _ ⟨rfl, rfl⟩
 refine aU rfl (aA (aj (aN rfl (fun h1 => ?_) (fun h1 => ?_))))
 ·(try simp only [aH] at h1)
  exfalso; first | contradiction | omega
 ·(try simp only [aH] at h1)
  try (exfalso; first | contradiction | omega)
  all_goals
   refine ay (ah (aO rfl (aW (fE rfl rfl) (gB rfl (fun h2 => ?_) (fun h2 => ?_)))))
   ·(try simp only [aH] at h2)
    try (exfalso; first | contradiction | omega)
    all_goals
     refine bD (bD (bD (bD (fQ rfl rfl (aU rfl (aA (aj (wB (ay (ah (aU rfl (aA (aj (aJ (aV (aK (aI (.inl rfl) results111 rfl ?_)))))))))))))))))
     exact ⟨by rw [RJ, if_neg (by omega)], by rw [Qs, if_neg (by omega)]; exact H⟩
   ·(try simp only [aH] at h2)
    try (exfalso; first | contradiction | omega)
    all_goals
     refine bf (aO rfl (bf (aO rfl (bf (bZ rfl func186 (jV H) ?_)))))
     rintro _ w2 ⟨rfl, hD⟩
     have HL := H.qI hD
     refine bf (aW (dn rfl rfl) (fG rfl rfl (aU rfl (aA (aj (aN rfl (fun h3 => ?_) (fun h3 => ?_)))))))
     ·(try simp only [aH] at h3)
      try (exfalso; first | contradiction | omega)
      all_goals
       refine ay (ah (aU rfl (aA (aj (aJ (aV (aK (aI (.inl rfl) results111 rfl ?_))))))))
       exact ⟨by rw [RJ, if_neg (by omega)], by rw [Qs, if_neg (by omega)]; exact HL⟩
     ·(try simp only [aH] at h3)
      try (exfalso; first | contradiction | omega)
      all_goals
       refine aP (aS (aj (ay ?_)))
       obtain ⟨a, c, xs, f, t, h11, h12, h13, h14, h15, h16, h17, hc1, hc2, hl, HB⟩ := HL.buf
       refine ah (aO rfl (aO rfl (bP rfl (bg 4 underlying184 rfl sizeOf3 rfl (aG (dA HB sizeOf3 rfl rfl rfl (by rw [iF]; decide)) ?_)))))
       rintro _ w3 H3
       rw [qY] at H3
       refine aA (aj (ay (ah (aU rfl (aA (aj (aJ (aI (.inl rfl) results111 rfl ?_))))))))
       exact ⟨by rw [RJ, if_pos (by omega)], by rw [Qs, if_pos (by omega)]; exact aB.jw h11 h12 h13 h14 h15 (by omega) h17 H3⟩
theorem FH (H : aB w0 w (dJ p L pt mk • F)) : fA prog 43 #[.pointer (some ⟨p, 0, none⟩)] w fun v' w' => ∃ u, v' = .agg (pq u pt mk) ∧ aB w0 w' (iL 21 .i32 u L • dJ p L pt mk • F) := by
 refine fU func43 ntmps43 ?_
 dsimp only [aY, Nat.reduceAdd]
 refine ay (ah (ji (qK H zeroValue53) ?_))
 rintro _ w1 ⟨b1, rfl, H1⟩
 refine aA (aj (ay (ah (aO rfl (bZ rfl func112 (oW H1.swap) ?_)))))
 rintro u w2 H2
 obtain ⟨au, cu, hu, _⟩ := (H2.aT).form
 subst hu
 refine aO rfl (bZ rfl func113 (nX H2.swap) ?_)
 rintro _ _ ⟨rfl, rfl⟩
 refine aO rfl (bZ rfl func114 (FB H2.swap) ?_)
 rintro _ _ ⟨rfl, rfl⟩
 refine aW (dW (pl := #[(0, 1), (1, 1), (2, 1)]) (pq (.slice au L.length cu) pt mk) underlying53 zeroValue53 (fun w => by kernel_rfl) rfl (by kernel_rfl)) (aG (dh (cs := pq (.slice au L.length cu) pt mk) H2.Dx sizeOf53 rfl rfl rfl rfl (MI rfl)) ?_)
 rintro _ w5 H5
 refine aA (aj (aJ ?_))
 refine Qk (.inl rfl) results43 rfl underlying53 rfl (by rw [show (prog.info? 53).map (·.size) = some 3 from by kernel_rfl]; rfl) H5.get.2 ?_
 exact ⟨_, rfl, H5.right⟩
end
end Go.Proofs.YtgndbccogcofjaaGreatDoor
end
section
namespace Go.Proofs.YtgndbccogcofjaaGreatDoor
open Go.RowKit
section
variable {w0 w : World} {F : HP} {p : Nat} {L : List Int} {pt mk : Int} {v : Value} {l : List Int}
end
end Go.Proofs.YtgndbccogcofjaaGreatDoor
end
section
namespace Go.Proofs.YtgndbccogcofjaaGreatDoor
open Go.RowKit
end Go.Proofs.YtgndbccogcofjaaGreatDoor
end
section
namespace Go.Proofs.YtgndbccogcofjaaGreatDoor
open Go.RowKit
section
variable {w0 w : World} {F : HP} {p : Nat} {L : List Int} {pt mk a : Int} {d i : Value} {dl il : List Int}
end
end Go.Proofs.YtgndbccogcofjaaGreatDoor
end
section
namespace Go.Proofs.YtgndbccogcofjaaGreatDoor
open Go.RowKit
open _root_.Go.Proofs.Tryz
def iU (L : List Int) (i j : Int) (l : List Int) : Int := if i < 0 ∨ L.length < i ∨ j < i ∨ L.length < j then 70 else if 1024 < L.length - (j - i) + l.length then 3 else 0
def lH (L : List Int) (i j : Int) (l : List Int) : List Int := if iU L i j l = 0 then L.take i.toNat ++ l ++ L.drop j.toNat else L
def lI (L : List Int) (pt i j : Int) (l : List Int) : Int := if iU L i j l = 0 then bI pt i j l.length else pt
def lX (L : List Int) (mk i j : Int) (l : List Int) : Int := if iU L i j l = 0 then bJ mk i j l.length else mk
def nG (L : List Int) (i j : Int) (l : List Int) : Int := if iU L i j l = 0 then i else 0
def jk (L : List Int) (i j : Int) (l : List Int) : List Int := if iU L i j l = 0 then (L.drop i.toNat).take (j - i).toNat else []
def jl (L : List Int) (i j : Int) (l : List Int) : List Int := if iU L i j l = 0 then l else []
section
variable {w0 w : World} {F : HP} {p : Nat} {L : List Int} {pt mk : Int} {v d s : Value} {l dl il : List Int} {i j a x : Int}
theorem Ad (H : aB w0 w (dJ p L pt mk • F)) (hr : gJ w0 F .i32 v l) :
    fA prog 193 #[.pointer (some ⟨p, 0, none⟩), .int .i64 i, .int .i64 j, v] w fun v' w' => ∃ d s, v' = .tuple #[.agg #[.int .i64 (nG L i j l), d, s], .int .i64 (iU L i j l)] ∧
      aB w0 w' (iL 21 .i32 d (jk L i j l) • iL 21 .i32 s (jl L i j l) • dJ p (lH L i j l) (lI L pt i j l) (lX L mk i j l) • F) := by
  unfold nG lH lI lX jk jl
  by_cases h1 : i < 0 ∨ L.length < i ∨ j < i ∨ L.length < j
  · have e : iU L i j l = 70 := by unfold iU; rw [if_pos h1]
    simp only [e, show ¬ (70 : Int) = 0 from by decide, if_false]
    exact (Ac H hr h1).mono fun v' w' h => ⟨_, _, h.1, (h.2.xZ none).xZ none⟩
  · have h2 : 0 ≤ i ∧ i ≤ j ∧ j ≤ L.length := by omega
    by_cases h3 : 1024 < L.length - (j - i) + l.length
    · have e : iU L i j l = 3 := by unfold iU; rw [if_neg h1, if_pos h3]
      simp only [e, show ¬ (3 : Int) = 0 from by decide, if_false]
      exact (y5 H hr h2 h3).mono fun v' w' h => ⟨_, _, h.1, (h.2.xZ none).xZ none⟩
    · have e : iU L i j l = 0 := by unfold iU; rw [if_neg h1, if_neg h3]
      simp only [e, if_true]
      obtain ⟨i', rfl⟩ := Int.eq_ofNat_of_zero_le h2.1
      obtain ⟨j', rfl⟩ := Int.eq_ofNat_of_zero_le (show 0 ≤ j by omega)
      have hij : i' ≤ j' ∧ j' ≤ L.length := by omega
      have := BL (i := i') (j := j') H hr hij (by omega)
      simpa only [Int.toNat_natCast, show ((j' : Int) - (i' : Int)).toNat = j' - i' from by omega, eF] using this
def XB (L : List Int) (x : Int) : Int := if x < -1 ∨ L.length < x then 70 else 0
def UC (L : List Int) (mk x : Int) : Int := if x < -1 ∨ L.length < x then mk else x
theorem Ae (H : aB w0 w (dJ p L pt mk • F)) : fA prog 207 #[.pointer (some ⟨p, 0, none⟩), .int .i64 x] w fun v' w' => v' = .int .i64 (XB L x) ∧ aB w0 w' (dJ p L pt (UC L mk x) • F) := by
 unfold XB UC
 have hL : L.length ≤ 1024 := by obtain ⟨a, c, xs, f, t, h1, h2, h3, h4, h5, h6, h7, hc1, hc2, hl, H1⟩ := H.buf; exact h4
 refine fU func207 ntmps207 ?_
 dsimp only [aY, Nat.reduceAdd]
 refine ay (ah (aU rfl (aA (aj (ay (bC (ay (ah (aO rfl (bZ rfl func185 (kJ H) ?_))))))))))
 rintro _ _ ⟨rfl, rfl⟩
 refine aU rfl (aA (aj (oK (ay (ah (aO rfl (aW (fE rfl rfl) (gB rfl (fun h1 => ?_) (fun h1 => ?_)))))))))
 ·(try simp only [aH] at h1)
  try (exfalso; first | contradiction | omega)
  all_goals
   refine bD (bD (bD (bD (fQ rfl rfl (aU rfl (aA (aj (wB (ay (ah (aU rfl (aA (aj (aJ (aV (aK (aI (.inl rfl) results207 rfl ?_)))))))))))))))))
   exact ⟨by rw [if_pos (by omega)], by rw [if_pos (by omega)]; exact H⟩
 ·(try simp only [aH] at h1)
  try (exfalso; first | contradiction | omega)
  all_goals
   refine bf (aO rfl (bf (aO rfl (bf (bZ rfl func186 (jV H) ?_)))))
   rintro _ w2 ⟨rfl, hD2⟩
   have HD2 := H.qI hD2
   refine bf (aW (dn rfl rfl) (fG rfl rfl (aU rfl (aA (aj (aN rfl (fun h2 => ?_) (fun h2 => ?_)))))))
   ·(try simp only [aH] at h2)
    try (exfalso; first | contradiction | omega)
    all_goals
     refine ay (ah (aU rfl (aA (aj (aJ (aV (aK (aI (.inl rfl) results207 rfl ?_))))))))
     exact ⟨by rw [if_pos (by omega)], by rw [if_pos (by omega)]; exact HD2⟩
   ·(try simp only [aH] at h2)
    try (exfalso; first | contradiction | omega)
    all_goals
     refine aP (aS (aj (ay ?_)))
     obtain ⟨XC, XD, XE, f_p, t_p, Qu, Qv, Qw, Qx, Qy, Qz, XF, XG, XH, Vo, QA⟩ := (HD2).buf
     refine ah (aO rfl (aO rfl (bP rfl (bg 5 underlying184 rfl sizeOf3 rfl (aG (aQ 5 (l' := [_, _, _, _, _, _]) QA sizeOf3 rfl rfl (by first | rfl | assumption) rfl rfl) ?_)))))
     rintro _ w4 H4
     refine aA (aj (ay (ah (aU rfl (aA (aj (aJ (aI (.inl rfl) results207 rfl ?_))))))))
     exact ⟨by rw [if_neg (by omega)], by rw [if_neg (by omega)]; exact aB.jw Qu Qv Qw Qx Qy Qz (by omega) H4.f2.f2⟩
def swE (mk : Int) : Int := if mk < 0 then 6 else 0
def swP (pt mk : Int) : Int := if mk < 0 then pt else mk
def swM (pt mk : Int) : Int := if mk < 0 then mk else pt
theorem DI (H : aB w0 w (dJ p L pt mk • F)) : fA prog 115 #[.pointer (some ⟨p, 0, none⟩)] w fun v' w' => ∃ q, v' = .pointer (some ⟨q, 0, none⟩) ∧ aB w0 w' (dJ q L pt mk • dJ p L pt mk • F) := by
 refine fU func115 ntmps115 ?_
 dsimp only [aY, Nat.reduceAdd]
 refine ay (ah (aU rfl (aA (aj (ay (ay (ah (aO rfl (bZ rfl func185 (kJ H) ?_)))))))))
 rintro _ _ ⟨rfl, rfl⟩
 refine aA (aj (oK (aP (aj (ay ?_)))))
 obtain ⟨XC, XD, XE, f_p, t_p, Qu, Qv, Qw, Qx, Qy, Qz, XF, XG, XH, Vo, QA⟩ := (H).buf
 refine ah (aO rfl (bP rfl (aW (bW underlying184 rfl sizeOf184 rfl rfl (QA).get.2) (ji (fV (l := [_, _, _, _, _, _]) QA zeroValue184 rfl) ?_))))
 rintro _ w3 ⟨b3, rfl, H3⟩
 refine aG (cZ 0 (l' := [_, _, _, _, _, _]) (us := [_, _, _, _, _, _]) H3 sizeOf184 rfl rfl rfl (aC (by first | rfl | assumption) (aC (by first | rfl | exact Rd.one ((H3.f3).aT)) (aC (by first | rfl | assumption) (aC (by first | rfl | assumption) (aC (by first | rfl | assumption) (aC (by first | rfl | assumption) bU)))))) rfl rfl) ?_
 rintro _ w4 H4
 refine aA (aj (ay (ah (aO rfl (bP rfl (bg 1 underlying184 rfl sizeOf22 rfl (dS underlying22 rfl (H4.f2).get.2 rfl (bZ rfl func178 (lG H4 (fun W HW => (HW.f3).aT) (by omega)) ?_))))))))
 rintro u5 w5 H5
 refine bg 1 underlying184 rfl sizeOf22 rfl (aG (aQ 1 (l' := [_, _, _, _, _, _]) H5.f2 sizeOf22 rfl rfl (by first | rfl | exact Rd.one ((H5).aT)) rfl rfl) ?_)
 rintro _ w6 H6
 refine aA (aj (ay (ah (aU rfl (aA (aj (aJ (aI (.inl rfl) results115 rfl ?_))))))))
 exact ⟨_, rfl, (aB.jw Qu Qv Qw Qx Qy Qz (by omega) (aB.jw Qu Qv Qw Qx Qy Qz (by omega) H6.f4.f4.f4.f4).f2.f3.f2).f2⟩
def Vp (L : List Int) (a : Int) (dl : List Int) : Bool := decide ((dl.length : Int) ≤ L.length - a) && ((L.drop a.toNat).take dl.length == dl)
def Tt (L : List Int) (a : Int) (dl il : List Int) : Int := if a < 0 ∨ L.length < a then 70 else if Vp L a dl then iU L a (a + dl.length) il else 71
def XI (L : List Int) (a : Int) (dl il : List Int) : List Int := if Tt L a dl il = 0 then lH L a (a + dl.length) il else L
def XJ (L : List Int) (pt a : Int) (dl il : List Int) : Int := if Tt L a dl il = 0 then lI L pt a (a + dl.length) il else pt
def XK (L : List Int) (mk a : Int) (dl il : List Int) : Int := if Tt L a dl il = 0 then lX L mk a (a + dl.length) il else mk
end
end Go.Proofs.YtgndbccogcofjaaGreatDoor
end
