import Derived.Test.YtgndbccogcofjaaGreatDoorZ2
import Derived.Test.YtgndbccogcofjaaGreatDoorZ7
set_option linter.unusedSimpArgs false
set_option linter.unusedVariables false
/- Texts of mine, joined, their names in short: Buf3 LineP BLive Same Apply BufP. -/
section
namespace Go.Proofs.YtgndbccogcofjaaGreatDoor
open Go.RowKit
open _root_.Go.Proofs.Tryz
section
variable {w0 w : World} {F : HP} {p : Nat} {L : List Int} {pt mk : Int} {v : Value} {l : List Int} {i j : Int}
theorem Ai {i j : Nat} (H : aB w0 w (dJ p L pt mk • F)) (hr : iD w0 F .i32 v l) (hb : i ≤ j ∧ j ≤ L.length) (hl : (L.length : Int) - ((j : Int) - i) + l.length ≤ 1024) :
    eG prog 193 #[.pointer (some ⟨p, 0, none⟩), .int .i64 i, .int .i64 j, v] w fun v' w' => ∃ d s, v' = .tuple #[.agg (dX i d s), .int .i64 0] ∧
      aB w0 w' (iE 21 .i32 d ((L.drop i).take (j - i)) • iE 21 .i32 s l • dJ p (L.take i ++ l ++ L.drop j) (bG pt i j l.length) (bH mk i j l.length) • F) := by
  obtain ⟨a, c, rfl, hac, OV, _⟩ := (hr w H.right).open
  obtain ⟨hL4, hpt, hmk⟩ : L.length ≤ 1024 ∧ (0 ≤ pt ∧ pt ≤ L.length) ∧ (-1 ≤ mk ∧ mk ≤ L.length) := by obtain ⟨a, c, xs, f, t, h1, h2, h3, h4, h5, h6, h7, hc1, hc2, hl, H1⟩ := H.buf; exact ⟨h4, h6, h7⟩
  have hg1 := HY (L := L) (i := i) (r := l.length) (by omega)
  have hg2 := FM (L := L) (i := i) (r := l.length) (by omega)
  have hg3 := FN (L := L) (i := i) (r := l.length) (by omega)
  have hL' : L.take i ++ l ++ L.drop j = (dH (dR L i l.length) i l).take (i + l.length) ++ (dH (dR L i l.length) i l).drop (i + l.length + 16 + (j - i)) := by
    rw [yM (by omega), FK (by omega) (by omega), hg2]
    congr 1
    rw [← List.drop_drop, hg3, List.drop_drop]
    congr 1; omega
  have hlen' : (L.take i ++ l ++ L.drop j).length = L.length - (j - i) + l.length := by simp; omega
  refine fP func193 ntmps193 ?_
  dsimp only [aX, Nat.reduceAdd]
  refine ay (ah (jo (pR H zeroValue101) ?_))
  rintro _ w1 ⟨b1, rfl, H1⟩
  refine aV rfl (aA (aj (ay (ah (aO rfl (dn rfl func186 (jF H1.right) ?_))))))
  rintro _ w2 ⟨rfl, hD⟩
  have HL := H1.pK hD
  refine aV rfl (aA (aj (ay (bg (ay (ah (aO rfl (dn rfl func185 (jR HL.right) ?_))))))))
  rintro _ _ ⟨rfl, rfl⟩
  refine aV rfl (aA (aj (aQ rfl (fun h1 => ?_) (fun h1 => ?_))))
  · (try simp only [aI] at h1)
    try (exfalso; first | contradiction | omega)
    all_goals
      refine ay (ah (aW (dS (pl := #[(0, 1), (1, 1), (2, 1)]) (_) underlying101 zeroValue101 (fun w => by kernel_rfl) rfl (rfl)) (aG (dA HL sizeOf101 rfl rfl rfl (by decide)) ?_)))
      rintro _ w4 H4
      refine aV rfl (aA (aj (aJ (aU (aK ?_)))))
      refine dV (.inl rfl) results193 rfl rfl underlying101 rfl (by rw [show (prog.info? 101).map (·.size) = some 3 from by kernel_rfl]; rfl) H4.get.2 ?_
      refine ⟨_, _, rfl, ?_⟩
      first
        | rw [show bG pt i j l.length = pt + ((l.length : Int) - ((j : Int) - i)) from by unfold bG; rw [if_pos (by omega)]]
        | rw [show bG pt i j l.length = (i : Int) + l.length from by unfold bG; rw [if_neg (by omega), if_pos (by omega)]]
        | rw [show bG pt i j l.length = pt from by unfold bG; rw [if_neg (by omega), if_neg (by omega)]]
      first
        | rw [show bH mk i j l.length = mk + ((l.length : Int) - ((j : Int) - i)) from by unfold bH; rw [if_pos (by omega)]]
        | rw [show bH mk i j l.length = (i : Int) from by unfold bH; rw [if_neg (by omega), if_pos (by omega)]]
        | rw [show bH mk i j l.length = mk from by unfold bH; rw [if_neg (by omega), if_neg (by omega)]]
      refine (aB.jg (f := i + l.length) (t := i + l.length + 16 + (j - i)) (v := .slice ax (dR L i l.length).length cx) (xs := dH (dR L i l.length) i l) (by omega) (by rw [bI (by omega)]; omega) hL' (by omega) (by rw [bI (by omega)]; omega) (by omega) (by omega) ?_).d3.swap
      rw [show ((i + l.length : Nat) : Int) = (i : Int) + l.length from by omega, show ((i + l.length + 16 + (j - i) : Nat) : Int) = ((i + l.length + 16 : Nat) : Int) + ((j : Int) - i) from by omega]
      exact H4.right.right
  · (try simp only [aI] at h1)
    try (exfalso; first | contradiction | omega)
    all_goals
      refine ay (ah (aO rfl (aW (eU rfl rfl) (fV rfl (fun h2 => ?_) (fun h2 => ?_)))))
      · (try simp only [aI] at h2)
        try (exfalso; first | contradiction | omega)
        all_goals
          refine bC (bC (bC (fG rfl rfl (aO rfl (bC (bC (bC (fG rfl rfl (aO rfl (bC (bC (bC (fG rfl rfl (aV rfl (aA (aj (uI (ay (ah (aW (dS (pl := #[(0, 1), (1, 1), (2, 1)]) (_) underlying101 zeroValue101 (fun w => by kernel_rfl) rfl (rfl)) (aG (dA HL sizeOf101 rfl rfl rfl (by decide)) ?_)))))))))))))))))))))
          rintro _ w5 H5
          refine aV rfl (aA (aj (aJ (aU (aK ?_)))))
          refine dV (.inl rfl) results193 rfl rfl underlying101 rfl (by rw [show (prog.info? 101).map (·.size) = some 3 from by kernel_rfl]; rfl) H5.get.2 ?_
          refine ⟨_, _, rfl, ?_⟩
          first
            | rw [show bG pt i j l.length = pt + ((l.length : Int) - ((j : Int) - i)) from by unfold bG; rw [if_pos (by omega)]]
            | rw [show bG pt i j l.length = (i : Int) + l.length from by unfold bG; rw [if_neg (by omega), if_pos (by omega)]]
            | rw [show bG pt i j l.length = pt from by unfold bG; rw [if_neg (by omega), if_neg (by omega)]]
          first
            | rw [show bH mk i j l.length = mk + ((l.length : Int) - ((j : Int) - i)) from by unfold bH; rw [if_pos (by omega)]]
            | rw [show bH mk i j l.length = (i : Int) from by unfold bH; rw [if_neg (by omega), if_pos (by omega)]]
            | rw [show bH mk i j l.length = mk from by unfold bH; rw [if_neg (by omega), if_neg (by omega)]]
          refine (aB.jg (f := i + l.length) (t := i + l.length + 16 + (j - i)) (v := .slice ax (dR L i l.length).length cx) (xs := dH (dR L i l.length) i l) (by omega) (by rw [bI (by omega)]; omega) hL' (by omega) (by rw [bI (by omega)]; omega) (by omega) (by omega) ?_).d3.swap
          rw [show ((i + l.length : Nat) : Int) = (i : Int) + l.length from by omega, show ((i + l.length + 16 + (j - i) : Nat) : Int) = ((i + l.length + 16 : Nat) : Int) + ((j : Int) - i) from by omega]
          exact H5.right.right
      · (try simp only [aI] at h2)
        try (exfalso; first | contradiction | omega)
        all_goals
          refine bf (aO rfl (bf (aO rfl (bf (aW (dB rfl rfl) (eY rfl rfl (fV rfl (fun h3 => ?_) (fun h3 => ?_))))))))
          · (try simp only [aI] at h3)
            try (exfalso; first | contradiction | omega)
            all_goals
              refine bC (bC (bC (fG rfl rfl (aO rfl (bC (bC (bC (fG rfl rfl (aV rfl (aA (aj (uI (ay (ah (aW (dS (pl := #[(0, 1), (1, 1), (2, 1)]) (_) underlying101 zeroValue101 (fun w => by kernel_rfl) rfl (rfl)) (aG (dA HL sizeOf101 rfl rfl rfl (by decide)) ?_))))))))))))))))
              rintro _ w6 H6
              refine aV rfl (aA (aj (aJ (aU (aK ?_)))))
              refine dV (.inl rfl) results193 rfl rfl underlying101 rfl (by rw [show (prog.info? 101).map (·.size) = some 3 from by kernel_rfl]; rfl) H6.get.2 ?_
              refine ⟨_, _, rfl, ?_⟩
              first
                | rw [show bG pt i j l.length = pt + ((l.length : Int) - ((j : Int) - i)) from by unfold bG; rw [if_pos (by omega)]]
                | rw [show bG pt i j l.length = (i : Int) + l.length from by unfold bG; rw [if_neg (by omega), if_pos (by omega)]]
                | rw [show bG pt i j l.length = pt from by unfold bG; rw [if_neg (by omega), if_neg (by omega)]]
              first
                | rw [show bH mk i j l.length = mk + ((l.length : Int) - ((j : Int) - i)) from by unfold bH; rw [if_pos (by omega)]]
                | rw [show bH mk i j l.length = (i : Int) from by unfold bH; rw [if_neg (by omega), if_pos (by omega)]]
                | rw [show bH mk i j l.length = mk from by unfold bH; rw [if_neg (by omega), if_neg (by omega)]]
              refine (aB.jg (f := i + l.length) (t := i + l.length + 16 + (j - i)) (v := .slice ax (dR L i l.length).length cx) (xs := dH (dR L i l.length) i l) (by omega) (by rw [bI (by omega)]; omega) hL' (by omega) (by rw [bI (by omega)]; omega) (by omega) (by omega) ?_).d3.swap
              rw [show ((i + l.length : Nat) : Int) = (i : Int) + l.length from by omega, show ((i + l.length + 16 + (j - i) : Nat) : Int) = ((i + l.length + 16 : Nat) : Int) + ((j : Int) - i) from by omega]
              exact H6.right.right
          · (try simp only [aI] at h3)
            try (exfalso; first | contradiction | omega)
            all_goals
              refine bf (aO rfl (bf (aO rfl (bf (aW (eU rfl rfl) (eY rfl rfl (fV rfl (fun h4 => ?_) (fun h4 => ?_))))))))
              · (try simp only [aI] at h4)
                try (exfalso; first | contradiction | omega)
                all_goals
                  refine bC (bC (bC (fG rfl rfl (aV rfl (aA (aj (uI (ay (ah (aW (dS (pl := #[(0, 1), (1, 1), (2, 1)]) (_) underlying101 zeroValue101 (fun w => by kernel_rfl) rfl (rfl)) (aG (dA HL sizeOf101 rfl rfl rfl (by decide)) ?_)))))))))))
                  rintro _ w7 H7
                  refine aV rfl (aA (aj (aJ (aU (aK ?_)))))
                  refine dV (.inl rfl) results193 rfl rfl underlying101 rfl (by rw [show (prog.info? 101).map (·.size) = some 3 from by kernel_rfl]; rfl) H7.get.2 ?_
                  refine ⟨_, _, rfl, ?_⟩
                  first
                    | rw [show bG pt i j l.length = pt + ((l.length : Int) - ((j : Int) - i)) from by unfold bG; rw [if_pos (by omega)]]
                    | rw [show bG pt i j l.length = (i : Int) + l.length from by unfold bG; rw [if_neg (by omega), if_pos (by omega)]]
                    | rw [show bG pt i j l.length = pt from by unfold bG; rw [if_neg (by omega), if_neg (by omega)]]
                  first
                    | rw [show bH mk i j l.length = mk + ((l.length : Int) - ((j : Int) - i)) from by unfold bH; rw [if_pos (by omega)]]
                    | rw [show bH mk i j l.length = (i : Int) from by unfold bH; rw [if_neg (by omega), if_pos (by omega)]]
                    | rw [show bH mk i j l.length = mk from by unfold bH; rw [if_neg (by omega), if_neg (by omega)]]
                  refine (aB.jg (f := i + l.length) (t := i + l.length + 16 + (j - i)) (v := .slice ax (dR L i l.length).length cx) (xs := dH (dR L i l.length) i l) (by omega) (by rw [bI (by omega)]; omega) hL' (by omega) (by rw [bI (by omega)]; omega) (by omega) (by omega) ?_).d3.swap
                  rw [show ((i + l.length : Nat) : Int) = (i : Int) + l.length from by omega, show ((i + l.length + 16 + (j - i) : Nat) : Int) = ((i + l.length + 16 : Nat) : Int) + ((j : Int) - i) from by omega]
                  exact H7.right.right
              · (try simp only [aI] at h4)
                try (exfalso; first | contradiction | omega)
                all_goals
                  refine bf (aO rfl (bf (aO rfl (bf (aW (dB rfl rfl) (eY rfl rfl (aV rfl (aA (aj (aQ rfl (fun h => by exfalso; (try simp only [aI] at h); first | contradiction | omega | (simp at h <;> omega)) (fun h5 => ?_)))))))))))
                  (try simp only [aI] at h5)
                  refine ay (ah (aO rfl (aW (fB underlying22 rfl) (aO rfl (aO rfl (aO rfl (aW (gU rfl rfl (by omega)) (aW (gU rfl rfl (by omega)) (aW (gU rfl rfl (by omega)) (aW (dB rfl rfl) (aV rfl (aA (aj (aQ rfl (fun h => by exfalso; (try simp only [aI] at h); first | contradiction | omega | (simp at h <;> omega)) (fun h6 => ?_)))))))))))))))
                  (try simp only [aI] at h6)
                  refine aS (aP (aj (ay (ah (aO rfl (aO rfl (dn rfl func112 (oD HL.swap) ?_)))))))
                  rintro u w8 H8
                  obtain ⟨au, cu, hu, _⟩ := (H8.aT).form
                  subst hu
                  refine aO rfl (aO rfl (aW (mZ underlying22 sizeOf21 rfl rfl rfl (by omega)) (dn rfl func178 (kN H8 (fun W HW => jV.cut HW.aT (i := i) (j := j) (by omega) (by omega)) (by simp; omega)) ?_)))
                  rintro d w9 H9
                  have HC := H9.swap.right
                  obtain ⟨ad, cd, hd, _⟩ := (HC.aT).form
                  subst hd
                  refine aO rfl (dn rfl func178 (kN HC hr.under.under.under (by omega)) ?_)
                  rintro s w10 ng
                  obtain ⟨ai, ci, hs, _⟩ := (ng.aT).form
                  subst hs
                  refine aW (dS (pl := #[(0, 1), (1, 1), (2, 1)]) (dX i (.slice ad ((L.drop i).take (j - i)).length cd) (.slice ai l.length ci)) underlying101 zeroValue101 (fun w => by kernel_rfl) rfl (by kernel_rfl)) (jo (pR ng zeroValue101) ?_)
                  rintro _ Ht ⟨b11, rfl, wB⟩
                  refine aG (cZ (cs := dX i (.slice ad ((L.drop i).take (j - i)).length cd) (.slice ai l.length ci)) wB sizeOf101 rfl rfl rfl rfl (jh rfl rfl)) ?_
                  rintro _ w12 vM
                  refine aA (aj (ay (ah (aO rfl (aO rfl (aO rfl (aW (fB underlying22 rfl) (dn rfl func229 (Ea vM.r4 (by omega) (by omega)) ?_))))))))
                  rintro _ Me ⟨x, uX⟩
                  obtain ⟨ax, cx, hx, _⟩ := (uX.swap.aT).form
                  subst hx
                  refine aA (aj (ay (ah (aO rfl (bK rfl (aZ 3 underlying184 rfl sizeOf3 rfl (dP underlying3 rfl uX.get.2 rfl (aO rfl (aO rfl (aW (gU rfl rfl (by omega)) (aW (fQ rfl rfl (by omega)) (bK rfl (aZ 3 underlying184 rfl sizeOf3 rfl (aG (dA uX sizeOf3 rfl rfl rfl (by rw [gZ]; decide)) ?_))))))))))))))
                  rintro _ Ky wM
                  rw [vO] at wM
                  have Wv := wM.get.2
                  refine aA (aj (ay ?_))
                  refine jE (n := 11) [0, 1, 2, 3, 4, 5, 6, 7, 8, 9, 10] (fun W => W.heap[p]? = some (.cells (dL (.slice ax (dR L i l.length).length cx) i ((i + l.length + 16 : Nat) + ((j : Int) - i)) pt mk) 184 (0, 0))) (by kernel_rfl) (by kernel_rfl) rfl ?_
                  have hS0 : (fun W => W.heap[p]? = some (.cells (dL (.slice ax (dR L i l.length).length cx) i ((i + l.length + 16 : Nat) + ((j : Int) - i)) pt mk) 184 (0, 0))) (Ky.drew) := Wv
                  have MH := wM.drew
                  refine iq 0 rfl hS0 rfl (jv 1 rfl hS0 rfl (fU 2 rfl hS0 1 underlying184 rfl sizeOf22 rfl (iV 3 rfl hS0 (fun W hW => jr underlying22 rfl hW rfl) (iq 4 rfl hS0 rfl (jv 5 rfl hS0 rfl (fU 6 rfl hS0 2 underlying184 rfl sizeOf3 rfl (iV 7 rfl hS0 (fun W hW => jr underlying3 rfl hW rfl) (iU 8 rfl hS0 (fun _ => mZ underlying22 sizeOf21 rfl rfl rfl (by omega)) (iq 9 rfl hS0 rfl (jB 10 rfl (tu (i := i) (m := l) MH.swap (hr _ MH.right.right.right.right.right.right) underlying22 (by kernel_rfl) rfl rfl (by omega)) ?_))))))))))
                  rintro _ MB ⟨rfl, wC⟩
                  have HS := wC.swap
                  refine zK (by kernel_rfl) ?_
                  refine oV (aj (ay (ah (aO rfl (bK rfl (aZ 2 underlying184 rfl sizeOf3 rfl (dP underlying3 rfl HS.get.2 rfl (aO rfl (aW (fB underlying22 rfl) (aW (fQ rfl rfl (by omega)) (bK rfl (aZ 2 underlying184 rfl sizeOf3 rfl (aG (dA HS sizeOf3 rfl rfl rfl (by rw [gZ]; decide)) ?_)))))))))))))
                  rintro _ w16 rP
                  rw [rQ] at rP
                  refine aA (aj (ay (bg (ay (ah (aO rfl (bK rfl (aZ 4 underlying184 rfl sizeOf3 rfl (dP underlying3 rfl rP.get.2 rfl (aO rfl (aW (dB rfl rfl) (aV rfl (aA (aj (aQ rfl (fun h7 => ?_) (fun h7 => ?_))))))))))))))))
                  · (try simp only [aI] at h7)
                    try (exfalso; first | contradiction | omega)
                    all_goals
                      refine ah (aO rfl (bK rfl (aZ 4 underlying184 rfl sizeOf3 rfl (dP underlying3 rfl rP.get.2 rfl (aO rfl (aW (fB underlying22 rfl) (aO rfl (aO rfl (aW (gU rfl rfl (by omega)) (aW (gU rfl rfl (by omega)) (aW (fQ rfl rfl (by omega)) (bK rfl (aZ 4 underlying184 rfl sizeOf3 rfl (aG (dA rP sizeOf3 rfl rfl rfl (by rw [gZ]; decide)) ?_))))))))))))))
                      rintro _ Tc D7
                      rw [qx] at D7
                      refine aA (aP (aj (ay (bg (ay (ah (aO rfl (bK rfl (aZ 5 underlying184 rfl sizeOf3 rfl (dP underlying3 rfl D7.get.2 rfl (aO rfl (aW (dB rfl rfl) (aV rfl (aA (aj (aQ rfl (fun h8 => ?_) (fun h8 => ?_)))))))))))))))))
                      · (try simp only [aI] at h8)
                        try (exfalso; first | contradiction | omega)
                        all_goals
                          refine ah (aO rfl (bK rfl (aZ 5 underlying184 rfl sizeOf3 rfl (dP underlying3 rfl D7.get.2 rfl (aO rfl (aW (fB underlying22 rfl) (aO rfl (aO rfl (aW (gU rfl rfl (by omega)) (aW (gU rfl rfl (by omega)) (aW (fQ rfl rfl (by omega)) (bK rfl (aZ 5 underlying184 rfl sizeOf3 rfl (aG (dA D7 sizeOf3 rfl rfl rfl (by rw [gZ]; decide)) ?_))))))))))))))
                          rintro _ Qc C9
                          rw [jQ] at C9
                          refine aA (aP (aj (ay ?_)))
                          have nY := C9.BL
                          refine ah (aW (bW underlying101 rfl sizeOf101 rfl rfl nY.get.2) (aG (cZ (cs := dX i (.slice ad ((L.drop i).take (j - i)).length cd) (.slice ai l.length ci)) nY.r6 sizeOf101 rfl rfl rfl rfl (jh rfl rfl)) ?_))
                          rintro _ Qh Aa
                          refine aV rfl (aA (aj (aJ ?_)))
                          refine dV (.inl rfl) results193 rfl rfl underlying101 rfl (by rw [show (prog.info? 101).map (·.size) = some 3 from by kernel_rfl]; rfl) Aa.get.2 ?_
                          refine ⟨_, _, rfl, ?_⟩
                          first
                            | rw [show bG pt i j l.length = pt + ((l.length : Int) - ((j : Int) - i)) from by unfold bG; rw [if_pos (by omega)]]
                            | rw [show bG pt i j l.length = (i : Int) + l.length from by unfold bG; rw [if_neg (by omega), if_pos (by omega)]]
                            | rw [show bG pt i j l.length = pt from by unfold bG; rw [if_neg (by omega), if_neg (by omega)]]
                          first
                            | rw [show bH mk i j l.length = mk + ((l.length : Int) - ((j : Int) - i)) from by unfold bH; rw [if_pos (by omega)]]
                            | rw [show bH mk i j l.length = (i : Int) from by unfold bH; rw [if_neg (by omega), if_pos (by omega)]]
                            | rw [show bH mk i j l.length = mk from by unfold bH; rw [if_neg (by omega), if_neg (by omega)]]
                          refine (aB.jg (f := i + l.length) (t := i + l.length + 16 + (j - i)) (v := .slice ax (dR L i l.length).length cx) (xs := dH (dR L i l.length) i l) (by omega) (by rw [bI (by omega)]; omega) hL' (by omega) (by rw [bI (by omega)]; omega) (by omega) (by omega) ?_).d3.swap
                          rw [show ((i + l.length : Nat) : Int) = (i : Int) + l.length from by omega, show ((i + l.length + 16 + (j - i) : Nat) : Int) = ((i + l.length + 16 : Nat) : Int) + ((j : Int) - i) from by omega]
                          exact Aa.right.right
                      · (try simp only [aI] at h8)
                        try (exfalso; first | contradiction | omega)
                        all_goals
                          refine ay (ah (aO rfl (bK rfl (aZ 5 underlying184 rfl sizeOf3 rfl (dP underlying3 rfl D7.get.2 rfl (aO rfl (aW (dB rfl rfl) (aV rfl (aA (aj (aQ rfl (fun h9 => ?_) (fun h9 => ?_))))))))))))
                          · (try simp only [aI] at h9)
                            try (exfalso; first | contradiction | omega)
                            all_goals
                              refine ah (aO rfl (aO rfl (bK rfl (aZ 5 underlying184 rfl sizeOf3 rfl (aG (dA D7 sizeOf3 rfl rfl rfl (by rw [gZ]; decide)) ?_)))))
                              rintro _ Qd wz
                              rw [jQ] at wz
                              refine aA (aP (aj (ay ?_)))
                              have nY := wz.BL
                              refine ah (aW (bW underlying101 rfl sizeOf101 rfl rfl nY.get.2) (aG (cZ (cs := dX i (.slice ad ((L.drop i).take (j - i)).length cd) (.slice ai l.length ci)) nY.r6 sizeOf101 rfl rfl rfl rfl (jh rfl rfl)) ?_))
                              rintro _ Rf nY
                              refine aV rfl (aA (aj (aJ ?_)))
                              refine dV (.inl rfl) results193 rfl rfl underlying101 rfl (by rw [show (prog.info? 101).map (·.size) = some 3 from by kernel_rfl]; rfl) nY.get.2 ?_
                              refine ⟨_, _, rfl, ?_⟩
                              first
                                | rw [show bG pt i j l.length = pt + ((l.length : Int) - ((j : Int) - i)) from by unfold bG; rw [if_pos (by omega)]]
                                | rw [show bG pt i j l.length = (i : Int) + l.length from by unfold bG; rw [if_neg (by omega), if_pos (by omega)]]
                                | rw [show bG pt i j l.length = pt from by unfold bG; rw [if_neg (by omega), if_neg (by omega)]]
                              first
                                | rw [show bH mk i j l.length = mk + ((l.length : Int) - ((j : Int) - i)) from by unfold bH; rw [if_pos (by omega)]]
                                | rw [show bH mk i j l.length = (i : Int) from by unfold bH; rw [if_neg (by omega), if_pos (by omega)]]
                                | rw [show bH mk i j l.length = mk from by unfold bH; rw [if_neg (by omega), if_neg (by omega)]]
                              refine (aB.jg (f := i + l.length) (t := i + l.length + 16 + (j - i)) (v := .slice ax (dR L i l.length).length cx) (xs := dH (dR L i l.length) i l) (by omega) (by rw [bI (by omega)]; omega) hL' (by omega) (by rw [bI (by omega)]; omega) (by omega) (by omega) ?_).d3.swap
                              rw [show ((i + l.length : Nat) : Int) = (i : Int) + l.length from by omega, show ((i + l.length + 16 + (j - i) : Nat) : Int) = ((i + l.length + 16 : Nat) : Int) + ((j : Int) - i) from by omega]
                              exact nY.right.right
                          · (try simp only [aI] at h9)
                            try (exfalso; first | contradiction | omega)
                            all_goals
                              refine aS (aP (aj (ay ?_)))
                              have nY := D7.BL
                              refine ah (aW (bW underlying101 rfl sizeOf101 rfl rfl nY.get.2) (aG (cZ (cs := dX i (.slice ad ((L.drop i).take (j - i)).length cd) (.slice ai l.length ci)) nY.r6 sizeOf101 rfl rfl rfl rfl (jh rfl rfl)) ?_))
                              rintro _ VG Fh
                              refine aV rfl (aA (aj (aJ ?_)))
                              refine dV (.inl rfl) results193 rfl rfl underlying101 rfl (by rw [show (prog.info? 101).map (·.size) = some 3 from by kernel_rfl]; rfl) Fh.get.2 ?_
                              refine ⟨_, _, rfl, ?_⟩
                              first
                                | rw [show bG pt i j l.length = pt + ((l.length : Int) - ((j : Int) - i)) from by unfold bG; rw [if_pos (by omega)]]
                                | rw [show bG pt i j l.length = (i : Int) + l.length from by unfold bG; rw [if_neg (by omega), if_pos (by omega)]]
                                | rw [show bG pt i j l.length = pt from by unfold bG; rw [if_neg (by omega), if_neg (by omega)]]
                              first
                                | rw [show bH mk i j l.length = mk + ((l.length : Int) - ((j : Int) - i)) from by unfold bH; rw [if_pos (by omega)]]
                                | rw [show bH mk i j l.length = (i : Int) from by unfold bH; rw [if_neg (by omega), if_pos (by omega)]]
                                | rw [show bH mk i j l.length = mk from by unfold bH; rw [if_neg (by omega), if_neg (by omega)]]
                              refine (aB.jg (f := i + l.length) (t := i + l.length + 16 + (j - i)) (v := .slice ax (dR L i l.length).length cx) (xs := dH (dR L i l.length) i l) (by omega) (by rw [bI (by omega)]; omega) hL' (by omega) (by rw [bI (by omega)]; omega) (by omega) (by omega) ?_).d3.swap
                              rw [show ((i + l.length : Nat) : Int) = (i : Int) + l.length from by omega, show ((i + l.length + 16 + (j - i) : Nat) : Int) = ((i + l.length + 16 : Nat) : Int) + ((j : Int) - i) from by omega]
                              exact Fh.right.right
                  · (try simp only [aI] at h7)
                    try (exfalso; first | contradiction | omega)
                    all_goals
                      refine ay (ah (aO rfl (bK rfl (aZ 4 underlying184 rfl sizeOf3 rfl (dP underlying3 rfl rP.get.2 rfl (aO rfl (aW (jm rfl rfl) (aV rfl (aA (aj (aQ rfl (fun h10 => ?_) (fun h10 => ?_))))))))))))
                      · (try simp only [aI] at h10)
                        try (exfalso; first | contradiction | omega)
                        all_goals
                          refine ah (aO rfl (aO rfl (aO rfl (aW (fB underlying22 rfl) (aW (fQ rfl rfl (by omega)) (bK rfl (aZ 4 underlying184 rfl sizeOf3 rfl (aG (dA rP sizeOf3 rfl rfl rfl (by rw [gZ]; decide)) ?_))))))))
                          rintro _ Qi xC
                          rw [qx] at xC
                          refine aA (aP (aj (ay (bg (ay (ah (aO rfl (bK rfl (aZ 5 underlying184 rfl sizeOf3 rfl (dP underlying3 rfl xC.get.2 rfl (aO rfl (aW (dB rfl rfl) (aV rfl (aA (aj (aQ rfl (fun h11 => ?_) (fun h11 => ?_)))))))))))))))))
                          · (try simp only [aI] at h11)
                            try (exfalso; first | contradiction | omega)
                            all_goals
                              refine ah (aO rfl (bK rfl (aZ 5 underlying184 rfl sizeOf3 rfl (dP underlying3 rfl xC.get.2 rfl (aO rfl (aW (fB underlying22 rfl) (aO rfl (aO rfl (aW (gU rfl rfl (by omega)) (aW (gU rfl rfl (by omega)) (aW (fQ rfl rfl (by omega)) (bK rfl (aZ 5 underlying184 rfl sizeOf3 rfl (aG (dA xC sizeOf3 rfl rfl rfl (by rw [gZ]; decide)) ?_))))))))))))))
                              rintro _ VH Kz
                              rw [jQ] at Kz
                              refine aA (aP (aj (ay ?_)))
                              have nY := Kz.BL
                              refine ah (aW (bW underlying101 rfl sizeOf101 rfl rfl nY.get.2) (aG (cZ (cs := dX i (.slice ad ((L.drop i).take (j - i)).length cd) (.slice ai l.length ci)) nY.r6 sizeOf101 rfl rfl rfl rfl (jh rfl rfl)) ?_))
                              rintro _ VI Jt
                              refine aV rfl (aA (aj (aJ ?_)))
                              refine dV (.inl rfl) results193 rfl rfl underlying101 rfl (by rw [show (prog.info? 101).map (·.size) = some 3 from by kernel_rfl]; rfl) Jt.get.2 ?_
                              refine ⟨_, _, rfl, ?_⟩
                              first
                                | rw [show bG pt i j l.length = pt + ((l.length : Int) - ((j : Int) - i)) from by unfold bG; rw [if_pos (by omega)]]
                                | rw [show bG pt i j l.length = (i : Int) + l.length from by unfold bG; rw [if_neg (by omega), if_pos (by omega)]]
                                | rw [show bG pt i j l.length = pt from by unfold bG; rw [if_neg (by omega), if_neg (by omega)]]
                              first
                                | rw [show bH mk i j l.length = mk + ((l.length : Int) - ((j : Int) - i)) from by unfold bH; rw [if_pos (by omega)]]
                                | rw [show bH mk i j l.length = (i : Int) from by unfold bH; rw [if_neg (by omega), if_pos (by omega)]]
                                | rw [show bH mk i j l.length = mk from by unfold bH; rw [if_neg (by omega), if_neg (by omega)]]
                              refine (aB.jg (f := i + l.length) (t := i + l.length + 16 + (j - i)) (v := .slice ax (dR L i l.length).length cx) (xs := dH (dR L i l.length) i l) (by omega) (by rw [bI (by omega)]; omega) hL' (by omega) (by rw [bI (by omega)]; omega) (by omega) (by omega) ?_).d3.swap
                              rw [show ((i + l.length : Nat) : Int) = (i : Int) + l.length from by omega, show ((i + l.length + 16 + (j - i) : Nat) : Int) = ((i + l.length + 16 : Nat) : Int) + ((j : Int) - i) from by omega]
                              exact Jt.right.right
                          · (try simp only [aI] at h11)
                            try (exfalso; first | contradiction | omega)
                            all_goals
                              refine ay (ah (aO rfl (bK rfl (aZ 5 underlying184 rfl sizeOf3 rfl (dP underlying3 rfl xC.get.2 rfl (aO rfl (aW (dB rfl rfl) (aV rfl (aA (aj (aQ rfl (fun h12 => ?_) (fun h12 => ?_))))))))))))
                              · (try simp only [aI] at h12)
                                try (exfalso; first | contradiction | omega)
                                all_goals
                                  refine ah (aO rfl (aO rfl (bK rfl (aZ 5 underlying184 rfl sizeOf3 rfl (aG (dA xC sizeOf3 rfl rfl rfl (by rw [gZ]; decide)) ?_)))))
                                  rintro _ Uh KC
                                  rw [jQ] at KC
                                  refine aA (aP (aj (ay ?_)))
                                  have nY := KC.BL
                                  refine ah (aW (bW underlying101 rfl sizeOf101 rfl rfl nY.get.2) (aG (cZ (cs := dX i (.slice ad ((L.drop i).take (j - i)).length cd) (.slice ai l.length ci)) nY.r6 sizeOf101 rfl rfl rfl rfl (jh rfl rfl)) ?_))
                                  rintro _ Ui Oj
                                  refine aV rfl (aA (aj (aJ ?_)))
                                  refine dV (.inl rfl) results193 rfl rfl underlying101 rfl (by rw [show (prog.info? 101).map (·.size) = some 3 from by kernel_rfl]; rfl) Oj.get.2 ?_
                                  refine ⟨_, _, rfl, ?_⟩
                                  first
                                    | rw [show bG pt i j l.length = pt + ((l.length : Int) - ((j : Int) - i)) from by unfold bG; rw [if_pos (by omega)]]
                                    | rw [show bG pt i j l.length = (i : Int) + l.length from by unfold bG; rw [if_neg (by omega), if_pos (by omega)]]
                                    | rw [show bG pt i j l.length = pt from by unfold bG; rw [if_neg (by omega), if_neg (by omega)]]
                                  first
                                    | rw [show bH mk i j l.length = mk + ((l.length : Int) - ((j : Int) - i)) from by unfold bH; rw [if_pos (by omega)]]
                                    | rw [show bH mk i j l.length = (i : Int) from by unfold bH; rw [if_neg (by omega), if_pos (by omega)]]
                                    | rw [show bH mk i j l.length = mk from by unfold bH; rw [if_neg (by omega), if_neg (by omega)]]
                                  refine (aB.jg (f := i + l.length) (t := i + l.length + 16 + (j - i)) (v := .slice ax (dR L i l.length).length cx) (xs := dH (dR L i l.length) i l) (by omega) (by rw [bI (by omega)]; omega) hL' (by omega) (by rw [bI (by omega)]; omega) (by omega) (by omega) ?_).d3.swap
                                  rw [show ((i + l.length : Nat) : Int) = (i : Int) + l.length from by omega, show ((i + l.length + 16 + (j - i) : Nat) : Int) = ((i + l.length + 16 : Nat) : Int) + ((j : Int) - i) from by omega]
                                  exact Oj.right.right
                              · (try simp only [aI] at h12)
                                try (exfalso; first | contradiction | omega)
                                all_goals
                                  refine aS (aP (aj (ay ?_)))
                                  have nY := xC.BL
                                  refine ah (aW (bW underlying101 rfl sizeOf101 rfl rfl nY.get.2) (aG (cZ (cs := dX i (.slice ad ((L.drop i).take (j - i)).length cd) (.slice ai l.length ci)) nY.r6 sizeOf101 rfl rfl rfl rfl (jh rfl rfl)) ?_))
                                  rintro _ VJ Ol
                                  refine aV rfl (aA (aj (aJ ?_)))
                                  refine dV (.inl rfl) results193 rfl rfl underlying101 rfl (by rw [show (prog.info? 101).map (·.size) = some 3 from by kernel_rfl]; rfl) Ol.get.2 ?_
                                  refine ⟨_, _, rfl, ?_⟩
                                  first
                                    | rw [show bG pt i j l.length = pt + ((l.length : Int) - ((j : Int) - i)) from by unfold bG; rw [if_pos (by omega)]]
                                    | rw [show bG pt i j l.length = (i : Int) + l.length from by unfold bG; rw [if_neg (by omega), if_pos (by omega)]]
                                    | rw [show bG pt i j l.length = pt from by unfold bG; rw [if_neg (by omega), if_neg (by omega)]]
                                  first
                                    | rw [show bH mk i j l.length = mk + ((l.length : Int) - ((j : Int) - i)) from by unfold bH; rw [if_pos (by omega)]]
                                    | rw [show bH mk i j l.length = (i : Int) from by unfold bH; rw [if_neg (by omega), if_pos (by omega)]]
                                    | rw [show bH mk i j l.length = mk from by unfold bH; rw [if_neg (by omega), if_neg (by omega)]]
                                  refine (aB.jg (f := i + l.length) (t := i + l.length + 16 + (j - i)) (v := .slice ax (dR L i l.length).length cx) (xs := dH (dR L i l.length) i l) (by omega) (by rw [bI (by omega)]; omega) hL' (by omega) (by rw [bI (by omega)]; omega) (by omega) (by omega) ?_).d3.swap
                                  rw [show ((i + l.length : Nat) : Int) = (i : Int) + l.length from by omega, show ((i + l.length + 16 + (j - i) : Nat) : Int) = ((i + l.length + 16 : Nat) : Int) + ((j : Int) - i) from by omega]
                                  exact Ol.right.right
                      · (try simp only [aI] at h10)
                        try (exfalso; first | contradiction | omega)
                        all_goals
                          refine aS (aP (aj (ay (bg (ay (ah (aO rfl (bK rfl (aZ 5 underlying184 rfl sizeOf3 rfl (dP underlying3 rfl rP.get.2 rfl (aO rfl (aW (dB rfl rfl) (aV rfl (aA (aj (aQ rfl (fun h13 => ?_) (fun h13 => ?_)))))))))))))))))
                          · (try simp only [aI] at h13)
                            try (exfalso; first | contradiction | omega)
                            all_goals
                              refine ah (aO rfl (bK rfl (aZ 5 underlying184 rfl sizeOf3 rfl (dP underlying3 rfl rP.get.2 rfl (aO rfl (aW (fB underlying22 rfl) (aO rfl (aO rfl (aW (gU rfl rfl (by omega)) (aW (gU rfl rfl (by omega)) (aW (fQ rfl rfl (by omega)) (bK rfl (aZ 5 underlying184 rfl sizeOf3 rfl (aG (dA rP sizeOf3 rfl rfl rfl (by rw [gZ]; decide)) ?_))))))))))))))
                              rintro _ YP Rh
                              rw [jQ] at Rh
                              refine aA (aP (aj (ay ?_)))
                              have nY := Rh.BL
                              refine ah (aW (bW underlying101 rfl sizeOf101 rfl rfl nY.get.2) (aG (cZ (cs := dX i (.slice ad ((L.drop i).take (j - i)).length cd) (.slice ai l.length ci)) nY.r6 sizeOf101 rfl rfl rfl rfl (jh rfl rfl)) ?_))
                              rintro _ Wp MC
                              refine aV rfl (aA (aj (aJ ?_)))
                              refine dV (.inl rfl) results193 rfl rfl underlying101 rfl (by rw [show (prog.info? 101).map (·.size) = some 3 from by kernel_rfl]; rfl) MC.get.2 ?_
                              refine ⟨_, _, rfl, ?_⟩
                              first
                                | rw [show bG pt i j l.length = pt + ((l.length : Int) - ((j : Int) - i)) from by unfold bG; rw [if_pos (by omega)]]
                                | rw [show bG pt i j l.length = (i : Int) + l.length from by unfold bG; rw [if_neg (by omega), if_pos (by omega)]]
                                | rw [show bG pt i j l.length = pt from by unfold bG; rw [if_neg (by omega), if_neg (by omega)]]
                              first
                                | rw [show bH mk i j l.length = mk + ((l.length : Int) - ((j : Int) - i)) from by unfold bH; rw [if_pos (by omega)]]
                                | rw [show bH mk i j l.length = (i : Int) from by unfold bH; rw [if_neg (by omega), if_pos (by omega)]]
                                | rw [show bH mk i j l.length = mk from by unfold bH; rw [if_neg (by omega), if_neg (by omega)]]
                              refine (aB.jg (f := i + l.length) (t := i + l.length + 16 + (j - i)) (v := .slice ax (dR L i l.length).length cx) (xs := dH (dR L i l.length) i l) (by omega) (by rw [bI (by omega)]; omega) hL' (by omega) (by rw [bI (by omega)]; omega) (by omega) (by omega) ?_).d3.swap
                              rw [show ((i + l.length : Nat) : Int) = (i : Int) + l.length from by omega, show ((i + l.length + 16 + (j - i) : Nat) : Int) = ((i + l.length + 16 : Nat) : Int) + ((j : Int) - i) from by omega]
                              exact MC.right.right
                          · (try simp only [aI] at h13)
                            try (exfalso; first | contradiction | omega)
                            all_goals
                              refine ay (ah (aO rfl (bK rfl (aZ 5 underlying184 rfl sizeOf3 rfl (dP underlying3 rfl rP.get.2 rfl (aO rfl (aW (dB rfl rfl) (aV rfl (aA (aj (aQ rfl (fun h14 => ?_) (fun h14 => ?_))))))))))))
                              · (try simp only [aI] at h14)
                                try (exfalso; first | contradiction | omega)
                                all_goals
                                  refine ah (aO rfl (aO rfl (bK rfl (aZ 5 underlying184 rfl sizeOf3 rfl (aG (dA rP sizeOf3 rfl rfl rfl (by rw [gZ]; decide)) ?_)))))
                                  rintro _ Uj Hu
                                  rw [jQ] at Hu
                                  refine aA (aP (aj (ay ?_)))
                                  have nY := Hu.BL
                                  refine ah (aW (bW underlying101 rfl sizeOf101 rfl rfl nY.get.2) (aG (cZ (cs := dX i (.slice ad ((L.drop i).take (j - i)).length cd) (.slice ai l.length ci)) nY.r6 sizeOf101 rfl rfl rfl rfl (jh rfl rfl)) ?_))
                                  rintro _ w32 Ls
                                  refine aV rfl (aA (aj (aJ ?_)))
                                  refine dV (.inl rfl) results193 rfl rfl underlying101 rfl (by rw [show (prog.info? 101).map (·.size) = some 3 from by kernel_rfl]; rfl) Ls.get.2 ?_
                                  refine ⟨_, _, rfl, ?_⟩
                                  first
                                    | rw [show bG pt i j l.length = pt + ((l.length : Int) - ((j : Int) - i)) from by unfold bG; rw [if_pos (by omega)]]
                                    | rw [show bG pt i j l.length = (i : Int) + l.length from by unfold bG; rw [if_neg (by omega), if_pos (by omega)]]
                                    | rw [show bG pt i j l.length = pt from by unfold bG; rw [if_neg (by omega), if_neg (by omega)]]
                                  first
                                    | rw [show bH mk i j l.length = mk + ((l.length : Int) - ((j : Int) - i)) from by unfold bH; rw [if_pos (by omega)]]
                                    | rw [show bH mk i j l.length = (i : Int) from by unfold bH; rw [if_neg (by omega), if_pos (by omega)]]
                                    | rw [show bH mk i j l.length = mk from by unfold bH; rw [if_neg (by omega), if_neg (by omega)]]
                                  refine (aB.jg (f := i + l.length) (t := i + l.length + 16 + (j - i)) (v := .slice ax (dR L i l.length).length cx) (xs := dH (dR L i l.length) i l) (by omega) (by rw [bI (by omega)]; omega) hL' (by omega) (by rw [bI (by omega)]; omega) (by omega) (by omega) ?_).d3.swap
                                  rw [show ((i + l.length : Nat) : Int) = (i : Int) + l.length from by omega, show ((i + l.length + 16 + (j - i) : Nat) : Int) = ((i + l.length + 16 : Nat) : Int) + ((j : Int) - i) from by omega]
                                  exact Ls.right.right
                              · (try simp only [aI] at h14)
                                try (exfalso; first | contradiction | omega)
                                all_goals
                                  refine aS (aP (aj (ay ?_)))
                                  have nY := rP.BL
                                  refine ah (aW (bW underlying101 rfl sizeOf101 rfl rfl nY.get.2) (aG (cZ (cs := dX i (.slice ad ((L.drop i).take (j - i)).length cd) (.slice ai l.length ci)) nY.r6 sizeOf101 rfl rfl rfl rfl (jh rfl rfl)) ?_))
                                  rintro _ VK Hw
                                  refine aV rfl (aA (aj (aJ ?_)))
                                  refine dV (.inl rfl) results193 rfl rfl underlying101 rfl (by rw [show (prog.info? 101).map (·.size) = some 3 from by kernel_rfl]; rfl) Hw.get.2 ?_
                                  refine ⟨_, _, rfl, ?_⟩
                                  first
                                    | rw [show bG pt i j l.length = pt + ((l.length : Int) - ((j : Int) - i)) from by unfold bG; rw [if_pos (by omega)]]
                                    | rw [show bG pt i j l.length = (i : Int) + l.length from by unfold bG; rw [if_neg (by omega), if_pos (by omega)]]
                                    | rw [show bG pt i j l.length = pt from by unfold bG; rw [if_neg (by omega), if_neg (by omega)]]
                                  first
                                    | rw [show bH mk i j l.length = mk + ((l.length : Int) - ((j : Int) - i)) from by unfold bH; rw [if_pos (by omega)]]
                                    | rw [show bH mk i j l.length = (i : Int) from by unfold bH; rw [if_neg (by omega), if_pos (by omega)]]
                                    | rw [show bH mk i j l.length = mk from by unfold bH; rw [if_neg (by omega), if_neg (by omega)]]
                                  refine (aB.jg (f := i + l.length) (t := i + l.length + 16 + (j - i)) (v := .slice ax (dR L i l.length).length cx) (xs := dH (dR L i l.length) i l) (by omega) (by rw [bI (by omega)]; omega) hL' (by omega) (by rw [bI (by omega)]; omega) (by omega) (by omega) ?_).d3.swap
                                  rw [show ((i + l.length : Nat) : Int) = (i : Int) + l.length from by omega, show ((i + l.length + 16 + (j - i) : Nat) : Int) = ((i + l.length + 16 : Nat) : Int) + ((j : Int) - i) from by omega]
                                  exact Hw.right.right
end
end Go.Proofs.YtgndbccogcofjaaGreatDoor
end
section
namespace Go.Proofs.YtgndbccogcofjaaGreatDoor
open Go.RowKit
open _root_.Go.Proofs.Tryz
def Ql (n : Nat) (pt x : Int) : Int := if 0 ≤ x ∧ x ≤ n then x else pt
def Un (n : Nat) (x : Int) : Int := if 0 ≤ x ∧ x ≤ n then 0 else 70
def oH (v : Value) (pt mk : Int) : Array Value := #[v, .int .i64 pt, .int .i64 mk]
theorem KF {v : Value} {pt mk : Int} (h : v.oneCell' = true) : ∀ u ∈ (oH v pt mk).toList, u.oneCell' = true := by
  intro u hu
  simp [oH] at hu
  rcases hu with rfl | rfl | rfl
  · exact h
  · rfl
  · rfl
section
variable {w0 w : World} {F : HP} {p : Nat} {L : List Int} {pt mk x : Int} {v : Value} {l : List Int}
theorem Eb (H : aB w0 w (dJ p L pt mk • F)) : eG prog 111 #[.pointer (some ⟨p, 0, none⟩), .int .i64 x] w fun v w' => v = .int .i64 (Un L.length x) ∧ aB w0 w' (dJ p L (Ql L.length pt x) mk • F) := by
 refine fP func111 ntmps111 ?_
 dsimp only [aX, Nat.reduceAdd]
 refine ay (ah (aV rfl (aA (aj (ay (bg (ay (ah (aO rfl (dn rfl func185 (jR H) ?_))))))))))
 rintro _ _ ⟨rfl, rfl⟩
 refine aV rfl (aA (aj (aQ rfl (fun h1 => ?_) (fun h1 => ?_))))
 ·(try simp only [aI] at h1)
  exfalso; first | contradiction | omega
 ·(try simp only [aI] at h1)
  try (exfalso; first | contradiction | omega)
  all_goals
   refine ay (ah (aO rfl (aW (eU rfl rfl) (fV rfl (fun h2 => ?_) (fun h2 => ?_)))))
   ·(try simp only [aI] at h2)
    try (exfalso; first | contradiction | omega)
    all_goals
     refine bC (bC (bC (bC (fG rfl rfl (aV rfl (aA (aj (uI (ay (ah (aV rfl (aA (aj (aJ (aU (aK (aH (.inl rfl) results111 rfl ?_)))))))))))))))))
     exact ⟨by rw [Un, if_neg (by omega)], by rw [Ql, if_neg (by omega)]; exact H⟩
   ·(try simp only [aI] at h2)
    try (exfalso; first | contradiction | omega)
    all_goals
     refine bf (aO rfl (bf (aO rfl (bf (dn rfl func186 (jF H) ?_)))))
     rintro _ w2 ⟨rfl, hD⟩
     have HL := H.pK hD
     refine bf (aW (dB rfl rfl) (eY rfl rfl (aV rfl (aA (aj (aQ rfl (fun h3 => ?_) (fun h3 => ?_)))))))
     ·(try simp only [aI] at h3)
      try (exfalso; first | contradiction | omega)
      all_goals
       refine ay (ah (aV rfl (aA (aj (aJ (aU (aK (aH (.inl rfl) results111 rfl ?_))))))))
       exact ⟨by rw [Un, if_neg (by omega)], by rw [Ql, if_neg (by omega)]; exact HL⟩
     ·(try simp only [aI] at h3)
      try (exfalso; first | contradiction | omega)
      all_goals
       refine aS (aP (aj (ay ?_)))
       obtain ⟨a, c, xs, f, t, h11, h12, h13, h14, h15, h16, h17, hc1, hc2, hl, HB⟩ := HL.buf
       refine ah (aO rfl (aO rfl (bK rfl (aZ 4 underlying184 rfl sizeOf3 rfl (aG (dA HB sizeOf3 rfl rfl rfl (by rw [gZ]; decide)) ?_)))))
       rintro _ w3 H3
       rw [qx] at H3
       refine aA (aj (ay (ah (aV rfl (aA (aj (aJ (aH (.inl rfl) results111 rfl ?_))))))))
       exact ⟨by rw [Un, if_pos (by omega)], by rw [Ql, if_pos (by omega)]; exact aB.jg h11 h12 h13 h14 h15 (by omega) h17 H3⟩
theorem Ec (H : aB w0 w (dJ p L pt mk • F)) : eG prog 43 #[.pointer (some ⟨p, 0, none⟩)] w fun v' w' => ∃ u, v' = .agg (oH u pt mk) ∧ aB w0 w' (iE 21 .i32 u L • dJ p L pt mk • F) := by
 refine fP func43 ntmps43 ?_
 dsimp only [aX, Nat.reduceAdd]
 refine ay (ah (jo (pR H zeroValue53) ?_))
 rintro _ w1 ⟨b1, rfl, H1⟩
 refine aA (aj (ay (ah (aO rfl (dn rfl func112 (oD H1.swap) ?_)))))
 rintro u w2 H2
 obtain ⟨au, cu, hu, _⟩ := (H2.aT).form
 subst hu
 refine aO rfl (dn rfl func113 (ny H2.swap) ?_)
 rintro _ _ ⟨rfl, rfl⟩
 refine aO rfl (dn rfl func114 (D9 H2.swap) ?_)
 rintro _ _ ⟨rfl, rfl⟩
 refine aW (dS (pl := #[(0, 1), (1, 1), (2, 1)]) (oH (.slice au L.length cu) pt mk) underlying53 zeroValue53 (fun w => by kernel_rfl) rfl (by kernel_rfl)) (aG (cZ (cs := oH (.slice au L.length cu) pt mk) H2.BL sizeOf53 rfl rfl rfl rfl (KF rfl)) ?_)
 rintro _ w5 H5
 refine aA (aj (aJ ?_))
 refine OI (.inl rfl) results43 rfl underlying53 rfl (by rw [show (prog.info? 53).map (·.size) = some 3 from by kernel_rfl]; rfl) H5.get.2 ?_
 exact ⟨_, rfl, H5.right⟩
end
end Go.Proofs.YtgndbccogcofjaaGreatDoor
end
section
namespace Go.Proofs.YtgndbccogcofjaaGreatDoor
open Go.RowKit
section
variable {w0 w : World} {F : HP} {p : Nat} {L : List Int} {pt mk : Int} {v : Value} {l : List Int}
end
end Go.Proofs.YtgndbccogcofjaaGreatDoor
end
section
namespace Go.Proofs.YtgndbccogcofjaaGreatDoor
open Go.RowKit
end Go.Proofs.YtgndbccogcofjaaGreatDoor
end
section
namespace Go.Proofs.YtgndbccogcofjaaGreatDoor
open Go.RowKit
section
variable {w0 w : World} {F : HP} {p : Nat} {L : List Int} {pt mk a : Int} {d i : Value} {dl il : List Int}
end
end Go.Proofs.YtgndbccogcofjaaGreatDoor
end
section
namespace Go.Proofs.YtgndbccogcofjaaGreatDoor
open Go.RowKit
open _root_.Go.Proofs.Tryz
def iW (L : List Int) (i j : Int) (l : List Int) : Int := if i < 0 ∨ L.length < i ∨ j < i ∨ L.length < j then 70 else if 1024 < L.length - (j - i) + l.length then 3 else 0
def kP (L : List Int) (i j : Int) (l : List Int) : List Int := if iW L i j l = 0 then L.take i.toNat ++ l ++ L.drop j.toNat else L
def kQ (L : List Int) (pt i j : Int) (l : List Int) : Int := if iW L i j l = 0 then bG pt i j l.length else pt
def lC (L : List Int) (mk i j : Int) (l : List Int) : Int := if iW L i j l = 0 then bH mk i j l.length else mk
def mG (L : List Int) (i j : Int) (l : List Int) : Int := if iW L i j l = 0 then i else 0
def iY (L : List Int) (i j : Int) (l : List Int) : List Int := if iW L i j l = 0 then (L.drop i.toNat).take (j - i).toNat else []
def iZ (L : List Int) (i j : Int) (l : List Int) : List Int := if iW L i j l = 0 then l else []
section
variable {w0 w : World} {F : HP} {p : Nat} {L : List Int} {pt mk : Int} {v d s : Value} {l dl il : List Int} {i j a x : Int}
theorem y5 (H : aB w0 w (dJ p L pt mk • F)) (hr : iD w0 F .i32 v l) :
    eG prog 193 #[.pointer (some ⟨p, 0, none⟩), .int .i64 i, .int .i64 j, v] w fun v' w' => ∃ d s, v' = .tuple #[.agg #[.int .i64 (mG L i j l), d, s], .int .i64 (iW L i j l)] ∧
      aB w0 w' (iE 21 .i32 d (iY L i j l) • iE 21 .i32 s (iZ L i j l) • dJ p (kP L i j l) (kQ L pt i j l) (lC L mk i j l) • F) := by
  unfold mG kP kQ lC iY iZ
  by_cases h1 : i < 0 ∨ L.length < i ∨ j < i ∨ L.length < j
  · have e : iW L i j l = 70 := by unfold iW; rw [if_pos h1]
    simp only [e, show ¬ (70 : Int) = 0 from by decide, if_false]
    exact (yZ H hr h1).mono fun v' w' h => ⟨_, _, h.1, (h.2.wK none).wK none⟩
  · have h2 : 0 ≤ i ∧ i ≤ j ∧ j ≤ L.length := by omega
    by_cases h3 : 1024 < L.length - (j - i) + l.length
    · have e : iW L i j l = 3 := by unfold iW; rw [if_neg h1, if_pos h3]
      simp only [e, show ¬ (3 : Int) = 0 from by decide, if_false]
      exact (xQ H hr h2 h3).mono fun v' w' h => ⟨_, _, h.1, (h.2.wK none).wK none⟩
    · have e : iW L i j l = 0 := by unfold iW; rw [if_neg h1, if_neg h3]
      simp only [e, if_true]
      obtain ⟨i', rfl⟩ := Int.eq_ofNat_of_zero_le h2.1
      obtain ⟨j', rfl⟩ := Int.eq_ofNat_of_zero_le (show 0 ≤ j by omega)
      have hij : i' ≤ j' ∧ j' ≤ L.length := by omega
      have := Ai (i := i') (j := j') H hr hij (by omega)
      simpa only [Int.toNat_natCast, show ((j' : Int) - (i' : Int)).toNat = j' - i' from by omega, dX] using this
def Wx (L : List Int) (x : Int) : Int := if x < -1 ∨ L.length < x then 70 else 0
def Tn (L : List Int) (mk x : Int) : Int := if x < -1 ∨ L.length < x then mk else x
theorem y7 (H : aB w0 w (dJ p L pt mk • F)) : eG prog 207 #[.pointer (some ⟨p, 0, none⟩), .int .i64 x] w fun v' w' => v' = .int .i64 (Wx L x) ∧ aB w0 w' (dJ p L pt (Tn L mk x) • F) := by
 unfold Wx Tn
 have hL : L.length ≤ 1024 := by obtain ⟨a, c, xs, f, t, h1, h2, h3, h4, h5, h6, h7, hc1, hc2, hl, H1⟩ := H.buf; exact h4
 refine fP func207 ntmps207 ?_
 dsimp only [aX, Nat.reduceAdd]
 refine ay (ah (aV rfl (aA (aj (ay (bg (ay (ah (aO rfl (dn rfl func185 (jR H) ?_))))))))))
 rintro _ _ ⟨rfl, rfl⟩
 refine aV rfl (aA (aj (nV (ay (ah (aO rfl (aW (eU rfl rfl) (fV rfl (fun h1 => ?_) (fun h1 => ?_)))))))))
 ·(try simp only [aI] at h1)
  try (exfalso; first | contradiction | omega)
  all_goals
   refine bC (bC (bC (bC (fG rfl rfl (aV rfl (aA (aj (uI (ay (ah (aV rfl (aA (aj (aJ (aU (aK (aH (.inl rfl) results207 rfl ?_)))))))))))))))))
   exact ⟨by rw [if_pos (by omega)], by rw [if_pos (by omega)]; exact H⟩
 ·(try simp only [aI] at h1)
  try (exfalso; first | contradiction | omega)
  all_goals
   refine bf (aO rfl (bf (aO rfl (bf (dn rfl func186 (jF H) ?_)))))
   rintro _ w2 ⟨rfl, hD2⟩
   have HD2 := H.pK hD2
   refine bf (aW (dB rfl rfl) (eY rfl rfl (aV rfl (aA (aj (aQ rfl (fun h2 => ?_) (fun h2 => ?_)))))))
   ·(try simp only [aI] at h2)
    try (exfalso; first | contradiction | omega)
    all_goals
     refine ay (ah (aV rfl (aA (aj (aJ (aU (aK (aH (.inl rfl) results207 rfl ?_))))))))
     exact ⟨by rw [if_pos (by omega)], by rw [if_pos (by omega)]; exact HD2⟩
   ·(try simp only [aI] at h2)
    try (exfalso; first | contradiction | omega)
    all_goals
     refine aS (aP (aj (ay ?_)))
     obtain ⟨Wy, WA, WB, ZI, ZJ, OX, OY, OZ, O4, O5, O6, WE, WG, WH, Uo, O7⟩ := (HD2).buf
     refine ah (aO rfl (aO rfl (bK rfl (aZ 5 underlying184 rfl sizeOf3 rfl (aG (aN 5 (l' := [_, _, _, _, _, _]) O7 sizeOf3 rfl rfl (by first | rfl | assumption) rfl rfl) ?_)))))
     rintro _ w4 H4
     refine aA (aj (ay (ah (aV rfl (aA (aj (aJ (aH (.inl rfl) results207 rfl ?_))))))))
     exact ⟨by rw [if_neg (by omega)], by rw [if_neg (by omega)]; exact aB.jg OX OY OZ O4 O5 O6 (by omega) H4.f2.f2⟩
def ZK (mk : Int) : Int := if mk < 0 then 6 else 0
def ZL (pt mk : Int) : Int := if mk < 0 then pt else mk
def ZM (pt mk : Int) : Int := if mk < 0 then mk else pt
theorem BQ (H : aB w0 w (dJ p L pt mk • F)) : eG prog 115 #[.pointer (some ⟨p, 0, none⟩)] w fun v' w' => ∃ q, v' = .pointer (some ⟨q, 0, none⟩) ∧ aB w0 w' (dJ q L pt mk • dJ p L pt mk • F) := by
 refine fP func115 ntmps115 ?_
 dsimp only [aX, Nat.reduceAdd]
 refine ay (ah (aV rfl (aA (aj (ay (ay (ah (aO rfl (dn rfl func185 (jR H) ?_)))))))))
 rintro _ _ ⟨rfl, rfl⟩
 refine aA (aj (nV (aS (aj (ay ?_)))))
 obtain ⟨Wy, WA, WB, ZI, ZJ, OX, OY, OZ, O4, O5, O6, WE, WG, WH, Uo, O7⟩ := (H).buf
 refine ah (aO rfl (bK rfl (aW (bW underlying184 rfl sizeOf184 rfl rfl (O7).get.2) (jo (fJ (l := [_, _, _, _, _, _]) O7 zeroValue184 rfl) ?_))))
 rintro _ w3 ⟨b3, rfl, H3⟩
 refine aG (cO 0 (l' := [_, _, _, _, _, _]) (us := [_, _, _, _, _, _]) H3 sizeOf184 rfl rfl rfl (aC (by first | rfl | assumption) (aC (by first | rfl | exact Rd.one ((H3.f3).aT)) (aC (by first | rfl | assumption) (aC (by first | rfl | assumption) (aC (by first | rfl | assumption) (aC (by first | rfl | assumption) bP)))))) rfl rfl) ?_
 rintro _ w4 H4
 refine aA (aj (ay (ah (aO rfl (bK rfl (aZ 1 underlying184 rfl sizeOf22 rfl (dP underlying22 rfl (H4.f2).get.2 rfl (dn rfl func178 (kN H4 (fun W HW => (HW.f3).aT) (by omega)) ?_))))))))
 rintro u5 w5 H5
 refine aZ 1 underlying184 rfl sizeOf22 rfl (aG (aN 1 (l' := [_, _, _, _, _, _]) H5.f2 sizeOf22 rfl rfl (by first | rfl | exact Rd.one ((H5).aT)) rfl rfl) ?_)
 rintro _ w6 H6
 refine aA (aj (ay (ah (aV rfl (aA (aj (aJ (aH (.inl rfl) results115 rfl ?_))))))))
 exact ⟨_, rfl, (aB.jg OX OY OZ O4 O5 O6 (by omega) (aB.jg OX OY OZ O4 O5 O6 (by omega) H6.f4.f4.f4.f4).f2.f3.f2).f2⟩
def Ur (L : List Int) (a : Int) (dl : List Int) : Bool := decide ((dl.length : Int) ≤ L.length - a) && ((L.drop a.toNat).take dl.length == dl)
def Rk (L : List Int) (a : Int) (dl il : List Int) : Int := if a < 0 ∨ L.length < a then 70 else if Ur L a dl then iW L a (a + dl.length) il else 71
def WI (L : List Int) (a : Int) (dl il : List Int) : List Int := if Rk L a dl il = 0 then kP L a (a + dl.length) il else L
def WJ (L : List Int) (pt a : Int) (dl il : List Int) : Int := if Rk L a dl il = 0 then kQ L pt a (a + dl.length) il else pt
def WM (L : List Int) (mk a : Int) (dl il : List Int) : Int := if Rk L a dl il = 0 then lC L mk a (a + dl.length) il else mk
end
end Go.Proofs.YtgndbccogcofjaaGreatDoor
end
