import Derived.Test.YtddekefihgejoaaGreatDoorZ2
import Derived.Test.YtddekefihgejoaaGreatDoorZ6
import Derived.Test.YtddekefihgejoaaGreatDoorZ4
set_option linter.unusedSimpArgs false
set_option linter.unusedVariables false
/- Texts of mine, joined, their names in short: Buf3 LineP Move BLive Same Apply BufP. -/
section
namespace Go.Proofs.YtddekefihgejoaaGreatDoor
open Go.RowKit
open _root_.Go.Proofs.Tryz
section
variable {w0 w : World} {F : HP} {p : Nat} {L : List Int} {pt mk : Int} {v : Value} {l : List Int} {i j : Int}
theorem Eb {i j : Nat} (H : aA w0 w (dQ p L pt mk • F)) (hr : gV w0 F .i32 v l) (hb : i ≤ j ∧ j ≤ L.length) (hl : (L.length : Int) - ((j : Int) - i) + l.length ≤ 1024) :
    fQ prog 136 #[.pointer (some ⟨p, 0, none⟩), .int .i64 i, .int .i64 j, v] w fun v' w' => ∃ d s, v' = .tuple #[.agg (fP i d s), .int .i64 0] ∧
      aA w0 w' (gW 21 .i32 d ((L.drop i).take (j - i)) • gW 21 .i32 s l • dQ p (L.take i ++ l ++ L.drop j) (bI pt i j l.length) (bJ mk i j l.length) • F) := by
  obtain ⟨a, c, rfl, hac, acA, _⟩ := (hr w H.right).open
  obtain ⟨hL4, hpt, hmk⟩ : L.length ≤ 1024 ∧ (0 ≤ pt ∧ pt ≤ L.length) ∧ (-1 ≤ mk ∧ mk ≤ L.length) := by obtain ⟨a, c, xs, f, t, h1, h2, h3, h4, h5, h6, h7, hc1, hc2, hl, H1⟩ := H.buf; exact ⟨h4, h6, h7⟩
  have hg1 := LQ (L := L) (i := i) (r := l.length) (by omega)
  have hg2 := Jw (L := L) (i := i) (r := l.length) (by omega)
  have hg3 := Jy (L := L) (i := i) (r := l.length) (by omega)
  have hL' : L.take i ++ l ++ L.drop j = (dP (fF L i l.length) i l).take (i + l.length) ++ (dP (fF L i l.length) i l).drop (i + l.length + 16 + (j - i)) := by
    rw [BL (by omega), Jv (by omega) (by omega), hg2]
    congr 1
    rw [← List.drop_drop, hg3, List.drop_drop]
    congr 1; omega
  have hlen' : (L.take i ++ l ++ L.drop j).length = L.length - (j - i) + l.length := by simp; omega
  refine iw func136 ntmps136 ?_
  dsimp only [aZ, Nat.reduceAdd]
  refine ay (ah (gB (vS H zeroValue202) ?_))
  rintro _ w1 ⟨b1, rfl, H1⟩
  refine aW rfl (aB (aj (ay (ah (aP rfl (dD rfl func140 (tH H1.right) ?_))))))
  rintro _ w2 ⟨rfl, hD⟩
  have HL := H1.wM hD
  refine aW rfl (aB (aj (ay (aY (ay (ah (aP rfl (dD rfl func139 (ou HL.right) ?_))))))))
  rintro _ _ ⟨rfl, rfl⟩
  refine aW rfl (aB (aj (aO rfl (fun h1 => ?_) (fun h1 => ?_))))
  · (try simp only [aG] at h1)
    try (exfalso; first | contradiction | omega)
    all_goals
      refine ay (ah (aU (fJ (pl := #[(0, 1), (1, 1), (2, 1)]) (_) underlying202 zeroValue202 (fun w => by kernel_rfl) rfl (rfl)) (aI (fH HL sizeOf202 rfl rfl rfl (by decide)) ?_)))
      rintro _ w4 H4
      refine aW rfl (aB (aj (aN (aX (aK ?_)))))
      refine fM (.inl rfl) results136 rfl rfl underlying202 rfl (by rw [show (prog.info? 202).map (·.size) = some 3 from by kernel_rfl]; rfl) H4.get.2 ?_
      refine ⟨_, _, rfl, ?_⟩
      first
        | rw [show bI pt i j l.length = pt + ((l.length : Int) - ((j : Int) - i)) from by unfold bI; rw [if_pos (by omega)]]
        | rw [show bI pt i j l.length = (i : Int) + l.length from by unfold bI; rw [if_neg (by omega), if_pos (by omega)]]
        | rw [show bI pt i j l.length = pt from by unfold bI; rw [if_neg (by omega), if_neg (by omega)]]
      first
        | rw [show bJ mk i j l.length = mk + ((l.length : Int) - ((j : Int) - i)) from by unfold bJ; rw [if_pos (by omega)]]
        | rw [show bJ mk i j l.length = (i : Int) from by unfold bJ; rw [if_neg (by omega), if_pos (by omega)]]
        | rw [show bJ mk i j l.length = mk from by unfold bJ; rw [if_neg (by omega), if_neg (by omega)]]
      refine (aA.kP (f := i + l.length) (t := i + l.length + 16 + (j - i)) (v := .slice ax (fF L i l.length).length cx) (xs := dP (fF L i l.length) i l) (by omega) (by rw [bP (by omega)]; omega) hL' (by omega) (by rw [bP (by omega)]; omega) (by omega) (by omega) ?_).d3.swap
      rw [show ((i + l.length : Nat) : Int) = (i : Int) + l.length from by omega, show ((i + l.length + 16 + (j - i) : Nat) : Int) = ((i + l.length + 16 : Nat) : Int) + ((j : Int) - i) from by omega]
      exact H4.right.right
  · (try simp only [aG] at h1)
    try (exfalso; first | contradiction | omega)
    all_goals
      refine ay (ah (aP rfl (aU (dV rfl rfl) (jL rfl (fun h2 => ?_) (fun h2 => ?_)))))
      · (try simp only [aG] at h2)
        try (exfalso; first | contradiction | omega)
        all_goals
          refine bK (bK (bK (jP rfl rfl (aP rfl (bK (bK (bK (jP rfl rfl (aP rfl (bK (bK (bK (jP rfl rfl (aW rfl (aB (aj (Dj (ay (ah (aU (fJ (pl := #[(0, 1), (1, 1), (2, 1)]) (_) underlying202 zeroValue202 (fun w => by kernel_rfl) rfl (rfl)) (aI (fH HL sizeOf202 rfl rfl rfl (by decide)) ?_)))))))))))))))))))))
          rintro _ w5 H5
          refine aW rfl (aB (aj (aN (aX (aK ?_)))))
          refine fM (.inl rfl) results136 rfl rfl underlying202 rfl (by rw [show (prog.info? 202).map (·.size) = some 3 from by kernel_rfl]; rfl) H5.get.2 ?_
          refine ⟨_, _, rfl, ?_⟩
          first
            | rw [show bI pt i j l.length = pt + ((l.length : Int) - ((j : Int) - i)) from by unfold bI; rw [if_pos (by omega)]]
            | rw [show bI pt i j l.length = (i : Int) + l.length from by unfold bI; rw [if_neg (by omega), if_pos (by omega)]]
            | rw [show bI pt i j l.length = pt from by unfold bI; rw [if_neg (by omega), if_neg (by omega)]]
          first
            | rw [show bJ mk i j l.length = mk + ((l.length : Int) - ((j : Int) - i)) from by unfold bJ; rw [if_pos (by omega)]]
            | rw [show bJ mk i j l.length = (i : Int) from by unfold bJ; rw [if_neg (by omega), if_pos (by omega)]]
            | rw [show bJ mk i j l.length = mk from by unfold bJ; rw [if_neg (by omega), if_neg (by omega)]]
          refine (aA.kP (f := i + l.length) (t := i + l.length + 16 + (j - i)) (v := .slice ax (fF L i l.length).length cx) (xs := dP (fF L i l.length) i l) (by omega) (by rw [bP (by omega)]; omega) hL' (by omega) (by rw [bP (by omega)]; omega) (by omega) (by omega) ?_).d3.swap
          rw [show ((i + l.length : Nat) : Int) = (i : Int) + l.length from by omega, show ((i + l.length + 16 + (j - i) : Nat) : Int) = ((i + l.length + 16 : Nat) : Int) + ((j : Int) - i) from by omega]
          exact H5.right.right
      · (try simp only [aG] at h2)
        try (exfalso; first | contradiction | omega)
        all_goals
          refine bn (aP rfl (bn (aP rfl (bn (aU (gU rfl rfl) (jd rfl rfl (jL rfl (fun h3 => ?_) (fun h3 => ?_))))))))
          · (try simp only [aG] at h3)
            try (exfalso; first | contradiction | omega)
            all_goals
              refine bK (bK (bK (jP rfl rfl (aP rfl (bK (bK (bK (jP rfl rfl (aW rfl (aB (aj (Dj (ay (ah (aU (fJ (pl := #[(0, 1), (1, 1), (2, 1)]) (_) underlying202 zeroValue202 (fun w => by kernel_rfl) rfl (rfl)) (aI (fH HL sizeOf202 rfl rfl rfl (by decide)) ?_))))))))))))))))
              rintro _ w6 H6
              refine aW rfl (aB (aj (aN (aX (aK ?_)))))
              refine fM (.inl rfl) results136 rfl rfl underlying202 rfl (by rw [show (prog.info? 202).map (·.size) = some 3 from by kernel_rfl]; rfl) H6.get.2 ?_
              refine ⟨_, _, rfl, ?_⟩
              first
                | rw [show bI pt i j l.length = pt + ((l.length : Int) - ((j : Int) - i)) from by unfold bI; rw [if_pos (by omega)]]
                | rw [show bI pt i j l.length = (i : Int) + l.length from by unfold bI; rw [if_neg (by omega), if_pos (by omega)]]
                | rw [show bI pt i j l.length = pt from by unfold bI; rw [if_neg (by omega), if_neg (by omega)]]
              first
                | rw [show bJ mk i j l.length = mk + ((l.length : Int) - ((j : Int) - i)) from by unfold bJ; rw [if_pos (by omega)]]
                | rw [show bJ mk i j l.length = (i : Int) from by unfold bJ; rw [if_neg (by omega), if_pos (by omega)]]
                | rw [show bJ mk i j l.length = mk from by unfold bJ; rw [if_neg (by omega), if_neg (by omega)]]
              refine (aA.kP (f := i + l.length) (t := i + l.length + 16 + (j - i)) (v := .slice ax (fF L i l.length).length cx) (xs := dP (fF L i l.length) i l) (by omega) (by rw [bP (by omega)]; omega) hL' (by omega) (by rw [bP (by omega)]; omega) (by omega) (by omega) ?_).d3.swap
              rw [show ((i + l.length : Nat) : Int) = (i : Int) + l.length from by omega, show ((i + l.length + 16 + (j - i) : Nat) : Int) = ((i + l.length + 16 : Nat) : Int) + ((j : Int) - i) from by omega]
              exact H6.right.right
          · (try simp only [aG] at h3)
            try (exfalso; first | contradiction | omega)
            all_goals
              refine bn (aP rfl (bn (aP rfl (bn (aU (dV rfl rfl) (jd rfl rfl (jL rfl (fun h4 => ?_) (fun h4 => ?_))))))))
              · (try simp only [aG] at h4)
                try (exfalso; first | contradiction | omega)
                all_goals
                  refine bK (bK (bK (jP rfl rfl (aW rfl (aB (aj (Dj (ay (ah (aU (fJ (pl := #[(0, 1), (1, 1), (2, 1)]) (_) underlying202 zeroValue202 (fun w => by kernel_rfl) rfl (rfl)) (aI (fH HL sizeOf202 rfl rfl rfl (by decide)) ?_)))))))))))
                  rintro _ w7 H7
                  refine aW rfl (aB (aj (aN (aX (aK ?_)))))
                  refine fM (.inl rfl) results136 rfl rfl underlying202 rfl (by rw [show (prog.info? 202).map (·.size) = some 3 from by kernel_rfl]; rfl) H7.get.2 ?_
                  refine ⟨_, _, rfl, ?_⟩
                  first
                    | rw [show bI pt i j l.length = pt + ((l.length : Int) - ((j : Int) - i)) from by unfold bI; rw [if_pos (by omega)]]
                    | rw [show bI pt i j l.length = (i : Int) + l.length from by unfold bI; rw [if_neg (by omega), if_pos (by omega)]]
                    | rw [show bI pt i j l.length = pt from by unfold bI; rw [if_neg (by omega), if_neg (by omega)]]
                  first
                    | rw [show bJ mk i j l.length = mk + ((l.length : Int) - ((j : Int) - i)) from by unfold bJ; rw [if_pos (by omega)]]
                    | rw [show bJ mk i j l.length = (i : Int) from by unfold bJ; rw [if_neg (by omega), if_pos (by omega)]]
                    | rw [show bJ mk i j l.length = mk from by unfold bJ; rw [if_neg (by omega), if_neg (by omega)]]
                  refine (aA.kP (f := i + l.length) (t := i + l.length + 16 + (j - i)) (v := .slice ax (fF L i l.length).length cx) (xs := dP (fF L i l.length) i l) (by omega) (by rw [bP (by omega)]; omega) hL' (by omega) (by rw [bP (by omega)]; omega) (by omega) (by omega) ?_).d3.swap
                  rw [show ((i + l.length : Nat) : Int) = (i : Int) + l.length from by omega, show ((i + l.length + 16 + (j - i) : Nat) : Int) = ((i + l.length + 16 : Nat) : Int) + ((j : Int) - i) from by omega]
                  exact H7.right.right
              · (try simp only [aG] at h4)
                try (exfalso; first | contradiction | omega)
                all_goals
                  refine bn (aP rfl (bn (aP rfl (bn (aU (gU rfl rfl) (jd rfl rfl (aW rfl (aB (aj (aO rfl (fun h => by exfalso; (try simp only [aG] at h); first | contradiction | omega | (simp at h <;> omega)) (fun h5 => ?_)))))))))))
                  (try simp only [aG] at h5)
                  refine ay (ah (aP rfl (aU (iU underlying23 rfl) (aP rfl (aP rfl (aP rfl (aU (je rfl rfl (by omega)) (aU (je rfl rfl (by omega)) (aU (je rfl rfl (by omega)) (aU (gU rfl rfl) (aW rfl (aB (aj (aO rfl (fun h => by exfalso; (try simp only [aG] at h); first | contradiction | omega | (simp at h <;> omega)) (fun h6 => ?_)))))))))))))))
                  (try simp only [aG] at h6)
                  refine aQ (aH (aj (ay (ah (aP rfl (aP rfl (dD rfl func121 (oq HL.swap) ?_)))))))
                  rintro u w8 H8
                  obtain ⟨au, cu, hu, _⟩ := (H8.aJ).form
                  subst hu
                  refine aP rfl (aP rfl (aU (pG underlying23 sizeOf21 rfl rfl rfl (by omega)) (dD rfl func59 (kH H8 (fun W HW => iI.cut HW.aJ (i := i) (j := j) (by omega) (by omega)) (by simp; omega)) ?_)))
                  rintro d w9 H9
                  have HC := H9.swap.right
                  obtain ⟨ad, cd, hd, _⟩ := (HC.aJ).form
                  subst hd
                  refine aP rfl (dD rfl func59 (kH HC hr.under.under.under (by omega)) ?_)
                  rintro s w10 qK
                  obtain ⟨ai, ci, hs, _⟩ := (qK.aJ).form
                  subst hs
                  refine aU (fJ (pl := #[(0, 1), (1, 1), (2, 1)]) (fP i (.slice ad ((L.drop i).take (j - i)).length cd) (.slice ai l.length ci)) underlying202 zeroValue202 (fun w => by kernel_rfl) rfl (by kernel_rfl)) (gB (vS qK zeroValue202) ?_)
                  rintro _ IV ⟨b11, rfl, vK⟩
                  refine aI (dI (cs := fP i (.slice ad ((L.drop i).take (j - i)).length cd) (.slice ai l.length ci)) vK sizeOf202 rfl rfl rfl rfl (jV rfl rfl)) ?_
                  rintro _ w12 vM
                  refine aB (aj (ay (ah (aP rfl (aP rfl (aP rfl (aU (iU underlying23 rfl) (dD rfl func171 (He vM.r4 (by omega) (by omega)) ?_))))))))
                  rintro _ OY ⟨x, xq⟩
                  obtain ⟨ax, cx, hx, _⟩ := (xq.swap.aJ).form
                  subst hx
                  refine aB (aj (ay (ah (aP rfl (bT rfl (bf 3 underlying208 rfl sizeOf3 rfl (dA underlying3 rfl xq.get.2 rfl (aP rfl (aP rfl (aU (je rfl rfl (by omega)) (aU (dR rfl rfl (by omega)) (bT rfl (bf 3 underlying208 rfl sizeOf3 rfl (aI (fH xq sizeOf3 rfl rfl rfl (by rw [jc]; decide)) ?_))))))))))))))
                  rintro _ OZ yR
                  rw [yQ] at yR
                  have aai := yR.get.2
                  refine aB (aj (ay ?_))
                  refine kX (n := 11) [0, 1, 2, 3, 4, 5, 6, 7, 8, 9, 10] (fun W => W.heap[p]? = some (.cells (dX (.slice ax (fF L i l.length).length cx) i ((i + l.length + 16 : Nat) + ((j : Int) - i)) pt mk) 208 (0, 0))) (by kernel_rfl) (by kernel_rfl) rfl ?_
                  have hS0 : (fun W => W.heap[p]? = some (.cells (dX (.slice ax (fF L i l.length).length cx) i ((i + l.length + 16 : Nat) + ((j : Int) - i)) pt mk) 208 (0, 0))) (OZ.drew) := aai
                  have QU := yR.drew
                  refine fU 0 rfl hS0 rfl (iZ 1 rfl hS0 rfl (dU 2 rfl hS0 1 underlying208 rfl sizeOf23 rfl (gG 3 rfl hS0 (fun W hW => iF underlying23 rfl hW rfl) (fU 4 rfl hS0 rfl (iZ 5 rfl hS0 rfl (dU 6 rfl hS0 2 underlying208 rfl sizeOf3 rfl (gG 7 rfl hS0 (fun W hW => iF underlying3 rfl hW rfl) (gZ 8 rfl hS0 (fun _ => pG underlying23 sizeOf21 rfl rfl rfl (by omega)) (fU 9 rfl hS0 rfl (jm 10 rfl (xg (i := i) (m := l) QU.swap (hr _ QU.right.right.right.right.right.right) underlying23 (by kernel_rfl) rfl rfl (by omega)) ?_))))))))))
                  rintro _ QV ⟨rfl, xu⟩
                  have HS := xu.swap
                  refine Nr (by kernel_rfl) ?_
                  refine mD (aj (ay (ah (aP rfl (bT rfl (bf 2 underlying208 rfl sizeOf3 rfl (dA underlying3 rfl HS.get.2 rfl (aP rfl (aU (iU underlying23 rfl) (aU (dR rfl rfl (by omega)) (bT rfl (bf 2 underlying208 rfl sizeOf3 rfl (aI (fH HS sizeOf3 rfl rfl rfl (by rw [jc]; decide)) ?_)))))))))))))
                  rintro _ w16 sW
                  rw [wu] at sW
                  refine aB (aj (ay (aY (ay (ah (aP rfl (bT rfl (bf 4 underlying208 rfl sizeOf3 rfl (dA underlying3 rfl sW.get.2 rfl (aP rfl (aU (gU rfl rfl) (aW rfl (aB (aj (aO rfl (fun h7 => ?_) (fun h7 => ?_))))))))))))))))
                  · (try simp only [aG] at h7)
                    try (exfalso; first | contradiction | omega)
                    all_goals
                      refine ah (aP rfl (bT rfl (bf 4 underlying208 rfl sizeOf3 rfl (dA underlying3 rfl sW.get.2 rfl (aP rfl (aU (iU underlying23 rfl) (aP rfl (aP rfl (aU (je rfl rfl (by omega)) (aU (je rfl rfl (by omega)) (aU (dR rfl rfl (by omega)) (bT rfl (bf 4 underlying208 rfl sizeOf3 rfl (aI (fH sW sizeOf3 rfl rfl rfl (by rw [jc]; decide)) ?_))))))))))))))
                      rintro _ UA zf
                      rw [ug] at zf
                      refine aB (aH (aj (ay (aY (ay (ah (aP rfl (bT rfl (bf 5 underlying208 rfl sizeOf3 rfl (dA underlying3 rfl zf.get.2 rfl (aP rfl (aU (gU rfl rfl) (aW rfl (aB (aj (aO rfl (fun h8 => ?_) (fun h8 => ?_)))))))))))))))))
                      · (try simp only [aG] at h8)
                        try (exfalso; first | contradiction | omega)
                        all_goals
                          refine ah (aP rfl (bT rfl (bf 5 underlying208 rfl sizeOf3 rfl (dA underlying3 rfl zf.get.2 rfl (aP rfl (aU (iU underlying23 rfl) (aP rfl (aP rfl (aU (je rfl rfl (by omega)) (aU (je rfl rfl (by omega)) (aU (dR rfl rfl (by omega)) (bT rfl (bf 5 underlying208 rfl sizeOf3 rfl (aI (fH zf sizeOf3 rfl rfl rfl (by rw [jc]; decide)) ?_))))))))))))))
                          rintro _ TR Au
                          rw [lF] at Au
                          refine aB (aH (aj (ay ?_)))
                          have oW := Au.IY
                          refine ah (aU (bQ underlying202 rfl sizeOf202 rfl rfl oW.get.2) (aI (dI (cs := fP i (.slice ad ((L.drop i).take (j - i)).length cd) (.slice ai l.length ci)) oW.r6 sizeOf202 rfl rfl rfl rfl (jV rfl rfl)) ?_))
                          rintro _ TS xX
                          refine aW rfl (aB (aj (aN ?_)))
                          refine fM (.inl rfl) results136 rfl rfl underlying202 rfl (by rw [show (prog.info? 202).map (·.size) = some 3 from by kernel_rfl]; rfl) xX.get.2 ?_
                          refine ⟨_, _, rfl, ?_⟩
                          first
                            | rw [show bI pt i j l.length = pt + ((l.length : Int) - ((j : Int) - i)) from by unfold bI; rw [if_pos (by omega)]]
                            | rw [show bI pt i j l.length = (i : Int) + l.length from by unfold bI; rw [if_neg (by omega), if_pos (by omega)]]
                            | rw [show bI pt i j l.length = pt from by unfold bI; rw [if_neg (by omega), if_neg (by omega)]]
                          first
                            | rw [show bJ mk i j l.length = mk + ((l.length : Int) - ((j : Int) - i)) from by unfold bJ; rw [if_pos (by omega)]]
                            | rw [show bJ mk i j l.length = (i : Int) from by unfold bJ; rw [if_neg (by omega), if_pos (by omega)]]
                            | rw [show bJ mk i j l.length = mk from by unfold bJ; rw [if_neg (by omega), if_neg (by omega)]]
                          refine (aA.kP (f := i + l.length) (t := i + l.length + 16 + (j - i)) (v := .slice ax (fF L i l.length).length cx) (xs := dP (fF L i l.length) i l) (by omega) (by rw [bP (by omega)]; omega) hL' (by omega) (by rw [bP (by omega)]; omega) (by omega) (by omega) ?_).d3.swap
                          rw [show ((i + l.length : Nat) : Int) = (i : Int) + l.length from by omega, show ((i + l.length + 16 + (j - i) : Nat) : Int) = ((i + l.length + 16 : Nat) : Int) + ((j : Int) - i) from by omega]
                          exact xX.right.right
                      · (try simp only [aG] at h8)
                        try (exfalso; first | contradiction | omega)
                        all_goals
                          refine ay (ah (aP rfl (bT rfl (bf 5 underlying208 rfl sizeOf3 rfl (dA underlying3 rfl zf.get.2 rfl (aP rfl (aU (gU rfl rfl) (aW rfl (aB (aj (aO rfl (fun h9 => ?_) (fun h9 => ?_))))))))))))
                          · (try simp only [aG] at h9)
                            try (exfalso; first | contradiction | omega)
                            all_goals
                              refine ah (aP rfl (aP rfl (bT rfl (bf 5 underlying208 rfl sizeOf3 rfl (aI (fH zf sizeOf3 rfl rfl rfl (by rw [jc]; decide)) ?_)))))
                              rintro _ QW zh
                              rw [lF] at zh
                              refine aB (aH (aj (ay ?_)))
                              have oW := zh.IY
                              refine ah (aU (bQ underlying202 rfl sizeOf202 rfl rfl oW.get.2) (aI (dI (cs := fP i (.slice ad ((L.drop i).take (j - i)).length cd) (.slice ai l.length ci)) oW.r6 sizeOf202 rfl rfl rfl rfl (jV rfl rfl)) ?_))
                              rintro _ TT oW
                              refine aW rfl (aB (aj (aN ?_)))
                              refine fM (.inl rfl) results136 rfl rfl underlying202 rfl (by rw [show (prog.info? 202).map (·.size) = some 3 from by kernel_rfl]; rfl) oW.get.2 ?_
                              refine ⟨_, _, rfl, ?_⟩
                              first
                                | rw [show bI pt i j l.length = pt + ((l.length : Int) - ((j : Int) - i)) from by unfold bI; rw [if_pos (by omega)]]
                                | rw [show bI pt i j l.length = (i : Int) + l.length from by unfold bI; rw [if_neg (by omega), if_pos (by omega)]]
                                | rw [show bI pt i j l.length = pt from by unfold bI; rw [if_neg (by omega), if_neg (by omega)]]
                              first
                                | rw [show bJ mk i j l.length = mk + ((l.length : Int) - ((j : Int) - i)) from by unfold bJ; rw [if_pos (by omega)]]
                                | rw [show bJ mk i j l.length = (i : Int) from by unfold bJ; rw [if_neg (by omega), if_pos (by omega)]]
                                | rw [show bJ mk i j l.length = mk from by unfold bJ; rw [if_neg (by omega), if_neg (by omega)]]
                              refine (aA.kP (f := i + l.length) (t := i + l.length + 16 + (j - i)) (v := .slice ax (fF L i l.length).length cx) (xs := dP (fF L i l.length) i l) (by omega) (by rw [bP (by omega)]; omega) hL' (by omega) (by rw [bP (by omega)]; omega) (by omega) (by omega) ?_).d3.swap
                              rw [show ((i + l.length : Nat) : Int) = (i : Int) + l.length from by omega, show ((i + l.length + 16 + (j - i) : Nat) : Int) = ((i + l.length + 16 : Nat) : Int) + ((j : Int) - i) from by omega]
                              exact oW.right.right
                          · (try simp only [aG] at h9)
                            try (exfalso; first | contradiction | omega)
                            all_goals
                              refine aQ (aH (aj (ay ?_)))
                              have oW := zf.IY
                              refine ah (aU (bQ underlying202 rfl sizeOf202 rfl rfl oW.get.2) (aI (dI (cs := fP i (.slice ad ((L.drop i).take (j - i)).length cd) (.slice ai l.length ci)) oW.r6 sizeOf202 rfl rfl rfl rfl (jV rfl rfl)) ?_))
                              rintro _ XC IW
                              refine aW rfl (aB (aj (aN ?_)))
                              refine fM (.inl rfl) results136 rfl rfl underlying202 rfl (by rw [show (prog.info? 202).map (·.size) = some 3 from by kernel_rfl]; rfl) IW.get.2 ?_
                              refine ⟨_, _, rfl, ?_⟩
                              first
                                | rw [show bI pt i j l.length = pt + ((l.length : Int) - ((j : Int) - i)) from by unfold bI; rw [if_pos (by omega)]]
                                | rw [show bI pt i j l.length = (i : Int) + l.length from by unfold bI; rw [if_neg (by omega), if_pos (by omega)]]
                                | rw [show bI pt i j l.length = pt from by unfold bI; rw [if_neg (by omega), if_neg (by omega)]]
                              first
                                | rw [show bJ mk i j l.length = mk + ((l.length : Int) - ((j : Int) - i)) from by unfold bJ; rw [if_pos (by omega)]]
                                | rw [show bJ mk i j l.length = (i : Int) from by unfold bJ; rw [if_neg (by omega), if_pos (by omega)]]
                                | rw [show bJ mk i j l.length = mk from by unfold bJ; rw [if_neg (by omega), if_neg (by omega)]]
                              refine (aA.kP (f := i + l.length) (t := i + l.length + 16 + (j - i)) (v := .slice ax (fF L i l.length).length cx) (xs := dP (fF L i l.length) i l) (by omega) (by rw [bP (by omega)]; omega) hL' (by omega) (by rw [bP (by omega)]; omega) (by omega) (by omega) ?_).d3.swap
                              rw [show ((i + l.length : Nat) : Int) = (i : Int) + l.length from by omega, show ((i + l.length + 16 + (j - i) : Nat) : Int) = ((i + l.length + 16 : Nat) : Int) + ((j : Int) - i) from by omega]
                              exact IW.right.right
                  · (try simp only [aG] at h7)
                    try (exfalso; first | contradiction | omega)
                    all_goals
                      refine ay (ah (aP rfl (bT rfl (bf 4 underlying208 rfl sizeOf3 rfl (dA underlying3 rfl sW.get.2 rfl (aP rfl (aU (wW rfl rfl) (aW rfl (aB (aj (aO rfl (fun h10 => ?_) (fun h10 => ?_))))))))))))
                      · (try simp only [aG] at h10)
                        try (exfalso; first | contradiction | omega)
                        all_goals
                          refine ah (aP rfl (aP rfl (aP rfl (aU (iU underlying23 rfl) (aU (dR rfl rfl (by omega)) (bT rfl (bf 4 underlying208 rfl sizeOf3 rfl (aI (fH sW sizeOf3 rfl rfl rfl (by rw [jc]; decide)) ?_))))))))
                          rintro _ Qh vN
                          rw [ug] at vN
                          refine aB (aH (aj (ay (aY (ay (ah (aP rfl (bT rfl (bf 5 underlying208 rfl sizeOf3 rfl (dA underlying3 rfl vN.get.2 rfl (aP rfl (aU (gU rfl rfl) (aW rfl (aB (aj (aO rfl (fun h11 => ?_) (fun h11 => ?_)))))))))))))))))
                          · (try simp only [aG] at h11)
                            try (exfalso; first | contradiction | omega)
                            all_goals
                              refine ah (aP rfl (bT rfl (bf 5 underlying208 rfl sizeOf3 rfl (dA underlying3 rfl vN.get.2 rfl (aP rfl (aU (iU underlying23 rfl) (aP rfl (aP rfl (aU (je rfl rfl (by omega)) (aU (je rfl rfl (by omega)) (aU (dR rfl rfl (by omega)) (bT rfl (bf 5 underlying208 rfl sizeOf3 rfl (aI (fH vN sizeOf3 rfl rfl rfl (by rw [jc]; decide)) ?_))))))))))))))
                              rintro _ Yb Qi
                              rw [lF] at Qi
                              refine aB (aH (aj (ay ?_)))
                              have oW := Qi.IY
                              refine ah (aU (bQ underlying202 rfl sizeOf202 rfl rfl oW.get.2) (aI (dI (cs := fP i (.slice ad ((L.drop i).take (j - i)).length cd) (.slice ai l.length ci)) oW.r6 sizeOf202 rfl rfl rfl rfl (jV rfl rfl)) ?_))
                              rintro _ Yc Jz
                              refine aW rfl (aB (aj (aN ?_)))
                              refine fM (.inl rfl) results136 rfl rfl underlying202 rfl (by rw [show (prog.info? 202).map (·.size) = some 3 from by kernel_rfl]; rfl) Jz.get.2 ?_
                              refine ⟨_, _, rfl, ?_⟩
                              first
                                | rw [show bI pt i j l.length = pt + ((l.length : Int) - ((j : Int) - i)) from by unfold bI; rw [if_pos (by omega)]]
                                | rw [show bI pt i j l.length = (i : Int) + l.length from by unfold bI; rw [if_neg (by omega), if_pos (by omega)]]
                                | rw [show bI pt i j l.length = pt from by unfold bI; rw [if_neg (by omega), if_neg (by omega)]]
                              first
                                | rw [show bJ mk i j l.length = mk + ((l.length : Int) - ((j : Int) - i)) from by unfold bJ; rw [if_pos (by omega)]]
                                | rw [show bJ mk i j l.length = (i : Int) from by unfold bJ; rw [if_neg (by omega), if_pos (by omega)]]
                                | rw [show bJ mk i j l.length = mk from by unfold bJ; rw [if_neg (by omega), if_neg (by omega)]]
                              refine (aA.kP (f := i + l.length) (t := i + l.length + 16 + (j - i)) (v := .slice ax (fF L i l.length).length cx) (xs := dP (fF L i l.length) i l) (by omega) (by rw [bP (by omega)]; omega) hL' (by omega) (by rw [bP (by omega)]; omega) (by omega) (by omega) ?_).d3.swap
                              rw [show ((i + l.length : Nat) : Int) = (i : Int) + l.length from by omega, show ((i + l.length + 16 + (j - i) : Nat) : Int) = ((i + l.length + 16 : Nat) : Int) + ((j : Int) - i) from by omega]
                              exact Jz.right.right
                          · (try simp only [aG] at h11)
                            try (exfalso; first | contradiction | omega)
                            all_goals
                              refine ay (ah (aP rfl (bT rfl (bf 5 underlying208 rfl sizeOf3 rfl (dA underlying3 rfl vN.get.2 rfl (aP rfl (aU (gU rfl rfl) (aW rfl (aB (aj (aO rfl (fun h12 => ?_) (fun h12 => ?_))))))))))))
                              · (try simp only [aG] at h12)
                                try (exfalso; first | contradiction | omega)
                                all_goals
                                  refine ah (aP rfl (aP rfl (bT rfl (bf 5 underlying208 rfl sizeOf3 rfl (aI (fH vN sizeOf3 rfl rfl rfl (by rw [jc]; decide)) ?_)))))
                                  rintro _ ZH ND
                                  rw [lF] at ND
                                  refine aB (aH (aj (ay ?_)))
                                  have oW := ND.IY
                                  refine ah (aU (bQ underlying202 rfl sizeOf202 rfl rfl oW.get.2) (aI (dI (cs := fP i (.slice ad ((L.drop i).take (j - i)).length cd) (.slice ai l.length ci)) oW.r6 sizeOf202 rfl rfl rfl rfl (jV rfl rfl)) ?_))
                                  rintro _ Yd IX
                                  refine aW rfl (aB (aj (aN ?_)))
                                  refine fM (.inl rfl) results136 rfl rfl underlying202 rfl (by rw [show (prog.info? 202).map (·.size) = some 3 from by kernel_rfl]; rfl) IX.get.2 ?_
                                  refine ⟨_, _, rfl, ?_⟩
                                  first
                                    | rw [show bI pt i j l.length = pt + ((l.length : Int) - ((j : Int) - i)) from by unfold bI; rw [if_pos (by omega)]]
                                    | rw [show bI pt i j l.length = (i : Int) + l.length from by unfold bI; rw [if_neg (by omega), if_pos (by omega)]]
                                    | rw [show bI pt i j l.length = pt from by unfold bI; rw [if_neg (by omega), if_neg (by omega)]]
                                  first
                                    | rw [show bJ mk i j l.length = mk + ((l.length : Int) - ((j : Int) - i)) from by unfold bJ; rw [if_pos (by omega)]]
                                    | rw [show bJ mk i j l.length = (i : Int) from by unfold bJ; rw [if_neg (by omega), if_pos (by omega)]]
                                    | rw [show bJ mk i j l.length = mk from by unfold bJ; rw [if_neg (by omega), if_neg (by omega)]]
                                  refine (aA.kP (f := i + l.length) (t := i + l.length + 16 + (j - i)) (v := .slice ax (fF L i l.length).length cx) (xs := dP (fF L i l.length) i l) (by omega) (by rw [bP (by omega)]; omega) hL' (by omega) (by rw [bP (by omega)]; omega) (by omega) (by omega) ?_).d3.swap
                                  rw [show ((i + l.length : Nat) : Int) = (i : Int) + l.length from by omega, show ((i + l.length + 16 + (j - i) : Nat) : Int) = ((i + l.length + 16 : Nat) : Int) + ((j : Int) - i) from by omega]
                                  exact IX.right.right
                              · (try simp only [aG] at h12)
                                try (exfalso; first | contradiction | omega)
                                all_goals
                                  refine aQ (aH (aj (ay ?_)))
                                  have oW := vN.IY
                                  refine ah (aU (bQ underlying202 rfl sizeOf202 rfl rfl oW.get.2) (aI (dI (cs := fP i (.slice ad ((L.drop i).take (j - i)).length cd) (.slice ai l.length ci)) oW.r6 sizeOf202 rfl rfl rfl rfl (jV rfl rfl)) ?_))
                                  rintro _ Ye LU
                                  refine aW rfl (aB (aj (aN ?_)))
                                  refine fM (.inl rfl) results136 rfl rfl underlying202 rfl (by rw [show (prog.info? 202).map (·.size) = some 3 from by kernel_rfl]; rfl) LU.get.2 ?_
                                  refine ⟨_, _, rfl, ?_⟩
                                  first
                                    | rw [show bI pt i j l.length = pt + ((l.length : Int) - ((j : Int) - i)) from by unfold bI; rw [if_pos (by omega)]]
                                    | rw [show bI pt i j l.length = (i : Int) + l.length from by unfold bI; rw [if_neg (by omega), if_pos (by omega)]]
                                    | rw [show bI pt i j l.length = pt from by unfold bI; rw [if_neg (by omega), if_neg (by omega)]]
                                  first
                                    | rw [show bJ mk i j l.length = mk + ((l.length : Int) - ((j : Int) - i)) from by unfold bJ; rw [if_pos (by omega)]]
                                    | rw [show bJ mk i j l.length = (i : Int) from by unfold bJ; rw [if_neg (by omega), if_pos (by omega)]]
                                    | rw [show bJ mk i j l.length = mk from by unfold bJ; rw [if_neg (by omega), if_neg (by omega)]]
                                  refine (aA.kP (f := i + l.length) (t := i + l.length + 16 + (j - i)) (v := .slice ax (fF L i l.length).length cx) (xs := dP (fF L i l.length) i l) (by omega) (by rw [bP (by omega)]; omega) hL' (by omega) (by rw [bP (by omega)]; omega) (by omega) (by omega) ?_).d3.swap
                                  rw [show ((i + l.length : Nat) : Int) = (i : Int) + l.length from by omega, show ((i + l.length + 16 + (j - i) : Nat) : Int) = ((i + l.length + 16 : Nat) : Int) + ((j : Int) - i) from by omega]
                                  exact LU.right.right
                      · (try simp only [aG] at h10)
                        try (exfalso; first | contradiction | omega)
                        all_goals
                          refine aQ (aH (aj (ay (aY (ay (ah (aP rfl (bT rfl (bf 5 underlying208 rfl sizeOf3 rfl (dA underlying3 rfl sW.get.2 rfl (aP rfl (aU (gU rfl rfl) (aW rfl (aB (aj (aO rfl (fun h13 => ?_) (fun h13 => ?_)))))))))))))))))
                          · (try simp only [aG] at h13)
                            try (exfalso; first | contradiction | omega)
                            all_goals
                              refine ah (aP rfl (bT rfl (bf 5 underlying208 rfl sizeOf3 rfl (dA underlying3 rfl sW.get.2 rfl (aP rfl (aU (iU underlying23 rfl) (aP rfl (aP rfl (aU (je rfl rfl (by omega)) (aU (je rfl rfl (by omega)) (aU (dR rfl rfl (by omega)) (bT rfl (bf 5 underlying208 rfl sizeOf3 rfl (aI (fH sW sizeOf3 rfl rfl rfl (by rw [jc]; decide)) ?_))))))))))))))
                              rintro _ ZI O4
                              rw [lF] at O4
                              refine aB (aH (aj (ay ?_)))
                              have oW := O4.IY
                              refine ah (aU (bQ underlying202 rfl sizeOf202 rfl rfl oW.get.2) (aI (dI (cs := fP i (.slice ad ((L.drop i).take (j - i)).length cd) (.slice ai l.length ci)) oW.r6 sizeOf202 rfl rfl rfl rfl (jV rfl rfl)) ?_))
                              rintro _ Yf Hf
                              refine aW rfl (aB (aj (aN ?_)))
                              refine fM (.inl rfl) results136 rfl rfl underlying202 rfl (by rw [show (prog.info? 202).map (·.size) = some 3 from by kernel_rfl]; rfl) Hf.get.2 ?_
                              refine ⟨_, _, rfl, ?_⟩
                              first
                                | rw [show bI pt i j l.length = pt + ((l.length : Int) - ((j : Int) - i)) from by unfold bI; rw [if_pos (by omega)]]
                                | rw [show bI pt i j l.length = (i : Int) + l.length from by unfold bI; rw [if_neg (by omega), if_pos (by omega)]]
                                | rw [show bI pt i j l.length = pt from by unfold bI; rw [if_neg (by omega), if_neg (by omega)]]
                              first
                                | rw [show bJ mk i j l.length = mk + ((l.length : Int) - ((j : Int) - i)) from by unfold bJ; rw [if_pos (by omega)]]
                                | rw [show bJ mk i j l.length = (i : Int) from by unfold bJ; rw [if_neg (by omega), if_pos (by omega)]]
                                | rw [show bJ mk i j l.length = mk from by unfold bJ; rw [if_neg (by omega), if_neg (by omega)]]
                              refine (aA.kP (f := i + l.length) (t := i + l.length + 16 + (j - i)) (v := .slice ax (fF L i l.length).length cx) (xs := dP (fF L i l.length) i l) (by omega) (by rw [bP (by omega)]; omega) hL' (by omega) (by rw [bP (by omega)]; omega) (by omega) (by omega) ?_).d3.swap
                              rw [show ((i + l.length : Nat) : Int) = (i : Int) + l.length from by omega, show ((i + l.length + 16 + (j - i) : Nat) : Int) = ((i + l.length + 16 : Nat) : Int) + ((j : Int) - i) from by omega]
                              exact Hf.right.right
                          · (try simp only [aG] at h13)
                            try (exfalso; first | contradiction | omega)
                            all_goals
                              refine ay (ah (aP rfl (bT rfl (bf 5 underlying208 rfl sizeOf3 rfl (dA underlying3 rfl sW.get.2 rfl (aP rfl (aU (gU rfl rfl) (aW rfl (aB (aj (aO rfl (fun h14 => ?_) (fun h14 => ?_))))))))))))
                              · (try simp only [aG] at h14)
                                try (exfalso; first | contradiction | omega)
                                all_goals
                                  refine ah (aP rfl (aP rfl (bT rfl (bf 5 underlying208 rfl sizeOf3 rfl (aI (fH sW sizeOf3 rfl rfl rfl (by rw [jc]; decide)) ?_)))))
                                  rintro _ XD Lc
                                  rw [lF] at Lc
                                  refine aB (aH (aj (ay ?_)))
                                  have oW := Lc.IY
                                  refine ah (aU (bQ underlying202 rfl sizeOf202 rfl rfl oW.get.2) (aI (dI (cs := fP i (.slice ad ((L.drop i).take (j - i)).length cd) (.slice ai l.length ci)) oW.r6 sizeOf202 rfl rfl rfl rfl (jV rfl rfl)) ?_))
                                  rintro _ w32 CW
                                  refine aW rfl (aB (aj (aN ?_)))
                                  refine fM (.inl rfl) results136 rfl rfl underlying202 rfl (by rw [show (prog.info? 202).map (·.size) = some 3 from by kernel_rfl]; rfl) CW.get.2 ?_
                                  refine ⟨_, _, rfl, ?_⟩
                                  first
                                    | rw [show bI pt i j l.length = pt + ((l.length : Int) - ((j : Int) - i)) from by unfold bI; rw [if_pos (by omega)]]
                                    | rw [show bI pt i j l.length = (i : Int) + l.length from by unfold bI; rw [if_neg (by omega), if_pos (by omega)]]
                                    | rw [show bI pt i j l.length = pt from by unfold bI; rw [if_neg (by omega), if_neg (by omega)]]
                                  first
                                    | rw [show bJ mk i j l.length = mk + ((l.length : Int) - ((j : Int) - i)) from by unfold bJ; rw [if_pos (by omega)]]
                                    | rw [show bJ mk i j l.length = (i : Int) from by unfold bJ; rw [if_neg (by omega), if_pos (by omega)]]
                                    | rw [show bJ mk i j l.length = mk from by unfold bJ; rw [if_neg (by omega), if_neg (by omega)]]
                                  refine (aA.kP (f := i + l.length) (t := i + l.length + 16 + (j - i)) (v := .slice ax (fF L i l.length).length cx) (xs := dP (fF L i l.length) i l) (by omega) (by rw [bP (by omega)]; omega) hL' (by omega) (by rw [bP (by omega)]; omega) (by omega) (by omega) ?_).d3.swap
                                  rw [show ((i + l.length : Nat) : Int) = (i : Int) + l.length from by omega, show ((i + l.length + 16 + (j - i) : Nat) : Int) = ((i + l.length + 16 : Nat) : Int) + ((j : Int) - i) from by omega]
                                  exact CW.right.right
                              · (try simp only [aG] at h14)
                                try (exfalso; first | contradiction | omega)
                                all_goals
                                  refine aQ (aH (aj (ay ?_)))
                                  have oW := sW.IY
                                  refine ah (aU (bQ underlying202 rfl sizeOf202 rfl rfl oW.get.2) (aI (dI (cs := fP i (.slice ad ((L.drop i).take (j - i)).length cd) (.slice ai l.length ci)) oW.r6 sizeOf202 rfl rfl rfl rfl (jV rfl rfl)) ?_))
                                  rintro _ ZJ LV
                                  refine aW rfl (aB (aj (aN ?_)))
                                  refine fM (.inl rfl) results136 rfl rfl underlying202 rfl (by rw [show (prog.info? 202).map (·.size) = some 3 from by kernel_rfl]; rfl) LV.get.2 ?_
                                  refine ⟨_, _, rfl, ?_⟩
                                  first
                                    | rw [show bI pt i j l.length = pt + ((l.length : Int) - ((j : Int) - i)) from by unfold bI; rw [if_pos (by omega)]]
                                    | rw [show bI pt i j l.length = (i : Int) + l.length from by unfold bI; rw [if_neg (by omega), if_pos (by omega)]]
                                    | rw [show bI pt i j l.length = pt from by unfold bI; rw [if_neg (by omega), if_neg (by omega)]]
                                  first
                                    | rw [show bJ mk i j l.length = mk + ((l.length : Int) - ((j : Int) - i)) from by unfold bJ; rw [if_pos (by omega)]]
                                    | rw [show bJ mk i j l.length = (i : Int) from by unfold bJ; rw [if_neg (by omega), if_pos (by omega)]]
                                    | rw [show bJ mk i j l.length = mk from by unfold bJ; rw [if_neg (by omega), if_neg (by omega)]]
                                  refine (aA.kP (f := i + l.length) (t := i + l.length + 16 + (j - i)) (v := .slice ax (fF L i l.length).length cx) (xs := dP (fF L i l.length) i l) (by omega) (by rw [bP (by omega)]; omega) hL' (by omega) (by rw [bP (by omega)]; omega) (by omega) (by omega) ?_).d3.swap
                                  rw [show ((i + l.length : Nat) : Int) = (i : Int) + l.length from by omega, show ((i + l.length + 16 + (j - i) : Nat) : Int) = ((i + l.length + 16 : Nat) : Int) + ((j : Int) - i) from by omega]
                                  exact LV.right.right
end
end Go.Proofs.YtddekefihgejoaaGreatDoor
end
section
namespace Go.Proofs.YtddekefihgejoaaGreatDoor
open Go.RowKit
open _root_.Go.Proofs.Tryz
def Vt (n : Nat) (pt x : Int) : Int := if 0 ≤ x ∧ x ≤ n then x else pt
def Yg (n : Nat) (x : Int) : Int := if 0 ≤ x ∧ x ≤ n then 0 else 70
def jy (v : Value) (pt mk : Int) : Array Value := #[v, .int .i64 pt, .int .i64 mk]
theorem O5 {v : Value} {pt mk : Int} (h : v.oneCell' = true) : ∀ u ∈ (jy v pt mk).toList, u.oneCell' = true := by
  intro u hu
  simp [jy] at hu
  rcases hu with rfl | rfl | rfl
  · exact h
  · rfl
  · rfl
section
variable {w0 w : World} {F : HP} {p : Nat} {L : List Int} {pt mk x : Int} {v : Value} {l : List Int}
theorem Hg (H : aA w0 w (dQ p L pt mk • F)) : fQ prog 90 #[.pointer (some ⟨p, 0, none⟩), .int .i64 x] w fun v w' => v = .int .i64 (Yg L.length x) ∧ aA w0 w' (dQ p L (Vt L.length pt x) mk • F) := by
 refine iw func90 ntmps90 ?_
 dsimp only [aZ, Nat.reduceAdd]
 refine ay (ah (aW rfl (aB (aj (ay (aY (ay (ah (aP rfl (dD rfl func139 (ou H) ?_))))))))))
 rintro _ _ ⟨rfl, rfl⟩
 refine aW rfl (aB (aj (aO rfl (fun h1 => ?_) (fun h1 => ?_))))
 ·(try simp only [aG] at h1)
  exfalso; first | contradiction | omega
 ·(try simp only [aG] at h1)
  try (exfalso; first | contradiction | omega)
  all_goals
   refine ay (ah (aP rfl (aU (dV rfl rfl) (jL rfl (fun h2 => ?_) (fun h2 => ?_)))))
   ·(try simp only [aG] at h2)
    try (exfalso; first | contradiction | omega)
    all_goals
     refine bK (bK (bK (bK (jP rfl rfl (aW rfl (aB (aj (Dj (ay (ah (aW rfl (aB (aj (aN (aX (aK (aT (.inl rfl) results90 rfl ?_)))))))))))))))))
     exact ⟨by rw [Yg, if_neg (by omega)], by rw [Vt, if_neg (by omega)]; exact H⟩
   ·(try simp only [aG] at h2)
    try (exfalso; first | contradiction | omega)
    all_goals
     refine bn (aP rfl (bn (aP rfl (bn (dD rfl func140 (tH H) ?_)))))
     rintro _ w2 ⟨rfl, hD⟩
     have HL := H.wM hD
     refine bn (aU (gU rfl rfl) (jd rfl rfl (aW rfl (aB (aj (aO rfl (fun h3 => ?_) (fun h3 => ?_)))))))
     ·(try simp only [aG] at h3)
      try (exfalso; first | contradiction | omega)
      all_goals
       refine ay (ah (aW rfl (aB (aj (aN (aX (aK (aT (.inl rfl) results90 rfl ?_))))))))
       exact ⟨by rw [Yg, if_neg (by omega)], by rw [Vt, if_neg (by omega)]; exact HL⟩
     ·(try simp only [aG] at h3)
      try (exfalso; first | contradiction | omega)
      all_goals
       refine aQ (aH (aj (ay ?_)))
       obtain ⟨a, c, xs, f, t, h11, h12, h13, h14, h15, h16, h17, hc1, hc2, hl, HB⟩ := HL.buf
       refine ah (aP rfl (aP rfl (bT rfl (bf 4 underlying208 rfl sizeOf3 rfl (aI (fH HB sizeOf3 rfl rfl rfl (by rw [jc]; decide)) ?_)))))
       rintro _ w3 H3
       rw [ug] at H3
       refine aB (aj (ay (ah (aW rfl (aB (aj (aN (aT (.inl rfl) results90 rfl ?_))))))))
       exact ⟨by rw [Yg, if_pos (by omega)], by rw [Vt, if_pos (by omega)]; exact aA.kP h11 h12 h13 h14 h15 (by omega) h17 H3⟩
theorem zL (H : aA w0 w (dQ p L pt mk • F)) : fQ prog 74 #[.pointer (some ⟨p, 0, none⟩)] w fun v' w' => ∃ u, v' = .agg (jy u pt mk) ∧ aA w0 w' (gW 21 .i32 u L • dQ p L pt mk • F) := by
 refine iw func74 ntmps74 ?_
 dsimp only [aZ, Nat.reduceAdd]
 refine ay (ah (gB (vS H zeroValue41) ?_))
 rintro _ w1 ⟨b1, rfl, H1⟩
 refine aB (aj (ay (ah (aP rfl (dD rfl func121 (oq H1.swap) ?_)))))
 rintro u w2 H2
 obtain ⟨au, cu, hu, _⟩ := (H2.aJ).form
 subst hu
 refine aP rfl (dD rfl func89 (uh H2.swap) ?_)
 rintro _ _ ⟨rfl, rfl⟩
 refine aP rfl (dD rfl func122 (G9 H2.swap) ?_)
 rintro _ _ ⟨rfl, rfl⟩
 refine aU (fJ (pl := #[(0, 1), (1, 1), (2, 1)]) (jy (.slice au L.length cu) pt mk) underlying41 zeroValue41 (fun w => by kernel_rfl) rfl (by kernel_rfl)) (aI (dI (cs := jy (.slice au L.length cu) pt mk) H2.IY sizeOf41 rfl rfl rfl rfl (O5 rfl)) ?_)
 rintro _ w5 H5
 refine aB (aj (aN ?_))
 refine Ul (.inl rfl) results74 rfl underlying41 rfl (by rw [show (prog.info? 41).map (·.size) = some 3 from by kernel_rfl]; rfl) H5.get.2 ?_
 exact ⟨_, rfl, H5.right⟩
end
end Go.Proofs.YtddekefihgejoaaGreatDoor
end
section
namespace Go.Proofs.YtddekefihgejoaaGreatDoor
open Go.RowKit
def QX (g : Int → Bool) (l : List Int) (at_ : Nat) : Nat := at_ + ((l.drop at_).takeWhile g).length
def QY (g : Int → Bool) (l : List Int) (at_ : Nat) : Nat := at_ - ((l.take at_).reverse.takeWhile g).length
def zM (n : Nat) (x : Int) : Nat := (min (max x 0) n).toNat
section
variable {w0 w : World} {F G : HP} {v fv : Value} {l : List Int} {g : Int → Bool}
def Yh (l : List Int) (x : Int) : Nat := QX Dk l (QX (fun r => !Dk r) l (zM l.length x))
def Wp (l : List Int) (x : Int) : Nat := QY Dk l (QY (fun r => !Dk r) l (zM l.length x))
def NG (r : Int) : Bool := decide (Qs r ≠ 0) || Jf r
def abU (l : List Int) (x : Int) : Nat := if zM l.length x < l.length then QX (fun r => !NG r) l (zM l.length x + 1) else l.length
def abV (l : List Int) (x : Int) : Nat := QY (fun r => !NG r) l (zM l.length x) - 1
end
end Go.Proofs.YtddekefihgejoaaGreatDoor
end
section
namespace Go.Proofs.YtddekefihgejoaaGreatDoor
open Go.RowKit
section
variable {w0 w : World} {F : HP} {p : Nat} {L : List Int} {pt mk : Int} {v : Value} {l : List Int}
end
end Go.Proofs.YtddekefihgejoaaGreatDoor
end
section
namespace Go.Proofs.YtddekefihgejoaaGreatDoor
open Go.RowKit
open _root_.Go.Proofs.Tryz
theorem JA (w : World) (v1 v2 : Value) (l1 l2 : List Int) (h1 : iI w .i32 v1 l1) (h2 : iI w .i32 v2 l2) :
  fQ prog 65 #[v1, v2] w fun v w' => v = .bool (l1 == l2) ∧ lS w w' := by
 obtain ⟨a1, c1, rfl, hc1, hm1, hr1⟩ := h1.open
 obtain ⟨a2, c2, rfl, hc2, hm2, hr2⟩ := h2.open
 clear h1 h2
 refine iw func65 ntmps65 ?_
 dsimp only [aZ, Nat.reduceAdd]
 refine ay (ah (aW rfl (aB (aj (ay (ay (ah (aP rfl (aU (iU underlying23 rfl) (aP rfl (aU (iU underlying23 rfl) (aU (dG rfl rfl) (aB (aj (aO rfl (fun h1 => ?_) (fun h1 => ?_))))))))))))))))
 ·(try simp only [aG] at h1)
  try (exfalso; first | contradiction | omega)
  all_goals
   refine ay (ah (aW rfl (aB (aj (aN (aK (aT (.inl rfl) results65 rfl ?_)))))))
   exact ⟨by rw [show (l1 == l2) = false from beq_eq_false_iff_ne.2 (by rintro rfl; exact h1 rfl)], lS.refl _⟩
 ·(try simp only [aG] at h1)
  try (exfalso; first | contradiction | omega)
  all_goals
   refine aQ (aj (ay (ay (ah (aW rfl (aB (aj (aY ?_))))))))
   refine eP [(0, _), (1, _)] (fun (k : Nat) => [(5, .int .i64 (k : Int))]) (fun (k : Nat) W => k ≤ l1.length ∧ l1.length = l2.length ∧ l1.take k = l2.take k ∧ lS w W) (fun (k : Nat) => l1.length - k) (0) (Sub.cons rfl (Sub.cons rfl (Sub.nil _))) (Sub.cons rfl (Sub.nil _)) ⟨by omega, by omega, by simp, lS.refl _⟩ ?_
   rintro k w1 ⟨hk, hl, ht, hD⟩
   dsimp only [List.cons_append, List.nil_append]
   refine ay (ay (ah (aP rfl (aP rfl (aU (iU underlying23 rfl) (aU (dV rfl rfl) (aB (aj (aO rfl (fun h2 => ?_) (fun h2 => ?_))))))))))
   ·(try simp only [aG] at h2)
    try (exfalso; first | contradiction | omega)
    all_goals
     refine aQ (aj (ay (aY (ay ?_))))
     obtain ⟨b1, o1, rfl, hq1⟩ := hr1 (by omega)
     obtain ⟨b2, o2, rfl, hq2⟩ := hr2 (by omega)
     have hc1 := hq1 k (by omega)
     have hc2 := hq2 k (by omega)
     refine kX (n := 9) [0, 1, 2, 3, 4, 5, 6, 7, 8] (fun W => W.heap = w1.heap) (by kernel_rfl) (by kernel_rfl) rfl ?_
     have hS0 : (fun W => W.heap = w1.heap) (w1.drew) := rfl
     refine fU 0 rfl hS0 rfl (fU 1 rfl hS0 rfl (gZ 2 rfl hS0 (fun _ => bV underlying23 sizeOf21 rfl rfl (by omega)) ?_))
     refine gG 3 rfl hS0 (fun W hW => dB (bG underlying21 rfl) rfl (by rw [oO (hW.trans hD.heap)]; simpa using hc1)) ?_
     refine fU 4 rfl hS0 rfl (fU 5 rfl hS0 rfl (gZ 6 rfl hS0 (fun _ => bV underlying23 sizeOf21 rfl rfl (by omega)) ?_))
     refine gG 7 rfl hS0 (fun W hW => dB (bG underlying21 rfl) rfl (by rw [oO (hW.trans hD.heap)]; simpa using hc2)) ?_
     refine gZ 8 rfl hS0 (fun _ => dG rfl rfl) (mD (aj (aO rfl (fun h3 => ?_) (fun h3 => ?_))))
     ·(try simp only [aG] at h3)
      try (exfalso; first | contradiction | omega)
      all_goals
       refine ay (ah (aW rfl (aB (aj (aN (aX (aK (aK (aX (aK (aT (.inl rfl) results65 rfl ?_)))))))))))
       exact ⟨by rw [show (l1 == l2) = false from beq_eq_false_iff_ne.2 (by rintro rfl; exact h3 rfl)], hD.drew⟩
     ·(try simp only [aG] at h3)
      try (exfalso; first | contradiction | omega)
      all_goals
       refine aQ (aH (aj (ah (aP rfl (aU (dR rfl rfl (by omega)) (aW rfl (aB ?_)))))))
       refine bZ (k + 1) ?_ ?_ ?_ ?_
       ·exact (Sub.cons rfl (Sub.nil _))
       ·exact (Sub.cons rfl (Sub.cons rfl (Sub.nil _)))
       ·(try dsimp only)
        first | done | exact ⟨by omega, by omega, vX (by omega) (by omega) ht (by simpa using h3), hD.drew⟩
       ·(try dsimp only); omega
   ·(try simp only [aG] at h2)
    try (exfalso; first | contradiction | omega)
    all_goals
     refine dK (aV (aV (bD (aj (ay (ah (aW rfl (aB (aj (aN (aT (.inl rfl) results65 rfl ?_)))))))))))
     exact ⟨by rw [show (l1 == l2) = true from beq_iff_eq.2 (by rw [List.take_of_length_le (by omega), List.take_of_length_le (by omega)] at ht; exact ht)], hD⟩
theorem JB (w : World) (v1 v2 : Value) (l : List Int) (h1 : iI w .i32 v1 l) (h2 : iI w .i32 v2 l) :
    fQ prog 65 #[v1, v2] w fun v w' => v = .bool true ∧ lS w w' := by
  have := JA w v1 v2 l l h1 h2
  simpa using this
end Go.Proofs.YtddekefihgejoaaGreatDoor
end
section
namespace Go.Proofs.YtddekefihgejoaaGreatDoor
open Go.RowKit
section
variable {w0 w : World} {F : HP} {p : Nat} {L : List Int} {pt mk a : Int} {d i : Value} {dl il : List Int}
end
end Go.Proofs.YtddekefihgejoaaGreatDoor
end
section
namespace Go.Proofs.YtddekefihgejoaaGreatDoor
open Go.RowKit
open _root_.Go.Proofs.Tryz
def kQ (L : List Int) (i j : Int) (l : List Int) : Int := if i < 0 ∨ L.length < i ∨ j < i ∨ L.length < j then 70 else if 1024 < L.length - (j - i) + l.length then 3 else 0
def qL (L : List Int) (i j : Int) (l : List Int) : List Int := if kQ L i j l = 0 then L.take i.toNat ++ l ++ L.drop j.toNat else L
def qM (L : List Int) (pt i j : Int) (l : List Int) : Int := if kQ L i j l = 0 then bI pt i j l.length else pt
def qN (L : List Int) (mk i j : Int) (l : List Int) : Int := if kQ L i j l = 0 then bJ mk i j l.length else mk
def qg (L : List Int) (i j : Int) (l : List Int) : Int := if kQ L i j l = 0 then i else 0
def kD (L : List Int) (i j : Int) (l : List Int) : List Int := if kQ L i j l = 0 then (L.drop i.toNat).take (j - i).toNat else []
def kE (L : List Int) (i j : Int) (l : List Int) : List Int := if kQ L i j l = 0 then l else []
section
variable {w0 w : World} {F : HP} {p : Nat} {L : List Int} {pt mk : Int} {v d s : Value} {l dl il : List Int} {i j a x : Int}
theorem CX (H : aA w0 w (dQ p L pt mk • F)) (hr : gV w0 F .i32 v l) :
    fQ prog 136 #[.pointer (some ⟨p, 0, none⟩), .int .i64 i, .int .i64 j, v] w fun v' w' => ∃ d s, v' = .tuple #[.agg #[.int .i64 (qg L i j l), d, s], .int .i64 (kQ L i j l)] ∧
      aA w0 w' (gW 21 .i32 d (kD L i j l) • gW 21 .i32 s (kE L i j l) • dQ p (qL L i j l) (qM L pt i j l) (qN L mk i j l) • F) := by
  unfold qg qL qM qN kD kE
  by_cases h1 : i < 0 ∨ L.length < i ∨ j < i ∨ L.length < j
  · have e : kQ L i j l = 70 := by unfold kQ; rw [if_pos h1]
    simp only [e, show ¬ (70 : Int) = 0 from by decide, if_false]
    exact (CV H hr h1).mono fun v' w' h => ⟨_, _, h.1, (h.2.zy none).zy none⟩
  · have h2 : 0 ≤ i ∧ i ≤ j ∧ j ≤ L.length := by omega
    by_cases h3 : 1024 < L.length - (j - i) + l.length
    · have e : kQ L i j l = 3 := by unfold kQ; rw [if_neg h1, if_pos h3]
      simp only [e, show ¬ (3 : Int) = 0 from by decide, if_false]
      exact (AV H hr h2 h3).mono fun v' w' h => ⟨_, _, h.1, (h.2.zy none).zy none⟩
    · have e : kQ L i j l = 0 := by unfold kQ; rw [if_neg h1, if_neg h3]
      simp only [e, if_true]
      obtain ⟨i', rfl⟩ := Int.eq_ofNat_of_zero_le h2.1
      obtain ⟨j', rfl⟩ := Int.eq_ofNat_of_zero_le (show 0 ≤ j by omega)
      have hij : i' ≤ j' ∧ j' ≤ L.length := by omega
      have := Eb (i := i') (j := j') H hr hij (by omega)
      simpa only [Int.toNat_natCast, show ((j' : Int) - (i' : Int)).toNat = j' - i' from by omega, fP] using this
def smE (L : List Int) (x : Int) : Int := if x < -1 ∨ L.length < x then 70 else 0
def smM (L : List Int) (mk x : Int) : Int := if x < -1 ∨ L.length < x then mk else x
def swE (mk : Int) : Int := if mk < 0 then 6 else 0
def swP (pt mk : Int) : Int := if mk < 0 then pt else mk
def swM (pt mk : Int) : Int := if mk < 0 then mk else pt
theorem FB (H : aA w0 w (dQ p L pt mk • F)) : fQ prog 125 #[.pointer (some ⟨p, 0, none⟩)] w fun v' w' => ∃ q, v' = .pointer (some ⟨q, 0, none⟩) ∧ aA w0 w' (dQ q L pt mk • dQ p L pt mk • F) := by
 refine iw func125 ntmps125 ?_
 dsimp only [aZ, Nat.reduceAdd]
 refine ay (ah (aW rfl (aB (aj (ay (ay (ah (aP rfl (dD rfl func139 (ou H) ?_)))))))))
 rintro _ _ ⟨rfl, rfl⟩
 refine aB (aj (pW (aQ (aj (ay ?_)))))
 obtain ⟨acB, acC, acD, f_p, t_p, Yi, Yj, Yk, Yl, Ym, Yn, acE, acF, acG, abW, Yo⟩ := (H).buf
 refine ah (aP rfl (bT rfl (aU (bQ underlying208 rfl sizeOf208 rfl rfl (Yo).get.2) (gB (bW (l := [_, _, _, _, _, _]) Yo zeroValue208 rfl) ?_))))
 rintro _ w3 ⟨b3, rfl, H3⟩
 refine aI (bC 0 (l' := [_, _, _, _, _, _]) (us := [_, _, _, _, _, _]) H3 sizeOf208 rfl rfl rfl (aC (by first | rfl | assumption) (aC (by first | rfl | exact Rd.one ((H3.f3).aJ)) (aC (by first | rfl | assumption) (aC (by first | rfl | assumption) (aC (by first | rfl | assumption) (aC (by first | rfl | assumption) bg)))))) rfl rfl) ?_
 rintro _ w4 H4
 refine aB (aj (ay (ah (aP rfl (bT rfl (bf 1 underlying208 rfl sizeOf23 rfl (dA underlying23 rfl (H4.f2).get.2 rfl (dD rfl func59 (kH H4 (fun W HW => (HW.f3).aJ) (by omega)) ?_))))))))
 rintro u5 w5 H5
 refine bf 1 underlying208 rfl sizeOf23 rfl (aI (aS 1 (l' := [_, _, _, _, _, _]) H5.f2 sizeOf23 rfl rfl (by first | rfl | exact Rd.one ((H5).aJ)) rfl rfl) ?_)
 rintro _ w6 H6
 refine aB (aj (ay (ah (aW rfl (aB (aj (aN (aT (.inl rfl) results125 rfl ?_))))))))
 exact ⟨_, rfl, (aA.kP Yi Yj Yk Yl Ym Yn (by omega) (aA.kP Yi Yj Yk Yl Ym Yn (by omega) H6.f4.f4.f4.f4).f2.f3.f2).f2⟩
def Yp (L : List Int) (a : Int) (dl : List Int) : Bool := decide ((dl.length : Int) ≤ L.length - a) && ((L.drop a.toNat).take dl.length == dl)
def Wq (L : List Int) (a : Int) (dl il : List Int) : Int := if a < 0 ∨ L.length < a then 70 else if Yp L a dl then kQ L a (a + dl.length) il else 71
def aaj (L : List Int) (a : Int) (dl il : List Int) : List Int := if Wq L a dl il = 0 then qL L a (a + dl.length) il else L
def aak (L : List Int) (pt a : Int) (dl il : List Int) : Int := if Wq L a dl il = 0 then qM L pt a (a + dl.length) il else pt
def aal (L : List Int) (mk a : Int) (dl il : List Int) : Int := if Wq L a dl il = 0 then qN L mk a (a + dl.length) il else mk
end
end Go.Proofs.YtddekefihgejoaaGreatDoor
end
