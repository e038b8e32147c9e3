import Derived.Test.YtddekefihgejoaaGreatDoorZ2
import Derived.Test.YtddekefihgejoaaGreatDoorZ11
set_option linter.unusedSimpArgs false
set_option linter.unusedVariables false
/- Texts of mine, joined, their names in short: EdR EdK EdF. -/
section
namespace Go.Proofs.YtddekefihgejoaaGreatDoor
open Go.RowKit
open _root_.Go.Proofs.Tryz
theorem uO {L : List Int} {i j : Int} {l : List Int} (h : kH L i j l ≠ 0) : jW L i j l = [] ∧ jX L i j l = [] := by unfold jW jX; rw [if_neg h, if_neg h]; exact ⟨rfl, rfl⟩
theorem TW {L : List Int} {i j : Int} {l : List Int} (hL : L.length ≤ 1024) (h : 0 < (jW L i j l).length + (jX L i j l).length) : vM (pG L i j l, jW L i j l, jX L i j l) := by
  by_cases h0 : kH L i j l = 0
  · refine ⟨?_, h, ?_, ?_⟩
    · show 0 ≤ pG L i j l
      unfold pG; rw [if_pos h0]
      unfold kH at h0
      split at h0
      · cases h0
      · omega
    · show (jW L i j l).length ≤ 1024
      unfold jW; rw [if_pos h0]
      simp only [List.length_take, List.length_drop]; omega
    · show (jX L i j l).length ≤ 1024
      unfold jX; rw [if_pos h0]
      unfold kH at h0
      split at h0
      · cases h0
      · split at h0
        · cases h0
        · omega
  · rw [(uO h0).1, (uO h0).2] at h
    simp at h
theorem Q8 {L : List Int} {i j : Int} {l : List Int} (hL : L.length ≤ 1024) : (jW L i j l).length ≤ 1024 ∧ (jX L i j l).length ≤ 1024 := by
  by_cases h0 : kH L i j l = 0
  · refine ⟨?_, ?_⟩
    · unfold jW; rw [if_pos h0]
      simp only [List.length_take, List.length_drop]; omega
    · unfold jX; rw [if_pos h0]
      unfold kH at h0
      split at h0
      · cases h0
      · split at h0
        · cases h0
        · omega
  · rw [(uO h0).1, (uO h0).2]; simp
theorem Ef {s : bH} {x : fJ} (h : x.2.1.length + x.2.2.length = 0) : s.xW x = s := by unfold bH.xW; rw [if_pos h]
theorem Aq {s : bH} {x : fJ} (h : 0 < x.2.1.length + x.2.2.length) (k : ¬ 16384 ≤ eY s.here s.put) : s.xW x = { s with put := s.put ++ [x] } := by unfold bH.xW; rw [if_neg (by omega), if_neg k]
theorem Ar {s : bH} {x : fJ} (h : 0 < x.2.1.length + x.2.2.length) (k : 16384 ≤ eY s.here s.put) : s.xW x = { s.nU [] with put := [x], c := { (s.nU []).c with run := false } } := by unfold bH.xW; rw [if_neg (by omega), if_pos k]
theorem oK (G : List (List fJ)) (N : List fJ) : eY G N = eY G [] + N.length := by unfold eY; simp
theorem Nq {s : bH} {x : fJ} (h : jY s) (hx : 0 < x.2.1.length + x.2.2.length → vM x) : jY (s.xW x) := by
  by_cases h0 : x.2.1.length + x.2.2.length = 0
  · rw [Ef h0]; exact h
  · have hx' := hx (by omega)
    obtain ⟨h1, h2, h3, h4, h5, h6⟩ := h
    by_cases hf : 16384 ≤ eY s.here s.put
    · rw [Ar (by omega) hf]
      refine ⟨h1, h2, h3, fun e he => by rw [List.mem_singleton.1 he]; exact hx', ?_, ?_⟩
      · show eY (tK s.c.un s.c.place [] s.c.place) [x] ≤ 16384
        rw [iK]; simp [eY]
      · intro k g hg
        have hg' : g ∈ tK s.c.un s.c.place [] k := hg
        by_cases hk : k = s.c.place
        · subst hk; rw [iK] at hg'; cases hg'
        · rw [rM _ _ hk] at hg'; exact h6 k g hg'
    · rw [Aq (by omega) hf]
      refine ⟨h1, h2, h3, fun e he => ?_, ?_, h6⟩
      · rcases List.mem_append.1 he with he | he
        · exact h4 e he
        · rw [List.mem_singleton.1 he]; exact hx'
      · show eY s.here (s.put ++ [x]) ≤ 16384
        rw [Gz]; omega
section
variable {w0 w : World} {F : HP} {e p h pr : Nat} {s : bH} {i j x : Int} {b : Bool} {v : Value} {l : List Int}
theorem Eh (H : aB w0 w (dO e s • F)) (hr : iG w0 F .i32 v l) : gG prog 88 #[.pointer (some ⟨e, 0, none⟩), .int .i64 i, .int .i64 j, v] w fun v' w' => v' = .int .i64 (s.oJ i j l) ∧ aB w0 w' (dO e (s.sK i j l) • F) := by
 refine iF func88 ntmps88 ?_
 dsimp only [bg, Nat.reduceAdd]
 refine ay (ah (aW rfl (aA (aj (ay (ay (ah (aI rfl (dH rfl func81 (kR H) ?_)))))))))
 rintro _ _ ⟨rfl, rfl⟩
 refine aW rfl (aA (aj (ay (ah (aI rfl (aU (gy rfl rfl) (aA (aj (aP rfl (fun h1 => ?_) (fun h1 => ?_))))))))))
 ·(try simp only [aG] at h1)
  obtain ⟨hin, hpe⟩ := CQ h1
  refine ay (ah (aI rfl (aW rfl (aA (aj (aK (aN (aQ (.inl rfl) results88 rfl ?_))))))))
  rw [hpe]
  exact ⟨by simp [bH.oJ, bH.sK, hin], by rw [show s.sK i j l = s from by simp [bH.oJ, bH.sK, hin]]; exact H⟩
 ·(try simp only [aG] at h1)
  have hin := zD h1
  refine aO (aj (ay ?_))
  obtain ⟨qy, qA, qB, qC, qE, qF, qG, qH, oq, mM, mO, mP, mQ, mV, mW, mX, mY, mZ, ng, ni, dI, bM, ig, eH⟩ := (H).D9
  have hL : s.c.L.length ≤ 1024 := by obtain ⟨a, c, xs, f, t, h1, h2, h3, h4, h5, h6, h7, hc1, hc2, hl, H1⟩ := (eH.f2).buf; exact h4
  have hE : s.oJ i j l = kH s.c.L i j l := by unfold bH.oJ; rw [if_pos hin]
  have hS : s.sK i j l = (s.jO (pY s.c.L i j l) (qc s.c.L s.c.pt i j l) (qg s.c.L s.c.mark i j l)).xW (pG s.c.L i j l, jW s.c.L i j l, jX s.c.L i j l) := by unfold bH.sK; rw [if_pos hin]
  have hln := Q8 (i := i) (j := j) (l := l) hL
  have hput : eY s.here s.put ≤ 16384 := dI.2.2.2.2.1
  have hsp : eY s.here s.put = eY (s.c.un s.c.place) [] + s.put.length := oK _ _
  have hok := TW (i := i) (j := j) (l := l) hL
  have hno := uO (L := s.c.L) (i := i) (j := j) (l := l)
  refine ah (aI rfl (bQ rfl (bC 0 underlying69 rfl sizeOf64 rfl (bC 0 underlying64 rfl sizeOf59 rfl (eu underlying59 rfl (eH).get.2 rfl (aI rfl (aI rfl (aI rfl (dH rfl func136 (BN eH.f2 (fun W HW => hr _ (HW.right.right.right.right.right.right.right.right.right.right))) ?_)))))))))
  rintro _ w3 ⟨d3, s3, rfl, H3⟩
  refine aI rfl (wU rfl rfl (wU rfl rfl (iw (cZ (l := [_, _, _]) H3 zeroValue202 rfl) ?_)))
  rintro _ w4 ⟨b4, rfl, H4⟩
  refine aJ (bG 0 (l' := [_, _, _]) (us := [_, _, _]) H4 sizeOf202 rfl rfl rfl (aC (by first | rfl | assumption) (aC (by first | rfl | exact Rd.one ((H4.f2).aT)) (aC (by first | rfl | exact Rd.one ((H4.f3).aT)) bn))) rfl rfl) ?_
  rintro _ w5 H5
  refine aW rfl (aA (aj (ay (ay (ah (aI rfl (aU (gU rfl rfl) (iM rfl (fun h2 => ?_) (fun h2 => ?_)))))))))
  ·(try simp only [aG] at h2)
   refine aY (bC 1 underlying202 rfl sizeOf23 rfl (aY (eu underlying23 rfl (H5).get.2 rfl (aY (aU (eG ((H5.f2).aT) underlying23 rfl) (aY (bC 2 underlying202 rfl sizeOf23 rfl (aY (eu underlying23 rfl (H5).get.2 rfl (aY (aU (eG ((H5.f3).aT) underlying23 rfl) (aY (aU (dG rfl rfl (by omega)) (aY (aU (fB rfl rfl) (fK rfl rfl (aA (aj (aP rfl (fun h3 => ?_) (fun h3 => ?_))))))))))))))))))))
   ·(try simp only [aG] at h3)
    have hlen : 0 < (jW s.c.L i j l).length + (jX s.c.L i j l).length := by omega
    refine ay (ay ?_)
    have VW := H5.drew
    have Ei := aB.kp (VW.f9.right.f13.f13.f13.f13.f13.f13.f13.f13.f13.f13.f13.f13.f13)
    refine wo [6] Ei rfl (gV 0 rfl Ei rfl (gV 3 rfl Ei rfl (iZ 4 rfl Ei rfl (dV 5 rfl Ei 33 underlying69 rfl sizeOf67 rfl (iy 6 rfl Ei (fun W hW => iQ underlying67 rfl ((Kp.h hW).f5).get.2 rfl) (iR 7 rfl Ei (fun _ => eX ((VW.f12).aT) underlying67 rfl) (jr 1 rfl (rX rfl func128 (wO VW.f9.f8.f7)) ?_)))))))
    rintro _ w6 ⟨lp6, rfl, H6⟩
    have BZ := aB.kp (H6.right.f14.f14.f14.f14.f14.f14.f14.f14.f14.f14.f14.f14.f14.f14)
    refine bW BZ (fun W hW => (Kp.h hW).right.f13.f13.f13.f13.f13.f13.f8.f13.f9.f13.f13.f13.f13) ?_
    refine jr 2 rfl (rX rfl func137 (DL H6)) ?_
    rintro _ w7 ⟨rfl, H7⟩
    have xG := aB.kp (H7.f15.f15.f15.f15.f15.f15.f15.f15.f15.f15.f15.f15.f15.f15.f15)
    refine bW xG (fun W hW => (Kp.h hW).right.f14.f14.f14.f14.f14.f14.f14.f14.f14.f14.f14.f14.f14.f14) ?_
    refine iR 8 rfl xG (fun _ => dG rfl rfl (by omega)) (iR 9 rfl xG (fun _ => o8 rfl rfl) ?_)
    have Yf := H7.f2
    have WM := aB.GZ Yf
    refine nJ (aj (aP rfl (fun h4 => ?_) (fun h4 => ?_)))
    ·(try simp only [aG] at h4)
     have JB : 16384 ≤ eY (s.jO (pY s.c.L i j l) (qc s.c.L s.c.pt i j l) (qg s.c.L s.c.mark i j l)).here (s.jO (pY s.c.L i j l) (qc s.c.L s.c.pt i j l) (qg s.c.L s.c.mark i j l)).put := by show 16384 ≤ eY s.here s.put; omega
     refine ay (ah (aI rfl (dH rfl func128 (wO WM.f3.f3) ?_)))
     rintro _ w10 ⟨ab5, rfl, qL⟩
     refine dH rfl func138 (DX qL) ?_
     rintro _ Gq sD
     have Lj := sD.f2
     have Ll := aB.uM Lj
     refine aA (aj (ah (aI rfl (aI rfl (bQ rfl (bC 33 underlying69 rfl sizeOf67 rfl (aJ (aS 33 (l' := [_, _, _, _, _, _, _, _, _, _, _, _, _, _, _, _, _, _, _, _, _, _, _, _, _, _, _, _, _, _, _, _, _, _]) Ll.f2 sizeOf67 rfl rfl (by first | rfl | assumption) rfl rfl) ?_)))))))
     rintro _ O8 zN
     refine bQ rfl (bC 0 underlying69 rfl sizeOf64 rfl (bC 10 underlying64 rfl sizeOf4 rfl (aJ (aS 10 (l' := [_, _, _, _, _, _, _, _, _, _, _, _, _, _, _, _, _, _, _, _, _, _, _, _, _, _, _, _, _, _, _, _, _, _]) zN sizeOf4 rfl rfl (by first | rfl | assumption) rfl rfl) ?_)))
     rintro _ Sv xE
     refine aA (aj ?_)
     have U3 := xE.drew
     have yE := aB.kp (U3.f14.f14.f14.f14.f14.f14.f14.f14.f14.f14.f14.f14.f14.f14)
     refine wo [4, 5] yE rfl (gV 0 rfl yE rfl (gV 1 rfl yE rfl (iZ 2 rfl yE rfl (dV 3 rfl yE 33 underlying69 rfl sizeOf67 rfl (iy 4 rfl yE (fun W hW => iQ underlying67 rfl ((Kp.h hW)).get.2 rfl) (iy 5 rfl yE (fun W hW => bV underlying202 rfl sizeOf202 rfl rfl ((Kp.h hW).f4).get.2) (jr 6 rfl (lZ U3 underlying67 sizeOf202 zeroValue202 rfl rfl rfl (by decide) (by decide)) ?_)))))))
     rintro YV w16 rV
     have zx := aB.kp (rV.f15.f15.f15.f15.f15.f15.f15.f15.f15.f15.f15.f15.f15.f15.f15)
     refine bW zx (fun W hW => (Kp.h hW).right.f14.f14.f14.f14.f14.f14.f14.f14.f14.f14.f14.f14.f14.f14) ?_
     refine jr 7 rfl (fP (rV.iE none) underlying67 (show (prog.info? 202).map (fun i => (i.zero, i.size, i.bytes)) = some (some (.agg #[.int .i64 0, .slice none 0 0, .slice none 0 0]), 3, 56) by kernel_rfl) rfl rfl rfl ((rV).aT) (aC (by first | rfl | assumption) (aC (by first | rfl | exact Rd.one ((rV.f6).aT)) (aC (by first | rfl | exact Rd.one ((rV.f7).aT)) bn))) (by omega) (by omega)) ?_
     rintro l17 UF zO
     have Q9 := zO.f2.right
     have zo := aB.kp (Q9.f15.f15.f15.f15.f15.f15.f15.f15.f15.f15.f15.f15.f15.f15.f15)
     refine dR zo (by kernel_rfl) ?_
     refine iZ 8 rfl zo rfl (dV 9 rfl zo 33 underlying69 rfl sizeOf67 rfl ?_)
     refine dN 10 rfl (by kernel_rfl) (aS 33 (l' := [_, _, _, _, _, _, _, _, _, _, _, _, _, _, _, _, _, _, _, _, _, _, _, _, _, _, _, _, _, _, _, _, _, _]) Q9.f2 sizeOf67 rfl rfl (by first | rfl | exact Rd.one ((Q9).aT)) rfl rfl) ?_
     rintro _ Sz xk
     have Jr := aB.kp (xk.f15.f15.f15.f15.f15.f15.f15.f15.f15.f15.f15.f15.f15.f15.f15)
     refine dR Jr (by kernel_rfl) ?_
     refine nJ (aj (ay (ah (aI rfl (aW rfl (aA (aj (aK (aQ (.inl rfl) results88 rfl ?_)))))))))
     have X := (xk.f5.right.f12.right.f12.right.f12.f12.f12.f6.f12.f8.f12.f12.f9.f10.f12.f12).jy.swap.jy.swap
     have X2 := aB.uD (es := []) X.DK.f3.f3.f4
     exact ⟨by rw [hE]; rfl, by rw [hS, Ar (x := (pG s.c.L i j l, jW s.c.L i j l, jX s.c.L i j l)) hlen JB]; exact aB.Q5 (s := { (s.jO (pY s.c.L i j l) (qc s.c.L s.c.pt i j l) (qg s.c.L s.c.mark i j l)).nU [] with put := [(pG s.c.L i j l, jW s.c.L i j l, jX s.c.L i j l)], c := { ((s.jO (pY s.c.L i j l) (qc s.c.L s.c.pt i j l) (qg s.c.L s.c.mark i j l)).nU []).c with run := false } }) (Ar (x := (pG s.c.L i j l, jW s.c.L i j l, jX s.c.L i j l)) hlen JB ▸ Nq (uN dI _ _ _) hok) rfl X2⟩
    ·(try simp only [aG] at h4)
     have JB : ¬ 16384 ≤ eY (s.jO (pY s.c.L i j l) (qc s.c.L s.c.pt i j l) (qg s.c.L s.c.mark i j l)).here (s.jO (pY s.c.L i j l) (qc s.c.L s.c.pt i j l) (qg s.c.L s.c.mark i j l)).put := by show ¬ 16384 ≤ eY s.here s.put; omega
     refine aO (aj ?_)
     have FN := WM.drew
     have lX := aB.kp (FN.f14.f14.f14.f14.f14.f14.f14.f14.f14.f14.f14.f14.f14.f14)
     refine wo [4, 5] lX rfl (gV 0 rfl lX rfl (gV 1 rfl lX rfl (iZ 2 rfl lX rfl (dV 3 rfl lX 33 underlying69 rfl sizeOf67 rfl (iy 4 rfl lX (fun W hW => iQ underlying67 rfl ((Kp.h hW).f2).get.2 rfl) (iy 5 rfl lX (fun W hW => bV underlying202 rfl sizeOf202 rfl rfl ((Kp.h hW).f4).get.2) (jr 6 rfl (lZ FN underlying67 sizeOf202 zeroValue202 rfl rfl rfl (by decide) (by decide)) ?_)))))))
     rintro XV SA yJ
     have zB := aB.kp (yJ.f15.f15.f15.f15.f15.f15.f15.f15.f15.f15.f15.f15.f15.f15.f15)
     refine bW zB (fun W hW => (Kp.h hW).right.f14.f14.f14.f14.f14.f14.f14.f14.f14.f14.f14.f14.f14.f14) ?_
     refine jr 7 rfl (fP yJ.f13 underlying67 (show (prog.info? 202).map (fun i => (i.zero, i.size, i.bytes)) = some (some (.agg #[.int .i64 0, .slice none 0 0, .slice none 0 0]), 3, 56) by kernel_rfl) rfl rfl rfl ((yJ).aT) (aC (by first | rfl | assumption) (aC (by first | rfl | exact Rd.one ((yJ.f6).aT)) (aC (by first | rfl | exact Rd.one ((yJ.f7).aT)) bn))) (by omega) (by omega)) ?_
     rintro ZQ TA pF
     have BX := pF.f2.right
     have zC := aB.kp (BX.f14.f14.f14.f14.f14.f14.f14.f14.f14.f14.f14.f14.f14.f14)
     refine dR zC (by kernel_rfl) ?_
     refine iZ 8 rfl zC rfl (dV 9 rfl zC 33 underlying69 rfl sizeOf67 rfl ?_)
     refine dN 10 rfl (by kernel_rfl) (aS 33 (l' := [_, _, _, _, _, _, _, _, _, _, _, _, _, _, _, _, _, _, _, _, _, _, _, _, _, _, _, _, _, _, _, _, _, _]) BX.f3 sizeOf67 rfl rfl (by first | rfl | exact Rd.one ((BX).aT)) rfl rfl) ?_
     rintro _ PZ vY
     have Bh := aB.kp (vY.f14.f14.f14.f14.f14.f14.f14.f14.f14.f14.f14.f14.f14.f14)
     refine dR Bh (by kernel_rfl) ?_
     refine nJ (aj (ay (ah (aI rfl (aW rfl (aA (aj (aK (aQ (.inl rfl) results88 rfl ?_)))))))))
     have X := (vY.f5.right.f13.f12.f12.f6.f12.f8.f12.f12.f9.f13.f11.f13.f13).jy.swap.jy.swap
     rw [← ig] at X
     have X2 := aB.uD X.f3
     exact ⟨by rw [hE]; rfl, by rw [hS, Aq (x := (pG s.c.L i j l, jW s.c.L i j l, jX s.c.L i j l)) hlen JB]; exact aB.Q5 (s := { s.jO (pY s.c.L i j l) (qc s.c.L s.c.pt i j l) (qg s.c.L s.c.mark i j l) with put := s.put ++ [(pG s.c.L i j l, jW s.c.L i j l, jX s.c.L i j l)] }) (Aq (x := (pG s.c.L i j l, jW s.c.L i j l, jX s.c.L i j l)) hlen JB ▸ Nq (uN dI _ _ _) hok) (by rw [List.map_append, bM]; rfl) X2⟩
   ·(try simp only [aG] at h3)
    have hlen : (jW s.c.L i j l).length + (jX s.c.L i j l).length = 0 := by omega
    refine aO (aj (ay (ah (aI rfl (aW rfl (aA (aj (aK (aQ (.inl rfl) results88 rfl ?_)))))))))
    exact ⟨by rw [hE]; rfl, by rw [hS, Ef (x := (pG s.c.L i j l, jW s.c.L i j l, jX s.c.L i j l)) hlen]; exact aB.dY (s := s.jO (pY s.c.L i j l) (qc s.c.L s.c.pt i j l) (qg s.c.L s.c.mark i j l)) (uN dI _ _ _) bM H5.right.right.right.f11.f11.f11.f11.f11.f11.f11.f11.f11.f10.f11⟩
  ·(try simp only [aG] at h2)
   have hlen : (jW s.c.L i j l).length + (jX s.c.L i j l).length = 0 := by rw [(hno h2).1, (hno h2).2]; rfl
   refine aZ (aZ (aZ (aZ (aZ (aZ (aZ (aZ (fC rfl rfl (aA (aj (nY (aO (aj (ay (ah (aI rfl (aW rfl (aA (aj (aK (aQ (.inl rfl) results88 rfl ?_)))))))))))))))))))))
   exact ⟨by rw [hE]; rfl, by rw [hS, Ef (x := (pG s.c.L i j l, jW s.c.L i j l, jX s.c.L i j l)) hlen]; exact aB.dY (s := s.jO (pY s.c.L i j l) (qc s.c.L s.c.pt i j l) (qg s.c.L s.c.mark i j l)) (uN dI _ _ _) bM H5.right.right.right.f11.f11.f11.f11.f11.f11.f11.f11.f11.f10.f11⟩
theorem ES (H : aB w0 w (dO e s • F)) (hr : iG w0 F .i32 v l) : gG prog 39 #[.pointer (some ⟨e, 0, none⟩), v] w fun v' w' => v' = .int .i64 (s.QB l) ∧ aB w0 w' (dO e (s.Ov l) • F) := by
 refine iF func39 ntmps39 ?_
 dsimp only [bg, Nat.reduceAdd]
 refine ay (ah (aW rfl (aA (aj (ay (ay (ah (aI rfl (dH rfl func81 (kR H) ?_)))))))))
 rintro _ _ ⟨rfl, rfl⟩
 refine aW rfl (aA (aj (ay (ah (aI rfl (aU (gy rfl rfl) (aA (aj (aP rfl (fun h1 => ?_) (fun h1 => ?_))))))))))
 ·(try simp only [aG] at h1)
  obtain ⟨hin, hpe⟩ := CQ h1
  refine ay (ah (aI rfl (aW rfl (aA (aj (aK (aN (aQ (.inl rfl) results39 rfl ?_))))))))
  rw [hpe]
  exact ⟨by simp [bH.QB, bH.Ov, bH.oJ, bH.sK, hin], by rw [show s.Ov l = s from by simp [bH.QB, bH.Ov, bH.oJ, bH.sK, hin]]; exact H⟩
 ·(try simp only [aG] at h1)
  have hin := zD h1
  refine aO (aj (ay ?_))
  obtain ⟨qy, qA, qB, qC, qE, qF, qG, qH, oq, mM, mO, mP, mQ, mV, mW, mX, mY, mZ, ng, ni, dI, bM, ig, eH⟩ := (H).D9
  have OB := eH.drew
  have uP := aB.kp (OB.f11.f11.f11.f11.f11.f11.f11.f11.f11.f11.f11)
  refine wo [5, 11] uP rfl (gV 0 rfl uP rfl (gV 1 rfl uP rfl (iZ 2 rfl uP rfl (dV 3 rfl uP 0 underlying69 rfl sizeOf64 rfl (dV 4 rfl uP 0 underlying64 rfl sizeOf59 rfl (iy 5 rfl uP (fun W hW => iQ underlying59 rfl ((Kp.h hW)).get.2 rfl) (gV 7 rfl uP rfl (iZ 8 rfl uP rfl (dV 9 rfl uP 0 underlying69 rfl sizeOf64 rfl (dV 10 rfl uP 0 underlying64 rfl sizeOf59 rfl (iy 11 rfl uP (fun W hW => iQ underlying59 rfl ((Kp.h hW)).get.2 rfl) (gV 13 rfl uP rfl (jr 6 rfl (rX rfl func89 (tC OB.f2)) ?_)))))))))))))
  rintro _ _ ⟨rfl, rfl⟩
  have BQ := aB.kp (OB.f11.f11.f11.f11.f11.f11.f11.f11.f11.f11.f11)
  refine bW BQ (fun W hW => (Kp.h hW).f11.f11.f11.f11.f11.f11.f11.f11.f11.f11.f11) ?_
  refine jr 12 rfl (rX rfl func89 (tC OB.f2)) ?_
  rintro _ _ ⟨rfl, rfl⟩
  have uz := aB.kp (OB.f11.f11.f11.f11.f11.f11.f11.f11.f11.f11.f11)
  refine dR uz (by kernel_rfl) ?_
  have VD := OB.f11.f11.f11.f11.f11.f11.f11.f11.f11.f11.f11
  have VE := aB.dY (s := s) dI bM VD
  refine jr 14 rfl (rX rfl func88 (Eh VE (fun W HW => hr _ (HW)))) ?_
  rintro _ w8 ⟨rfl, H8⟩
  have Jd := aB.kp (H8)
  refine dR Jd (by kernel_rfl) ?_
  refine iR 15 rfl Jd (fun _ => fA rfl) (nJ (aj (aK (aQ (.inl rfl) results39 rfl ?_))))
  exact ⟨rfl, H8⟩
end
end Go.Proofs.YtddekefihgejoaaGreatDoor
end
section
namespace Go.Proofs.YtddekefihgejoaaGreatDoor
open Go.RowKit
section
variable {w0 w : World} {F : HP} {e p h pr : Nat} {s : bH} {i j x : Int} {back : Bool} {v : Value} {l : List Int}
end
end Go.Proofs.YtddekefihgejoaaGreatDoor
end
section
namespace Go.Proofs.YtddekefihgejoaaGreatDoor
open Go.RowKit
open _root_.Go.Proofs.Tryz
theorem TY : (prog.info? 202).map (fun i => (i.zero, i.size, i.bytes)) = some (some (.agg #[.int .i64 0, .slice none 0 0, .slice none 0 0]), 3, 56) := by kernel_rfl
def Nr (c : Nat) (g : List fJ) : HP := qN fun (x : Value × List dw) => fact (x.2.map dw.says = g) • dh c (.cells #[x.1] 67 (0, 0)) • Row 202 3 x.1 x.2.length (x.2.flatMap dw.enc) • jo x.2
section
variable {w0 w : World} {F : HP} {e p c n m : Nat} {s : bH} {i j x : Int} {on : Bool} {v : Value} {g : List fJ} {tN es : List dw} {xs : List Value}
theorem Cb (H : aB w0 w F) (hr : EL w0 F 3 v n xs) (hon : ∀ u ∈ xs, u.oneCell' = true) (hb : n ≤ 1099511627776) :
    gG prog 130 #[v] w fun v' w' => aB w0 w' (Row 202 3 v' n xs • F) := by
  obtain ⟨hlen, a, c, rfl, h2, h3, h4⟩ := hr w H
  refine iF func130 ntmps130 ?_
  dsimp only [bg, Nat.reduceAdd]
  refine ay (ah (aW rfl (aA (aj (ay (ay (ah (aI rfl (aU (o9 underlying67 rfl rfl) (aA (aj (aP rfl (fun h1 => ?_) (fun h1 => ?_)))))))))))))
  · (try simp only [aG] at h1)
    try (exfalso; first | contradiction | omega)
    all_goals
      refine ay (ah (aW rfl (aA (aj (aK (aN (aQ (.inl rfl) results130 rfl ?_)))))))
      obtain rfl : a = none := by simpa using h1
      obtain rfl : n = 0 := by
        rcases Nat.eq_zero_or_pos n with h | h
        · exact h
        · obtain ⟨b, o, e, _⟩ := h4 h; cases e
      obtain rfl : xs = [] := List.eq_nil_of_length_eq_zero (by omega)
      exact H.iE none
  · (try simp only [aG] at h1)
    try (exfalso; first | contradiction | omega)
    all_goals
      refine aO (aj (ay (ah (iw (D5 H underlying67 sizeOf202 zeroValue202) ?_))))
      rintro _ w1 H1
      refine aI rfl (iw (fP H1 underlying67 TY rfl rfl rfl (hr.under _ H1) hon (by omega) (by omega)) ?_)
      rintro _ w2 H2
      refine aW rfl (aA (aj (aK (aQ (.inl rfl) results130 rfl ?_))))
      exact H2.of_eq (by rw [Nat.zero_add, List.nil_append])
theorem aB.old (H : aB w0 w (Nr c g • F)) : ∃ v es, es.map dw.says = g ∧ aB w0 w (dh c (.cells #[v] 67 (0, 0)) • Row 202 3 v es.length (es.flatMap dw.enc) • jo es • F) := by
  obtain ⟨⟨v, es⟩, H⟩ := H.lD
  obtain ⟨h, H⟩ := H.flat.fact
  exact ⟨v, es, h, H.of_eq (by simp only [bI])⟩
theorem aB.Rf (h : es.map dw.says = g) (H : aB w0 w (dh c (.cells #[v] 67 (0, 0)) • Row 202 3 v es.length (es.flatMap dw.enc) • jo es • F)) : aB w0 w (Nr c g • F) :=
  aB.gK (v, es) (aB.deep (aB.jP h (H.of_eq (by simp only [bI]))))
theorem aB.Ua (hg : g = []) (H : aB w0 w (dh c (.cells #[.slice none 0 0] 67 (0, 0)) • F)) : aB w0 w (Nr c g • F) :=
  aB.Rf (v := .slice none 0 0) (es := []) hg.symm ((H.oU none).of_eq (by unfold EO; ac_rfl))
theorem aB.G6 (hm : m = es.length) (H : aB w0 w (Row 202 3 v (tN.length + m) (tN.flatMap dw.enc ++ es.flatMap dw.enc) • jo tN • jo es • F)) : aB w0 w (Row 202 3 v (tN ++ es).length ((tN ++ es).flatMap dw.enc) • jo (tN ++ es) • F) := by
  subst hm
  have h1 : aB w0 w (jo tN • jo es • Row 202 3 v (tN.length + es.length) (tN.flatMap dw.enc ++ es.flatMap dw.enc) • F) := H.of_eq (by ac_rfl)
  have h2 : aB w0 w (jo (tN ++ es) • Row 202 3 v (tN.length + es.length) (tN.flatMap dw.enc ++ es.flatMap dw.enc) • F) := h1.EH (ru (fun I h g => h.app g) _)
  exact h2.swap.of_eq (by rw [List.length_append, List.flatMap_append])
def Rh (s : bH) (on : Bool) (tN : List dw) (G1 : List (List fJ)) : Prop := eY G1 [] + tN.length = eY s.here [] ∧ (∀ e ∈ tN, vM e.says) ∧ s.jS on = G1 ++ [tN.map dw.says ++ s.put]
theorem OC (hp : s.put ≠ []) (hn : on = false) : Rh s on [] s.here := by
  subst hn
  refine ⟨by simp, by simp, ?_⟩
  unfold bH.jS
  rw [if_neg hp, if_neg (by decide)]
  rfl
theorem G9 : ∀ {G : List (List fJ)}, G ≠ [] → (G.dropLast.map List.length).sum + (G.getLastD []).length = (G.map List.length).sum := by
  intro G hG
  have h := List.dropLast_concat_getLast hG
  have h2 : G.getLastD [] = G.getLast hG := by rw [List.getLastD_eq_getLast?, List.getLast?_eq_some_getLast hG]; rfl
  rw [h2]
  conv => rhs; rw [← h]
  simp
theorem JC (hp : s.put ≠ []) (hn : on = true) (hO : ∀ g ∈ s.here, ∀ e ∈ g, vM e) (h : tN.map dw.says = s.here.getLastD []) : Rh s on tN s.here.dropLast := by
  subst hn
  have hlen : tN.length = (s.here.getLastD []).length := by rw [← h]; simp
  have hm : ∀ e ∈ tN, e.says ∈ s.here.getLastD [] := fun e he => by rw [← h]; exact List.mem_map.2 ⟨e, he, rfl⟩
  unfold Rh bH.jS
  rw [if_neg hp, if_pos rfl]
  by_cases h0 : s.here = []
  · rw [h0] at h hlen hm
    have : tN = [] := List.eq_nil_of_length_eq_zero (by simpa using hlen)
    subst this
    rw [h0]
    exact ⟨by simp, by simp, rfl⟩
  · have h2 : s.here.getLastD [] = s.here.getLast h0 := by rw [List.getLastD_eq_getLast?, List.getLast?_eq_some_getLast h0]; rfl
    refine ⟨?_, fun e he => hO _ (List.getLast_mem h0) _ (h2 ▸ hm e he), ?_⟩
    · have := G9 h0
      show (s.here.dropLast.map List.length).sum + 0 + tN.length = (s.here.map List.length).sum + 0
      rw [hlen]; omega
    · rw [List.getLast?_eq_some_getLast h0, h, h2]
theorem Ej (G : List (List fJ)) : yA G [] = G.reverse := by unfold yA jq; rw [if_pos rfl]
theorem Lu (G : List (List fJ)) : (yA G []).getD 0 [] = G.getLastD [] := by
  rw [Ej, List.getD_eq_getElem?_getD, List.getLastD_eq_getLast?]
  congr 1
  cases G.eq_nil_or_concat with
  | inl h => subst h; rfl
  | inr h => obtain ⟨L, b, rfl⟩ := h; simp
theorem Ri {G : List (List fJ)} (h : TG G [] 0) : (∀ g ∈ yA G [], ∀ e ∈ g, EB e) ∧ ∀ g ∈ yA G [], g.length ≤ 16384 := by
  rw [Ej]
  refine ⟨fun g hg => h.2.2.2.2.1 g (List.mem_reverse.1 hg), fun g hg => ?_⟩
  have h1 := GR (List.mem_reverse.1 hg)
  have h2 := h.2.1
  unfold eY at h2
  simp at h2; omega
theorem He (G : List (List fJ)) (N : List fJ) : Vy G N (0 + 1) = jq G N ∧ Vz N (0 + 1) = [] ∧ TJ (0 + 1) = 0 := ⟨if_pos rfl, if_pos rfl, by unfold TJ; rw [if_neg (by decide)]; rfl⟩
theorem FP (G : List (List fJ)) : MO G [] = G.dropLast ∧ MP G [] = [] ∧ MQ G [] 0 = 0 := by
  unfold MO MP MQ jq
  by_cases h : G.length + ([] : List fJ).length = 0
  · have : G = [] := List.eq_nil_of_length_eq_zero (by simpa using h)
    subst this
    simp
  · rw [if_neg h, if_neg h, if_neg h, if_pos rfl]; simp
theorem LC {s : bH} (h : s.put = []) : s.dA on = s := by unfold bH.dA; rw [if_pos h]
theorem kS {s : bH} (h : s.put ≠ []) : s.dA on = { s.nU (s.jS on) with put := [] } := by unfold bH.dA; rw [if_neg h]
theorem Rj (G : List (List fJ)) (g : List fJ) : eY (G ++ [g]) [] = eY G [] + g.length := by unfold eY; simp
theorem Em (h : jY s) {G1 : List (List fJ)} (hF : Rh s on tN G1) (hp : s.put ≠ []) (hG : ∀ g ∈ G1, ∀ e ∈ g, vM e) : jY (s.dA on) := by
  rw [kS hp]
  obtain ⟨h1, h2, h3, h4, h5, h6⟩ := h
  obtain ⟨f1, f2, f3⟩ := hF
  refine ⟨h1, h2, h3, by simp, ?_, ?_⟩
  · show eY (tK s.c.un s.c.place (s.jS on) s.c.place) [] ≤ 16384
    rw [iK, f3, Rj]
    have := oK s.here s.put
    simp; omega
  · intro k g hg e he
    have hg' : g ∈ tK s.c.un s.c.place (s.jS on) k := hg
    by_cases hk : k = s.c.place
    · subst hk
      rw [iK, f3] at hg'
      rcases List.mem_append.1 hg' with hg' | hg'
      · exact hG g hg' e he
      · rw [List.mem_singleton.1 hg'] at he
        rcases List.mem_append.1 he with he | he
        · obtain ⟨q, hq, rfl⟩ := List.mem_map.1 he; exact f2 q hq
        · exact h4 e he
    · rw [rM _ _ hk] at hg'; exact h6 k g hg' e he
theorem Au {es : List dw} {k : Nat} (hk : k < es.length) : (es.take (k + 1)).map dw.says = (es.take k).map dw.says ++ [(es.getD k default).says] := by
  rw [List.take_succ_eq_append_getElem hk, List.map_append, List.getD_eq_getElem?_getD, List.getElem?_eq_getElem hk]; rfl
theorem jT (H : aB w0 w (dO e s • F)) : gG prog 83 #[.pointer (some ⟨e, 0, none⟩), .bool on] w fun _ w' => aB w0 w' (dO e (s.dA on) • F) := by
  refine iF func83 ntmps83 ?_
  dsimp only [bg, Nat.reduceAdd]
  refine ay (ay ?_)
  obtain ⟨qy, qA, qB, qC, qE, qF, qG, qH, oq, mM, mO, mP, mQ, mV, mW, mX, mY, mZ, ng, ni, dI, bM, ig, eH⟩ := (H).D9
  have hput : eY s.here s.put ≤ 16384 := dI.2.2.2.2.1
  have hsp := oK s.here s.put
  have hO : ∀ g ∈ s.here, ∀ x ∈ g, vM x := dI.2.2.2.2.2 s.c.place
  have hPO : ∀ x ∈ oq, vM x.says := fun x hx => dI.2.2.2.1 _ (by rw [← bM]; exact List.mem_map.2 ⟨x, hx, rfl⟩)
  have abt := (eH.f10).Ja
  refine ah (aI rfl (bQ rfl (bC 33 underlying69 rfl sizeOf67 rfl (eu underlying67 rfl (eH).get.2 rfl (aU (eX ((eH.f9).aT) underlying67 rfl) (aU (gU rfl rfl) (aA (aj (aP rfl (fun h1 => ?_) (fun h1 => ?_))))))))))
  · (try simp only [aG] at h1)
    refine aK (aN (gB (.inl rfl) results83 ?_))
    rw [LC (List.eq_nil_of_length_eq_zero (by omega))]
    exact aB.dY dI bM eH.f11.f11.f11.f11.f11.f11.f11.f11.f11.f11.f11
  · (try simp only [aG] at h1)
    have hp : s.put ≠ [] := by rintro hz; rw [hz] at h1; simp at h1
    refine aO (aj (ay (ah (aI rfl (dH rfl func128 (wO eH.f6.f5.f3) ?_)))))
    rintro _ w2 ⟨lp2, rfl, H2⟩
    refine aW rfl (aA (aj (ay (ah (iw (cZ (l := [_]) H2 zeroValue67 rfl) ?_)))))
    rintro _ w3 ⟨b3, rfl, H3⟩
    refine aA (aj (ay (ay ?_)))
    obtain ⟨R4, Yg, HR4⟩ := aB.WT (H3.f2.f2)
    refine ah (aI rfl (aA (aj (aP rfl (fun h2 => ?_) (fun h2 => ?_)))))
    · (try simp only [aG] at h2)
      have hn : on = true := h2
      refine ay (ay (ah (aI rfl (dH rfl func129 (BU HR4.f2) ?_))))
      rintro _ w5 ⟨bG5, rfl, H5⟩
      refine aA (aj (bf ?_))
      obtain ⟨_, _, _, _, k1, _⟩ := (H5.f2).qj
      obtain ⟨hB, hL⟩ := Ri k1
      have HF0 := aB.jP (q := (0 : Nat) = 0) rfl H5
      obtain ⟨R6, YX, ZL⟩ := aB.CV (HF0.f4.f2.f3)
      refine qp rfl (Js bG5 hB hL) (fun j => fact (j = 0) • dh b3 (.cells #[.slice none 0 0] 67 (0, 0)) • R6) (fact False) (fun id => if id = 0 then Nr b3 (s.here.getLastD []) • R6 else fact False) (ZL.f3.f3.f3.f3.f3.f3.comm) (by rfl) ?_ ?_ ?_ ?_
      · rintro l7 j TI vs7 A7 ⟨u1, fs1, Yh, rfl, rfl⟩ G7 w7 H7
        try simp only [bI, ji, nC] at H7
        refine ⟨rfl, ?_⟩
        dsimp only [Jg]
        have HQ := (H7).WB
        obtain rfl : j = 0 := (HQ.f3).fact.1
        have hon := (HQ.f2).Ja
        have hlen1 : fs1.length ≤ 16384 := by
          have h9 := hL _ (uw (d := []) TI)
          rw [← Yh] at h9
          simpa using h9
        refine ah (aW rfl (aA ?_))
        refine GK (HQ.g5) ?_
        intro G8 w8 H8
        try simp only [bI] at H8
        refine bf (ay (ah (aI rfl (dH rfl func130 (Cb H8 (fun W HW => (HW).aT) hon (by omega)) ?_))))
        rintro u9 w9 H9
        refine aJ (aS 0 (l' := [_]) H9.f5 sizeOf67 rfl rfl (by first | rfl | exact Rd.one ((H9).aT)) rfl rfl) ?_
        rintro _ w10 qL
        refine aA (aj (dK ?_))
        refine jZ (by decide) ?_
        refine Qj ?_
        rw [if_pos rfl]
        exact (aB.Rf (Yh.trans (Lu _)) qL.f3.right.f4.right.f3.f3.f3).deep
      · rintro D11 Gq sD
        have PY := sD.ed
        try simp only [bI, ji, nC] at PY
        have Yi := PY.Io
        have hz := (Yi.f3).fact.1
        rw [Ej, List.length_reverse] at hz
        have hg0 : s.here.getLastD [] = [] := by show (s.c.un s.c.place).getLastD [] = []; rw [List.eq_nil_of_length_eq_zero hz]; rfl
        have Lj := Yi.f4
        have Ll := aB.Ua hg0 Lj
        have aan := Ll.f4.right
        subst YX
        subst Yg
        refine aH (aj (ah (aI rfl (dH rfl func131 (xU aan.f4) ?_))))
        rintro _ Sv ⟨u15, ab6, rfl, abu, xE⟩
        have aao := xE.right
        have GH := aao.right
        have Q9 := GH.f4.right
        obtain ⟨h9a, h9b, h9c⟩ := FP (s.c.un s.c.place)
        have HX := Q9
        rw [h9a, h9b, h9c] at HX
        obtain ⟨ov, tN, VX, HO⟩ := (HX.f2).old
        have hF := JC hp hn hO VX
        have hG1 : ∀ g ∈ s.here.dropLast, ∀ x ∈ g, vM x := fun g hg => hO g (List.dropLast_subset _ hg)
        obtain ⟨G1, VY⟩ : ∃ q, q = (s.c.un s.c.place).dropLast := ⟨_, rfl⟩
        rw [show s.here.dropLast = (s.c.un s.c.place).dropLast from rfl] at hF hG1
        have Yj := HO
        rw [← VY] at hF hG1 Yj
        refine aA (aj (ay ?_))
        obtain ⟨hF1, hF2, hF3⟩ := hF
        have hl1 : tN.length ≤ 16384 := by omega
        have hl2 : s.put.length ≤ 16384 := by omega
        refine ah (aI rfl (dH rfl func132 (rJ Yj.f4 (by omega)) ?_))
        rintro _ Sz ⟨rfl, xk⟩
        refine aA (aj (ay (ay ?_)))
        have FN := xk.drew
        have lX := aB.kp (FN.f16.f16.f16.f16.f16.f16.f16.f16.f16.f16.f16.f16.f16.f16.f16.f16)
        refine wo [0, 4] lX rfl (iy 0 rfl lX (fun W hW => iQ underlying67 rfl ((Kp.h hW).f2).get.2 rfl) (gV 1 rfl lX rfl (iZ 2 rfl lX rfl (dV 3 rfl lX 33 underlying69 rfl sizeOf67 rfl (iy 4 rfl lX (fun W hW => iQ underlying67 rfl ((Kp.h hW).f7).get.2 rfl) (gV 7 rfl lX rfl (jr 5 rfl (fP FN.f3 underlying67 (show (prog.info? 202).map (fun i => (i.zero, i.size, i.bytes)) = some (some (.agg #[.int .i64 0, .slice none 0 0, .slice none 0 0]), 3, 56) by kernel_rfl) rfl rfl rfl ((FN.f14).aT) (by assumption) (by omega) (by omega)) ?_)))))))
        rintro XV SA yJ
        have zB := aB.kp (yJ.f16.f16.f16.f16.f16.f16.f16.f16.f16.f16.f16.f16.f16.f16.f16.f16)
        refine dR zB (by kernel_rfl) ?_
        have aap := yJ.f15.f5.f3
        have aaq := aB.G6 ig.symm aap
        obtain ⟨AE, Ns⟩ : ∃ q, q = tN ++ oq := ⟨_, rfl⟩
        have HA := aaq
        rw [← Ns] at HA
        have hAl : AE.length = tN.length + s.put.length := by rw [Ns, List.length_append, ig]
        have hAs : AE.map dw.says = tN.map dw.says ++ s.put := by rw [Ns, List.map_append, bM]
        have Yk : ∀ x ∈ AE, vM x.says := fun x hx => by
          rw [Ns] at hx
          rcases List.mem_append.1 hx with hx | hx
          · exact hF2 x hx
          · exact hPO x hx
        refine iR 6 rfl zB (fun _ => eX ((HA).aT) underlying67 rfl) (nJ (aj (bf ?_)))
        obtain ⟨R23, aar, aas⟩ := aB.CV (HA.f2.f2.f3)
        refine eP [(0, _), (4, _), (32, _), (33, _)] (fun (i : Nat) => [(34, .int .i64 (i : Int))]) (fun (i : Nat) W => i ≤ AE.length ∧ aB w0 W (dX lp2 G1 ((AE.take i).map dw.says) (0 + 1) • Row 202 3 XV AE.length (AE.flatMap dw.enc) • jo AE • R23)) (fun (i : Nat) => AE.length - i) (0) (Sub.cons rfl (Sub.cons rfl (Sub.cons rfl (Sub.cons rfl (Sub.nil _))))) (Sub.cons rfl (Sub.nil _)) ⟨by omega, aas⟩ ?_
        rintro i YP ⟨hi, HL⟩
        dsimp only [List.cons_append, List.nil_append]
        refine ay (ah (aU (dB rfl rfl) (aA (aj (ay (aP rfl (fun h3 => ?_) (fun h3 => ?_)))))))
        · (try simp only [aG] at h3)
          refine aO (aj (ay (bf (ay (ah ?_)))))
          obtain ⟨ab7, ab8, ab9, aat⟩ := Rd.kV ((HL.f2).aT) (by omega)
          cases aat
          refine aU (bY underlying67 sizeOf202 rfl rfl (by omega)) (aU (jf (ys := [_, _, _]) ((HL.f2).aT) (by omega) underlying202 rfl sizeOf202 rfl (kC dw.zf (by omega) default) rfl) ?_)
          have hkl : i < AE.length := by omega
          have hx : vM (AE.getD i default).says := Yk _ (by rw [List.getD_eq_getElem?_getD, List.getElem?_eq_getElem hkl]; exact List.getElem_mem hkl)
          have hx1 : (AE.getD i default).dl.length ≤ 1024 := hx.2.2.1
          have hx2 : (AE.getD i default).il.length ≤ 1024 := hx.2.2.2
          refine iw (cZ (l := [_, _, _]) HL zeroValue202 rfl) ?_
          rintro _ Xi ⟨b25, rfl, IZ⟩
          refine aJ (bG 0 (l' := [_, _, _]) (us := [_, _, _]) IZ sizeOf202 rfl rfl rfl (aC (by first | rfl | assumption) (aC (by first | rfl | exact Rd.one (((IZ.f4).kJ hkl).1)) (aC (by first | rfl | exact Rd.one (((IZ.f4).kJ hkl).2)) bn))) rfl rfl) ?_
          rintro _ YQ MI
          refine aA (aj (ah (aI rfl (aU (bV underlying202 rfl sizeOf202 rfl rfl (MI).get.2) (dH rfl func133 (vG MI.f2 (fun W HW => ((HW.f3).kJ hkl).1) (fun W HW => ((HW.f3).kJ hkl).2) (by omega) (by omega)) ?_)))))
          rintro _ YR ⟨rfl, Ih⟩
          have hadd : nS G1 ((AE.take i).map dw.says) (AE.getD i default).a (AE.getD i default).dl (AE.getD i default).il = 0 := by
            have hx3 : 0 < (AE.getD i default).dl.length + (AE.getD i default).il.length := hx.2.1
            have hx4 : 0 ≤ (AE.getD i default).a := hx.1
            have hx5 := oK G1 ((AE.take i).map dw.says)
            rw [List.length_map, List.length_take] at hx5
            unfold nS
            rw [if_neg (by omega), if_neg (by omega)]
          have HA2 := Ih
          rw [CJ hadd (by decide), CO hadd (by decide)] at HA2
          refine aA (aH (aj (ah (aU (dG rfl rfl (by omega)) (aI rfl (aA ?_))))))
          refine cO (i + 1) ?_ ?_ ?_ ?_
          · exact (Sub.cons rfl (Sub.nil _))
          · exact (Sub.cons rfl (Sub.cons rfl (Sub.cons rfl (Sub.cons rfl (Sub.nil _)))))
          · (try dsimp only)
            first | done | exact ⟨by omega, by rw [Au hkl]; exact HA2.f2.right.f3.f3.f3⟩
          · (try dsimp only); omega
        · (try simp only [aG] at h3)
          refine dK (aV ?_)
          have hil : i = AE.length := by omega
          have HB := HL
          rw [hil, List.take_length] at HB
          subst aar
          refine aV (bD (aj (ay (ah (aI rfl (dH rfl func134 (vI HB) ?_))))))
          rintro _ YS ⟨rfl, SC⟩
          obtain ⟨Yl, Ym, Yn⟩ := He G1 (AE.map dw.says)
          have HC := SC
          rw [Yl, Ym, Yn, hAs, mg (by intro hz; exact hp (List.append_eq_nil_iff.1 hz).2), ← hF3] at HC
          have VP := HC.f6
          have VQ := aB.uM VP
          refine aA (aj (ah (aI rfl (bQ rfl (bC 33 underlying69 rfl sizeOf67 rfl (aJ (aS 33 (l' := [_, _, _, _, _, _, _, _, _, _, _, _, _, _, _, _, _, _, _, _, _, _, _, _, _, _, _, _, _, _, _, _, _, _]) VQ.f6 sizeOf67 rfl rfl (by first | rfl | assumption) rfl rfl) ?_))))))
          rintro _ Wv J8
          refine aA ?_
          refine yQ (.inr rfl) (J8.f6) (fun w32 EI => ?_)
          refine ⟨_, Vd results83, ?_⟩
          rw [kS hp]
          exact aB.Ee (s := { s.nU (s.jS on) with put := [] }) (kS hp ▸ Em dI ⟨hF1, hF2, hF3⟩ hp hG1) rfl EI.f3.right.f3.right.f3.right.f9.right.f9.f9.f9.f5.f9.f7.f9.f9.f9
      · rintro D w H; exact absurd H.swap.fact.1 id
      · rintro id D33 YU KL
        refine Decidable.byCases (fun hid : id = 0 => ?_) (fun hid => by rw [if_neg hid] at KL; exact absurd KL.swap.fact.1 fun h => h)
        subst hid
        rw [if_pos rfl] at KL
        have Yo := KL.ed
        try simp only [bI, ji, nC] at Yo
        have aau := Yo.Io
        subst YX
        subst Yg
        refine bD (aj (ah (aI rfl (dH rfl func131 (xU aau.f4) ?_))))
        rintro _ Y0 ⟨u34, aca, rfl, abv, Nh⟩
        have aav := Nh.right
        have aaw := aav.right
        have VZ := aaw.f3.right
        obtain ⟨h9a, h9b, h9c⟩ := FP (s.c.un s.c.place)
        have HX := VZ
        rw [h9a, h9b, h9c] at HX
        obtain ⟨ov, tN, VX, HO⟩ := (HX.f3).old
        have hF := JC hp hn hO VX
        have hG1 : ∀ g ∈ s.here.dropLast, ∀ x ∈ g, vM x := fun g hg => hO g (List.dropLast_subset _ hg)
        obtain ⟨G1, VY⟩ : ∃ q, q = (s.c.un s.c.place).dropLast := ⟨_, rfl⟩
        rw [show s.here.dropLast = (s.c.un s.c.place).dropLast from rfl] at hF hG1
        have Yj := HO
        rw [← VY] at hF hG1 Yj
        refine aA (aj (ay ?_))
        obtain ⟨hF1, hF2, hF3⟩ := hF
        have hl1 : tN.length ≤ 16384 := by omega
        have hl2 : s.put.length ≤ 16384 := by omega
        refine ah (aI rfl (dH rfl func132 (rJ Yj.f4 (by omega)) ?_))
        rintro _ Y1 ⟨rfl, Lm⟩
        refine aA (aj (ay (ay ?_)))
        have Rk := Lm.drew
        have yF := aB.kp (Rk.f16.f16.f16.f16.f16.f16.f16.f16.f16.f16.f16.f16.f16.f16.f16.f16)
        refine wo [0, 4] yF rfl (iy 0 rfl yF (fun W hW => iQ underlying67 rfl ((Kp.h hW).f2).get.2 rfl) (gV 1 rfl yF rfl (iZ 2 rfl yF rfl (dV 3 rfl yF 33 underlying69 rfl sizeOf67 rfl (iy 4 rfl yF (fun W hW => iQ underlying67 rfl ((Kp.h hW).f7).get.2 rfl) (gV 7 rfl yF rfl (jr 5 rfl (fP Rk.f3 underlying67 (show (prog.info? 202).map (fun i => (i.zero, i.size, i.bytes)) = some (some (.agg #[.int .i64 0, .slice none 0 0, .slice none 0 0]), 3, 56) by kernel_rfl) rfl rfl rfl ((Rk.f14).aT) (by assumption) (by omega) (by omega)) ?_)))))))
        rintro l39 w39 H39
        have JD := aB.kp (H39.f16.f16.f16.f16.f16.f16.f16.f16.f16.f16.f16.f16.f16.f16.f16.f16)
        refine dR JD (by kernel_rfl) ?_
        have V3 := H39.f15.f5.f3
        have JE := aB.G6 ig.symm V3
        obtain ⟨AE, Ns⟩ : ∃ q, q = tN ++ oq := ⟨_, rfl⟩
        have HA := JE
        rw [← Ns] at HA
        have hAl : AE.length = tN.length + s.put.length := by rw [Ns, List.length_append, ig]
        have hAs : AE.map dw.says = tN.map dw.says ++ s.put := by rw [Ns, List.map_append, bM]
        have Yk : ∀ x ∈ AE, vM x.says := fun x hx => by
          rw [Ns] at hx
          rcases List.mem_append.1 hx with hx | hx
          · exact hF2 x hx
          · exact hPO x hx
        refine iR 6 rfl JD (fun _ => eX ((HA).aT) underlying67 rfl) (nJ (aj (bf ?_)))
        obtain ⟨R42, aax, aay⟩ := aB.CV (HA.f2.f2.f3)
        refine eP [(0, _), (4, _), (32, _), (33, _)] (fun (i : Nat) => [(34, .int .i64 (i : Int))]) (fun (i : Nat) W => i ≤ AE.length ∧ aB w0 W (dX lp2 G1 ((AE.take i).map dw.says) (0 + 1) • Row 202 3 l39 AE.length (AE.flatMap dw.enc) • jo AE • R42)) (fun (i : Nat) => AE.length - i) (0) (Sub.cons rfl (Sub.cons rfl (Sub.cons rfl (Sub.cons rfl (Sub.nil _))))) (Sub.cons rfl (Sub.nil _)) ⟨by omega, aay⟩ ?_
        rintro i Y2 ⟨hi, HL⟩
        dsimp only [List.cons_append, List.nil_append]
        refine ay (ah (aU (dB rfl rfl) (aA (aj (ay (aP rfl (fun h4 => ?_) (fun h4 => ?_)))))))
        · (try simp only [aG] at h4)
          refine aO (aj (ay (bf (ay (ah ?_)))))
          obtain ⟨acb, acd, ace, aaz⟩ := Rd.kV ((HL.f2).aT) (by omega)
          cases aaz
          refine aU (bY underlying67 sizeOf202 rfl rfl (by omega)) (aU (jf (ys := [_, _, _]) ((HL.f2).aT) (by omega) underlying202 rfl sizeOf202 rfl (kC dw.zf (by omega) default) rfl) ?_)
          have hkl : i < AE.length := by omega
          have hx : vM (AE.getD i default).says := Yk _ (by rw [List.getD_eq_getElem?_getD, List.getElem?_eq_getElem hkl]; exact List.getElem_mem hkl)
          have hx1 : (AE.getD i default).dl.length ≤ 1024 := hx.2.2.1
          have hx2 : (AE.getD i default).il.length ≤ 1024 := hx.2.2.2
          refine iw (cZ (l := [_, _, _]) HL zeroValue202 rfl) ?_
          rintro _ w44 ⟨b44, rfl, UY⟩
          refine aJ (bG 0 (l' := [_, _, _]) (us := [_, _, _]) UY sizeOf202 rfl rfl rfl (aC (by first | rfl | assumption) (aC (by first | rfl | exact Rd.one (((UY.f4).kJ hkl).1)) (aC (by first | rfl | exact Rd.one (((UY.f4).kJ hkl).2)) bn))) rfl rfl) ?_
          rintro _ Y3 J9
          refine aA (aj (ah (aI rfl (aU (bV underlying202 rfl sizeOf202 rfl rfl (J9).get.2) (dH rfl func133 (vG J9.f2 (fun W HW => ((HW.f3).kJ hkl).1) (fun W HW => ((HW.f3).kJ hkl).2) (by omega) (by omega)) ?_)))))
          rintro _ w46 ⟨rfl, H46⟩
          have hadd : nS G1 ((AE.take i).map dw.says) (AE.getD i default).a (AE.getD i default).dl (AE.getD i default).il = 0 := by
            have hx3 : 0 < (AE.getD i default).dl.length + (AE.getD i default).il.length := hx.2.1
            have hx4 : 0 ≤ (AE.getD i default).a := hx.1
            have hx5 := oK G1 ((AE.take i).map dw.says)
            rw [List.length_map, List.length_take] at hx5
            unfold nS
            rw [if_neg (by omega), if_neg (by omega)]
          have HA2 := H46
          rw [CJ hadd (by decide), CO hadd (by decide)] at HA2
          refine aA (aH (aj (ah (aU (dG rfl rfl (by omega)) (aI rfl (aA ?_))))))
          refine cO (i + 1) ?_ ?_ ?_ ?_
          · exact (Sub.cons rfl (Sub.nil _))
          · exact (Sub.cons rfl (Sub.cons rfl (Sub.cons rfl (Sub.cons rfl (Sub.nil _)))))
          · (try dsimp only)
            first | done | exact ⟨by omega, by rw [Au hkl]; exact HA2.f2.right.f3.f3.f3⟩
          · (try dsimp only); omega
        · (try simp only [aG] at h4)
          refine dK (aV ?_)
          have hil : i = AE.length := by omega
          have HB := HL
          rw [hil, List.take_length] at HB
          subst aax
          refine aV (bD (aj (ay (ah (aI rfl (dH rfl func134 (vI HB) ?_))))))
          rintro _ w47 ⟨rfl, V4⟩
          obtain ⟨Yl, Ym, Yn⟩ := He G1 (AE.map dw.says)
          have HC := V4
          rw [Yl, Ym, Yn, hAs, mg (by intro hz; exact hp (List.append_eq_nil_iff.1 hz).2), ← hF3] at HC
          have aaA := HC.f6
          have aaB := aB.uM aaA
          refine aA (aj (ah (aI rfl (bQ rfl (bC 33 underlying69 rfl sizeOf67 rfl (aJ (aS 33 (l' := [_, _, _, _, _, _, _, _, _, _, _, _, _, _, _, _, _, _, _, _, _, _, _, _, _, _, _, _, _, _, _, _, _, _]) aaB.f6 sizeOf67 rfl rfl (by first | rfl | assumption) rfl rfl) ?_))))))
          rintro _ w50 WG
          refine aA ?_
          refine yQ (.inr rfl) (WG.f6) (fun w51 VR => ?_)
          refine ⟨_, Vd results83, ?_⟩
          rw [kS hp]
          exact aB.Ee (s := { s.nU (s.jS on) with put := [] }) (kS hp ▸ Em dI ⟨hF1, hF2, hF3⟩ hp hG1) rfl VR.f3.right.f3.right.f3.right.f9.right.f9.f9.f9.f5.f9.f7.f9.f9.f9
    · (try simp only [aG] at h2)
      have hn : on = false := h2
      obtain ⟨ov, tN, G1, hF, hG1, HF⟩ : ∃ ov tN G1, Rh s on tN G1 ∧ (∀ g ∈ G1, ∀ x ∈ g, vM x) ∧ aB w0 w3 (dh b3 (.cells #[ov] 67 (0, 0)) • Row 202 3 ov tN.length (tN.flatMap dw.enc) • jo tN • dX lp2 G1 [] 0 • R4) :=
        ⟨.slice none 0 0, [], s.here, OC hp hn, hO, (aB.oU HR4.f2.f2 none).of_eq (by unfold EO; ac_rfl)⟩
      subst Yg
      refine aO (aj (ay ?_))
      obtain ⟨hF1, hF2, hF3⟩ := hF
      have hl1 : tN.length ≤ 16384 := by omega
      have hl2 : s.put.length ≤ 16384 := by omega
      refine ah (aI rfl (dH rfl func132 (rJ HF.f4 (by omega)) ?_))
      rintro _ w52 ⟨rfl, U0⟩
      refine aA (aj (ay (ay ?_)))
      have Rl := U0.drew
      have yG := aB.kp (Rl.f15.f15.f15.f15.f15.f15.f15.f15.f15.f15.f15.f15.f15.f15.f15)
      refine wo [0, 4] yG rfl (iy 0 rfl yG (fun W hW => iQ underlying67 rfl ((Kp.h hW).f2).get.2 rfl) (gV 1 rfl yG rfl (iZ 2 rfl yG rfl (dV 3 rfl yG 33 underlying69 rfl sizeOf67 rfl (iy 4 rfl yG (fun W hW => iQ underlying67 rfl ((Kp.h hW).f6).get.2 rfl) (gV 7 rfl yG rfl (jr 5 rfl (fP Rl.f3 underlying67 (show (prog.info? 202).map (fun i => (i.zero, i.size, i.bytes)) = some (some (.agg #[.int .i64 0, .slice none 0 0, .slice none 0 0]), 3, 56) by kernel_rfl) rfl rfl rfl ((Rl.f13).aT) (by assumption) (by omega) (by omega)) ?_)))))))
      rintro l53 w53 WH
      have U4 := aB.kp (WH.f15.f15.f15.f15.f15.f15.f15.f15.f15.f15.f15.f15.f15.f15.f15)
      refine dR U4 (by kernel_rfl) ?_
      have aaC := WH.f14.f5.f3
      have aaD := aB.G6 ig.symm aaC
      obtain ⟨AE, Ns⟩ : ∃ q, q = tN ++ oq := ⟨_, rfl⟩
      have HA := aaD
      rw [← Ns] at HA
      have hAl : AE.length = tN.length + s.put.length := by rw [Ns, List.length_append, ig]
      have hAs : AE.map dw.says = tN.map dw.says ++ s.put := by rw [Ns, List.map_append, bM]
      have Yk : ∀ x ∈ AE, vM x.says := fun x hx => by
        rw [Ns] at hx
        rcases List.mem_append.1 hx with hx | hx
        · exact hF2 x hx
        · exact hPO x hx
      refine iR 6 rfl U4 (fun _ => eX ((HA).aT) underlying67 rfl) (nJ (aj (bf ?_)))
      obtain ⟨R56, aaE, aaF⟩ := aB.CV (HA.f2.f2.f3)
      refine eP [(0, _), (4, _), (32, _), (33, _)] (fun (i : Nat) => [(34, .int .i64 (i : Int))]) (fun (i : Nat) W => i ≤ AE.length ∧ aB w0 W (dX lp2 G1 ((AE.take i).map dw.says) (0 + 1) • Row 202 3 l53 AE.length (AE.flatMap dw.enc) • jo AE • R56)) (fun (i : Nat) => AE.length - i) (0) (Sub.cons rfl (Sub.cons rfl (Sub.cons rfl (Sub.cons rfl (Sub.nil _))))) (Sub.cons rfl (Sub.nil _)) ⟨by omega, aaF⟩ ?_
      rintro i w57 ⟨hi, HL⟩
      dsimp only [List.cons_append, List.nil_append]
      refine ay (ah (aU (dB rfl rfl) (aA (aj (ay (aP rfl (fun h5 => ?_) (fun h5 => ?_)))))))
      · (try simp only [aG] at h5)
        refine aO (aj (ay (bf (ay (ah ?_)))))
        obtain ⟨acf, acg, ach, aaG⟩ := Rd.kV ((HL.f2).aT) (by omega)
        cases aaG
        refine aU (bY underlying67 sizeOf202 rfl rfl (by omega)) (aU (jf (ys := [_, _, _]) ((HL.f2).aT) (by omega) underlying202 rfl sizeOf202 rfl (kC dw.zf (by omega) default) rfl) ?_)
        have hkl : i < AE.length := by omega
        have hx : vM (AE.getD i default).says := Yk _ (by rw [List.getD_eq_getElem?_getD, List.getElem?_eq_getElem hkl]; exact List.getElem_mem hkl)
        have hx1 : (AE.getD i default).dl.length ≤ 1024 := hx.2.2.1
        have hx2 : (AE.getD i default).il.length ≤ 1024 := hx.2.2.2
        refine iw (cZ (l := [_, _, _]) HL zeroValue202 rfl) ?_
        rintro _ w58 ⟨b58, rfl, TV⟩
        refine aJ (bG 0 (l' := [_, _, _]) (us := [_, _, _]) TV sizeOf202 rfl rfl rfl (aC (by first | rfl | assumption) (aC (by first | rfl | exact Rd.one (((TV.f4).kJ hkl).1)) (aC (by first | rfl | exact Rd.one (((TV.f4).kJ hkl).2)) bn))) rfl rfl) ?_
        rintro _ w59 X6
        refine aA (aj (ah (aI rfl (aU (bV underlying202 rfl sizeOf202 rfl rfl (X6).get.2) (dH rfl func133 (vG X6.f2 (fun W HW => ((HW.f3).kJ hkl).1) (fun W HW => ((HW.f3).kJ hkl).2) (by omega) (by omega)) ?_)))))
        rintro _ w60 ⟨rfl, WI⟩
        have hadd : nS G1 ((AE.take i).map dw.says) (AE.getD i default).a (AE.getD i default).dl (AE.getD i default).il = 0 := by
          have hx3 : 0 < (AE.getD i default).dl.length + (AE.getD i default).il.length := hx.2.1
          have hx4 : 0 ≤ (AE.getD i default).a := hx.1
          have hx5 := oK G1 ((AE.take i).map dw.says)
          rw [List.length_map, List.length_take] at hx5
          unfold nS
          rw [if_neg (by omega), if_neg (by omega)]
        have HA2 := WI
        rw [CJ hadd (by decide), CO hadd (by decide)] at HA2
        refine aA (aH (aj (ah (aU (dG rfl rfl (by omega)) (aI rfl (aA ?_))))))
        refine cO (i + 1) ?_ ?_ ?_ ?_
        · exact (Sub.cons rfl (Sub.nil _))
        · exact (Sub.cons rfl (Sub.cons rfl (Sub.cons rfl (Sub.cons rfl (Sub.nil _)))))
        · (try dsimp only)
          first | done | exact ⟨by omega, by rw [Au hkl]; exact HA2.f2.right.f3.f3.f3⟩
        · (try dsimp only); omega
      · (try simp only [aG] at h5)
        refine dK (aV ?_)
        have hil : i = AE.length := by omega
        have HB := HL
        rw [hil, List.take_length] at HB
        subst aaE
        refine aV (bD (aj (ay (ah (aI rfl (dH rfl func134 (vI HB) ?_))))))
        rintro _ w61 ⟨rfl, Y6⟩
        obtain ⟨Yl, Ym, Yn⟩ := He G1 (AE.map dw.says)
        have HC := Y6
        rw [Yl, Ym, Yn, hAs, mg (by intro hz; exact hp (List.append_eq_nil_iff.1 hz).2), ← hF3] at HC
        have aaH := HC.f5
        have aaI := aB.uM aaH
        refine aA (aj (ah (aI rfl (bQ rfl (bC 33 underlying69 rfl sizeOf67 rfl (aJ (aS 33 (l' := [_, _, _, _, _, _, _, _, _, _, _, _, _, _, _, _, _, _, _, _, _, _, _, _, _, _, _, _, _, _, _, _, _, _]) aaI.f5 sizeOf67 rfl rfl (by first | rfl | assumption) rfl rfl) ?_))))))
        rintro _ w64 Yb
        refine aA (gB (.inr rfl) results83 ?_)
        rw [kS hp]
        exact aB.Ee (s := { s.nU (s.jS on) with put := [] }) (kS hp ▸ Em dI ⟨hF1, hF2, hF3⟩ hp hG1) rfl Yb.f3.right.f3.right.f3.right.f9.right.f9.f9.f9.f5.f9.f7.f9.f9.f9
end
end Go.Proofs.YtddekefihgejoaaGreatDoor
end
