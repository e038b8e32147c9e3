import Derived.Test.YtgmpclifphbjkaaGreatDoorZ2
import Derived.Test.YtgmpclifphbjkaaGreatDoorZ13
set_option linter.unusedSimpArgs false
set_option linter.unusedVariables false
/- Texts of mine, joined, their names in short: EdR EdK. -/
section
namespace Go.Proofs.YtgmpclifphbjkaaGreatDoor
open Go.RowKit
open _root_.Go.Proofs.Tryz
theorem qy {L : List Int} {i j : Int} {l : List Int} (h : iM L i j l ≠ 0) : jg L i j l = [] ∧ jh L i j l = [] := by unfold jg jh; rw [if_neg h, if_neg h]; exact ⟨rfl, rfl⟩
theorem VA {L : List Int} {i j : Int} {l : List Int} (hL : L.length ≤ 1024) (h : 0 < (jg L i j l).length + (jh L i j l).length) : wP (mX L i j l, jg L i j l, jh L i j l) := by
  by_cases h0 : iM L i j l = 0
  · refine ⟨?_, h, ?_, ?_⟩
    · show 0 ≤ mX L i j l
      unfold mX; rw [if_pos h0]
      unfold iM at h0
      split at h0
      · cases h0
      · omega
    · show (jg L i j l).length ≤ 1024
      unfold jg; rw [if_pos h0]
      simp only [List.length_take, List.length_drop]; omega
    · show (jh L i j l).length ≤ 1024
      unfold jh; rw [if_pos h0]
      unfold iM at h0
      split at h0
      · cases h0
      · split at h0
        · cases h0
        · omega
  · rw [(qy h0).1, (qy h0).2] at h
    simp at h
theorem TJ {L : List Int} {i j : Int} {l : List Int} (hL : L.length ≤ 1024) : (jg L i j l).length ≤ 1024 ∧ (jh L i j l).length ≤ 1024 := by
  by_cases h0 : iM L i j l = 0
  · refine ⟨?_, ?_⟩
    · unfold jg; rw [if_pos h0]
      simp only [List.length_take, List.length_drop]; omega
    · unfold jh; rw [if_pos h0]
      unfold iM at h0
      split at h0
      · cases h0
      · split at h0
        · cases h0
        · omega
  · rw [(qy h0).1, (qy h0).2]; simp
theorem Bj {s : aY} {x : eH} (h : x.2.1.length + x.2.2.length = 0) : s.jZ x = s := by unfold aY.jZ; rw [if_pos h]
theorem Cb {s : aY} {x : eH} (h : 0 < x.2.1.length + x.2.2.length) (k : ¬ 16384 ≤ dX s.here s.put) : s.jZ x = { s with put := s.put ++ [x] } := by unfold aY.jZ; rw [if_neg (by omega), if_neg k]
theorem Cc {s : aY} {x : eH} (h : 0 < x.2.1.length + x.2.2.length) (k : 16384 ≤ dX s.here s.put) : s.jZ x = { s.iY [] with put := [x], c := { (s.iY []).c with run := false } } := by unfold aY.jZ; rw [if_neg (by omega), if_pos k]
theorem qA (G : List (List eH)) (N : List eH) : dX G N = dX G [] + N.length := by unfold dX; simp
theorem O5 {s : aY} {x : eH} (h : lg s) (hx : 0 < x.2.1.length + x.2.2.length → wP x) : lg (s.jZ x) := by
  by_cases h0 : x.2.1.length + x.2.2.length = 0
  · rw [Bj h0]; exact h
  · have hx' := hx (by omega)
    obtain ⟨h1, h2, h3, h4, h5, h6⟩ := h
    by_cases hf : 16384 ≤ dX s.here s.put
    · rw [Cc (by omega) hf]
      refine ⟨h1, h2, h3, fun e he => by rw [List.mem_singleton.1 he]; exact hx', ?_, ?_⟩
      · show dX (qY s.c.un s.c.place [] s.c.place) [x] ≤ 16384
        rw [eX]; simp [dX]
      · intro k g hg
        have hg' : g ∈ qY s.c.un s.c.place [] k := hg
        by_cases hk : k = s.c.place
        · subst hk; rw [eX] at hg'; cases hg'
        · rw [qZ _ _ hk] at hg'; exact h6 k g hg'
    · rw [Cb (by omega) hf]
      refine ⟨h1, h2, h3, fun e he => ?_, ?_, h6⟩
      · rcases List.mem_append.1 he with he | he
        · exact h4 e he
        · rw [List.mem_singleton.1 he]; exact hx'
      · show dX s.here (s.put ++ [x]) ≤ 16384
        rw [I9]; omega
section
variable {w0 w : World} {F : HP} {e p h pr : Nat} {s : aY} {i j x : Int} {b : Bool} {v : Value} {l : List Int}
theorem kP (H : aB w0 w (dD e s • F)) (hr : iU w0 F .i32 v l) : fQ prog 47 #[.pointer (some ⟨e, 0, none⟩), .int .i64 i, .int .i64 j, v] w fun v' w' => v' = .int .i64 (s.jE i j l) ∧ aB w0 w' (dD e (s.eY i j l) • F) := by
 refine gX func47 ntmps47 ?_
 dsimp only [bg, Nat.reduceAdd]
 refine ay (ah (aV rfl (aA (aj (ay (ay (ah (aO rfl (dw rfl func51 (gJ H) ?_)))))))))
 rintro _ _ ⟨rfl, rfl⟩
 refine aV rfl (aA (aj (ay (ah (aO rfl (aU (bZ rfl rfl) (aA (aj (aH rfl (fun h1 => ?_) (fun h1 => ?_))))))))))
 ·(try simp only [aG] at h1)
  obtain ⟨hin, hpe⟩ := nZ h1
  refine ay (ah (aO rfl (aV rfl (aA (aj (aJ (aK (aP (.inl rfl) results47 rfl ?_))))))))
  rw [hpe]
  exact ⟨by simp [aY.jE, aY.eY, hin], by rw [show s.eY i j l = s from by simp [aY.jE, aY.eY, hin]]; exact H⟩
 ·(try simp only [aG] at h1)
  have hin := lq h1
  refine aS (aj (ay ?_))
  obtain ⟨nD, nN, nO, oG, nP, nR, nS, nT, mG, lu, lC, lD, lF, lG, lH, lI, lJ, lK, lM, lN, cZ, bC, gG, dn⟩ := (H).Ak
  have hL : s.c.L.length ≤ 1024 := by obtain ⟨a, c, xs, f, t, h1, h2, h3, h4, h5, h6, h7, hc1, hc2, hl, H1⟩ := (dn.f2).buf; exact h4
  have hE : s.jE i j l = iM s.c.L i j l := by unfold aY.jE; rw [if_pos hin]
  have hS : s.eY i j l = (s.jm (iR s.c.L i j l) (mW s.c.L s.c.pt i j l) (nK s.c.L s.c.mark i j l)).jZ (mX s.c.L i j l, jg s.c.L i j l, jh s.c.L i j l) := by unfold aY.eY; rw [if_pos hin]
  have hln := TJ (i := i) (j := j) (l := l) hL
  have hput : dX s.here s.put ≤ 16384 := cZ.2.2.2.2.1
  have hsp : dX s.here s.put = dX (s.c.un s.c.place) [] + s.put.length := qA _ _
  have hok := VA (i := i) (j := j) (l := l) hL
  have hno := qy (L := s.c.L) (i := i) (j := j) (l := l)
  refine ah (aO rfl (bH rfl (aZ 0 underlying66 rfl sizeOf62 rfl (aZ 0 underlying62 rfl sizeOf57 rfl (cO underlying57 rfl (dn).get.2 rfl (aO rfl (aO rfl (aO rfl (dw rfl func113 (xq dn.f2 (fun W HW => hr _ (HW.right.right.right.right.right.right.right.right.right.right))) ?_)))))))))
  rintro _ w3 ⟨d3, s3, rfl, H3⟩
  refine aO rfl (nX rfl rfl (nX rfl rfl (iy (dI (l := [_, _, _]) H3 zeroValue120 rfl) ?_)))
  rintro _ w4 ⟨b4, rfl, H4⟩
  refine aI (bJ 0 (l' := [_, _, _]) (us := [_, _, _]) H4 sizeOf120 rfl rfl rfl (aC (by first | rfl | assumption) (aC (by first | rfl | exact Rd.one ((H4.f2).aT)) (aC (by first | rfl | exact Rd.one ((H4.f3).aT)) bn))) rfl rfl) ?_
  rintro _ w5 H5
  refine aV rfl (aA (aj (ay (ay (ah (aO rfl (aU (dW rfl rfl) (jo rfl (fun h2 => ?_) (fun h2 => ?_)))))))))
  ·(try simp only [aG] at h2)
   refine bD (aZ 1 underlying120 rfl sizeOf22 rfl (bD (cO underlying22 rfl (H5).get.2 rfl (bD (aU (oz ((H5.f2).aT) underlying22 rfl) (bD (aZ 2 underlying120 rfl sizeOf22 rfl (bD (cO underlying22 rfl (H5).get.2 rfl (bD (aU (oz ((H5.f3).aT) underlying22 rfl) (bD (aU (eP rfl rfl (by omega)) (bD (aU (dQ rfl rfl) (jO rfl rfl (aA (aj (aH rfl (fun h3 => ?_) (fun h3 => ?_))))))))))))))))))))
   ·(try simp only [aG] at h3)
    have hlen : 0 < (jg s.c.L i j l).length + (jh s.c.L i j l).length := by omega
    refine ay (ay ?_)
    have XU := H5.drew
    have Fb := aB.kp (XU.f9.right.f13.f13.f13.f13.f13.f13.f13.f13.f13.f13.f13.f13.f13)
    refine uH [6] Fb rfl (fU 0 rfl Fb rfl (fU 3 rfl Fb rfl (iT 4 rfl Fb rfl (dP 5 rfl Fb 33 underlying66 rfl sizeOf64 rfl (gQ 6 rfl Fb (fun W hW => iI underlying64 rfl ((Kp.h hW).f5).get.2 rfl) (iJ 7 rfl Fb (fun _ => fB ((XU.f12).aT) underlying64 rfl) (jH 1 rfl (rU rfl func57 (uw XU.f9.f8.f7)) ?_)))))))
    rintro _ w6 ⟨lp6, rfl, H6⟩
    have vG := aB.kp (H6.right.f14.f14.f14.f14.f14.f14.f14.f14.f14.f14.f14.f14.f14.f14)
    refine bW vG (fun W hW => (Kp.h hW).right.f13.f13.f13.f13.f13.f13.f8.f13.f9.f13.f13.f13.f13) ?_
    refine jH 2 rfl (rU rfl func114 (Ey H6)) ?_
    rintro _ w7 ⟨rfl, H7⟩
    have vO := aB.kp (H7.f15.f15.f15.f15.f15.f15.f15.f15.f15.f15.f15.f15.f15.f15.f15)
    refine bW vO (fun W hW => (Kp.h hW).right.f14.f14.f14.f14.f14.f14.f14.f14.f14.f14.f14.f14.f14.f14) ?_
    refine iJ 8 rfl vO (fun _ => eP rfl rfl (by omega)) (iJ 9 rfl vO (fun _ => D7 rfl rfl) ?_)
    have XV := H7.f2
    have UR := aB.Jl XV
    refine mg (aj (aH rfl (fun h4 => ?_) (fun h4 => ?_)))
    ·(try simp only [aG] at h4)
     have KY : 16384 ≤ dX (s.jm (iR s.c.L i j l) (mW s.c.L s.c.pt i j l) (nK s.c.L s.c.mark i j l)).here (s.jm (iR s.c.L i j l) (mW s.c.L s.c.pt i j l) (nK s.c.L s.c.mark i j l)).put := by show 16384 ≤ dX s.here s.put; omega
     refine ay (ah (aO rfl (dw rfl func57 (uw UR.f3.f3) ?_)))
     rintro _ w10 ⟨ach, rfl, oP⟩
     refine dw rfl func115 (EK oP) ?_
     rintro _ FT uV
     have NK := uV.f2
     have NM := aB.sN NK
     refine aA (aj (ah (aO rfl (aO rfl (bH rfl (aZ 33 underlying66 rfl sizeOf64 rfl (aI (aN 33 (l' := [_, _, _, _, _, _, _, _, _, _, _, _, _, _, _, _, _, _, _, _, _, _, _, _, _, _, _, _, _, _, _, _, _, _]) NM.f2 sizeOf64 rfl rfl (by first | rfl | assumption) rfl rfl) ?_)))))))
     rintro _ JE uX
     refine bH rfl (aZ 0 underlying66 rfl sizeOf62 rfl (aZ 10 underlying62 rfl sizeOf4 rfl (aI (aN 10 (l' := [_, _, _, _, _, _, _, _, _, _, _, _, _, _, _, _, _, _, _, _, _, _, _, _, _, _, _, _, _, _, _, _, _, _]) uX sizeOf4 rfl rfl (by first | rfl | assumption) rfl rfl) ?_)))
     rintro _ P8 yQ
     refine aA (aj ?_)
     have WE := yQ.drew
     have zZ := aB.kp (WE.f14.f14.f14.f14.f14.f14.f14.f14.f14.f14.f14.f14.f14.f14)
     refine uH [4, 5] zZ rfl (fU 0 rfl zZ rfl (fU 1 rfl zZ rfl (iT 2 rfl zZ rfl (dP 3 rfl zZ 33 underlying66 rfl sizeOf64 rfl (gQ 4 rfl zZ (fun W hW => iI underlying64 rfl ((Kp.h hW)).get.2 rfl) (gQ 5 rfl zZ (fun W hW => bU underlying120 rfl sizeOf120 rfl rfl ((Kp.h hW).f4).get.2) (jH 6 rfl (oL WE underlying64 sizeOf120 zeroValue120 rfl rfl rfl (by decide) (by decide)) ?_)))))))
     rintro l16 w16 qH
     have AZ := aB.kp (qH.f15.f15.f15.f15.f15.f15.f15.f15.f15.f15.f15.f15.f15.f15.f15)
     refine bW AZ (fun W hW => (Kp.h hW).right.f14.f14.f14.f14.f14.f14.f14.f14.f14.f14.f14.f14.f14.f14) ?_
     refine jH 7 rfl (fK (qH.fZ none) underlying64 (show (prog.info? 120).map (fun i => (i.zero, i.size, i.bytes)) = some (some (.agg #[.int .i64 0, .slice none 0 0, .slice none 0 0]), 3, 56) by kernel_rfl) rfl rfl rfl ((qH).aT) (aC (by first | rfl | assumption) (aC (by first | rfl | exact Rd.one ((qH.f6).aT)) (aC (by first | rfl | exact Rd.one ((qH.f7).aT)) bn))) (by omega) (by omega)) ?_
     rintro l17 UN Aj
     have TK := Aj.f2.right
     have EG := aB.kp (TK.f15.f15.f15.f15.f15.f15.f15.f15.f15.f15.f15.f15.f15.f15.f15)
     refine fA EG (by kernel_rfl) ?_
     refine iT 8 rfl EG rfl (dP 9 rfl EG 33 underlying66 rfl sizeOf64 rfl ?_)
     refine dB 10 rfl (by kernel_rfl) (aN 33 (l' := [_, _, _, _, _, _, _, _, _, _, _, _, _, _, _, _, _, _, _, _, _, _, _, _, _, _, _, _, _, _, _, _, _, _]) TK.f2 sizeOf64 rfl rfl (by first | rfl | exact Rd.one ((TK).aT)) rfl rfl) ?_
     rintro _ UQ xk
     have KI := aB.kp (xk.f15.f15.f15.f15.f15.f15.f15.f15.f15.f15.f15.f15.f15.f15.f15)
     refine fA KI (by kernel_rfl) ?_
     refine mg (aj (ay (ah (aO rfl (aV rfl (aA (aj (aJ (aP (.inl rfl) results47 rfl ?_)))))))))
     have X := (xk.f5.right.f12.right.f12.right.f12.f12.f12.f6.f12.f8.f12.f12.f9.f10.f12.f12).kT.swap.kT.swap
     have X2 := aB.vP (es := []) X.Ew.f3.f3.f4
     exact ⟨by rw [hE]; rfl, by rw [hS, Cc (x := (mX s.c.L i j l, jg s.c.L i j l, jh s.c.L i j l)) hlen KY]; exact aB.TF (s := { (s.jm (iR s.c.L i j l) (mW s.c.L s.c.pt i j l) (nK s.c.L s.c.mark i j l)).iY [] with put := [(mX s.c.L i j l, jg s.c.L i j l, jh s.c.L i j l)], c := { ((s.jm (iR s.c.L i j l) (mW s.c.L s.c.pt i j l) (nK s.c.L s.c.mark i j l)).iY []).c with run := false } }) (Cc (x := (mX s.c.L i j l, jg s.c.L i j l, jh s.c.L i j l)) hlen KY ▸ O5 (qx cZ _ _ _) hok) rfl X2⟩
    ·(try simp only [aG] at h4)
     have KY : ¬ 16384 ≤ dX (s.jm (iR s.c.L i j l) (mW s.c.L s.c.pt i j l) (nK s.c.L s.c.mark i j l)).here (s.jm (iR s.c.L i j l) (mW s.c.L s.c.pt i j l) (nK s.c.L s.c.mark i j l)).put := by show ¬ 16384 ≤ dX s.here s.put; omega
     refine aS (aj ?_)
     have Hz := UR.drew
     have oH := aB.kp (Hz.f14.f14.f14.f14.f14.f14.f14.f14.f14.f14.f14.f14.f14.f14)
     refine uH [4, 5] oH rfl (fU 0 rfl oH rfl (fU 1 rfl oH rfl (iT 2 rfl oH rfl (dP 3 rfl oH 33 underlying66 rfl sizeOf64 rfl (gQ 4 rfl oH (fun W hW => iI underlying64 rfl ((Kp.h hW).f2).get.2 rfl) (gQ 5 rfl oH (fun W hW => bU underlying120 rfl sizeOf120 rfl rfl ((Kp.h hW).f4).get.2) (jH 6 rfl (oL Hz underlying64 sizeOf120 zeroValue120 rfl rfl rfl (by decide) (by decide)) ?_)))))))
     rintro l20 Vh yR
     have Bf := aB.kp (yR.f15.f15.f15.f15.f15.f15.f15.f15.f15.f15.f15.f15.f15.f15.f15)
     refine bW Bf (fun W hW => (Kp.h hW).right.f14.f14.f14.f14.f14.f14.f14.f14.f14.f14.f14.f14.f14.f14) ?_
     refine jH 7 rfl (fK yR.f13 underlying64 (show (prog.info? 120).map (fun i => (i.zero, i.size, i.bytes)) = some (some (.agg #[.int .i64 0, .slice none 0 0, .slice none 0 0]), 3, 56) by kernel_rfl) rfl rfl rfl ((yR).aT) (aC (by first | rfl | assumption) (aC (by first | rfl | exact Rd.one ((yR.f6).aT)) (aC (by first | rfl | exact Rd.one ((yR.f7).aT)) bn))) (by omega) (by omega)) ?_
     rintro l21 Vj oQ
     have Jj := oQ.f2.right
     have Bg := aB.kp (Jj.f14.f14.f14.f14.f14.f14.f14.f14.f14.f14.f14.f14.f14.f14)
     refine fA Bg (by kernel_rfl) ?_
     refine iT 8 rfl Bg rfl (dP 9 rfl Bg 33 underlying66 rfl sizeOf64 rfl ?_)
     refine dB 10 rfl (by kernel_rfl) (aN 33 (l' := [_, _, _, _, _, _, _, _, _, _, _, _, _, _, _, _, _, _, _, _, _, _, _, _, _, _, _, _, _, _, _, _, _, _]) Jj.f3 sizeOf64 rfl rfl (by first | rfl | exact Rd.one ((Jj).aT)) rfl rfl) ?_
     rintro _ RJ tY
     have CY := aB.kp (tY.f14.f14.f14.f14.f14.f14.f14.f14.f14.f14.f14.f14.f14.f14)
     refine fA CY (by kernel_rfl) ?_
     refine mg (aj (ay (ah (aO rfl (aV rfl (aA (aj (aJ (aP (.inl rfl) results47 rfl ?_)))))))))
     have X := (tY.f5.right.f13.f12.f12.f6.f12.f8.f12.f12.f9.f13.f11.f13.f13).kT.swap.kT.swap
     rw [← gG] at X
     have X2 := aB.vP X.f3
     exact ⟨by rw [hE]; rfl, by rw [hS, Cb (x := (mX s.c.L i j l, jg s.c.L i j l, jh s.c.L i j l)) hlen KY]; exact aB.TF (s := { s.jm (iR s.c.L i j l) (mW s.c.L s.c.pt i j l) (nK s.c.L s.c.mark i j l) with put := s.put ++ [(mX s.c.L i j l, jg s.c.L i j l, jh s.c.L i j l)] }) (Cb (x := (mX s.c.L i j l, jg s.c.L i j l, jh s.c.L i j l)) hlen KY ▸ O5 (qx cZ _ _ _) hok) (by rw [List.map_append, bC]; rfl) X2⟩
   ·(try simp only [aG] at h3)
    have hlen : (jg s.c.L i j l).length + (jh s.c.L i j l).length = 0 := by omega
    refine aS (aj (ay (ah (aO rfl (aV rfl (aA (aj (aJ (aP (.inl rfl) results47 rfl ?_)))))))))
    exact ⟨by rw [hE]; rfl, by rw [hS, Bj (x := (mX s.c.L i j l, jg s.c.L i j l, jh s.c.L i j l)) hlen]; exact aB.dG (s := s.jm (iR s.c.L i j l) (mW s.c.L s.c.pt i j l) (nK s.c.L s.c.mark i j l)) (qx cZ _ _ _) bC H5.right.right.right.f11.f11.f11.f11.f11.f11.f11.f11.f11.f10.f11⟩
  ·(try simp only [aG] at h2)
   have hlen : (jg s.c.L i j l).length + (jh s.c.L i j l).length = 0 := by rw [(hno h2).1, (hno h2).2]; rfl
   refine bI (bI (bI (bI (bI (bI (bI (bI (jr rfl rfl (aA (aj (qN (aS (aj (ay (ah (aO rfl (aV rfl (aA (aj (aJ (aP (.inl rfl) results47 rfl ?_)))))))))))))))))))))
   exact ⟨by rw [hE]; rfl, by rw [hS, Bj (x := (mX s.c.L i j l, jg s.c.L i j l, jh s.c.L i j l)) hlen]; exact aB.dG (s := s.jm (iR s.c.L i j l) (mW s.c.L s.c.pt i j l) (nK s.c.L s.c.mark i j l)) (qx cZ _ _ _) bC H5.right.right.right.f11.f11.f11.f11.f11.f11.f11.f11.f11.f10.f11⟩
theorem zB (H : aB w0 w (dD e s • F)) (hr : iU w0 F .i32 v l) : fQ prog 45 #[.pointer (some ⟨e, 0, none⟩), v] w fun v' w' => v' = .int .i64 (s.NC l) ∧ aB w0 w' (dD e (s.y9 l) • F) := by
 refine gX func45 ntmps45 ?_
 dsimp only [bg, Nat.reduceAdd]
 refine ay (ah (aV rfl (aA (aj (ay (ay (ah (aO rfl (dw rfl func51 (gJ H) ?_)))))))))
 rintro _ _ ⟨rfl, rfl⟩
 refine aV rfl (aA (aj (ay (ah (aO rfl (aU (bZ rfl rfl) (aA (aj (aH rfl (fun h1 => ?_) (fun h1 => ?_))))))))))
 ·(try simp only [aG] at h1)
  obtain ⟨hin, hpe⟩ := nZ h1
  refine ay (ah (aO rfl (aV rfl (aA (aj (aJ (aK (aP (.inl rfl) results45 rfl ?_))))))))
  rw [hpe]
  exact ⟨by simp [aY.NC, aY.y9, aY.jE, aY.eY, hin], by rw [show s.y9 l = s from by simp [aY.NC, aY.y9, aY.jE, aY.eY, hin]]; exact H⟩
 ·(try simp only [aG] at h1)
  have hin := lq h1
  refine aS (aj (ay ?_))
  obtain ⟨nD, nN, nO, oG, nP, nR, nS, nT, mG, lu, lC, lD, lF, lG, lH, lI, lJ, lK, lM, lN, cZ, bC, gG, dn⟩ := (H).Ak
  have Qo := dn.drew
  have vW := aB.kp (Qo.f11.f11.f11.f11.f11.f11.f11.f11.f11.f11.f11)
  refine uH [5, 11] vW rfl (fU 0 rfl vW rfl (fU 1 rfl vW rfl (iT 2 rfl vW rfl (dP 3 rfl vW 0 underlying66 rfl sizeOf62 rfl (dP 4 rfl vW 0 underlying62 rfl sizeOf57 rfl (gQ 5 rfl vW (fun W hW => iI underlying57 rfl ((Kp.h hW)).get.2 rfl) (fU 7 rfl vW rfl (iT 8 rfl vW rfl (dP 9 rfl vW 0 underlying66 rfl sizeOf62 rfl (dP 10 rfl vW 0 underlying62 rfl sizeOf57 rfl (gQ 11 rfl vW (fun W hW => iI underlying57 rfl ((Kp.h hW)).get.2 rfl) (fU 13 rfl vW rfl (jH 6 rfl (rU rfl func68 (kE Qo.f2)) ?_)))))))))))))
  rintro _ _ ⟨rfl, rfl⟩
  have su := aB.kp (Qo.f11.f11.f11.f11.f11.f11.f11.f11.f11.f11.f11)
  refine bW su (fun W hW => (Kp.h hW).f11.f11.f11.f11.f11.f11.f11.f11.f11.f11.f11) ?_
  refine jH 12 rfl (rU rfl func68 (kE Qo.f2)) ?_
  rintro _ _ ⟨rfl, rfl⟩
  have jd := aB.kp (Qo.f11.f11.f11.f11.f11.f11.f11.f11.f11.f11.f11)
  refine fA jd (by kernel_rfl) ?_
  have Vs := Qo.f11.f11.f11.f11.f11.f11.f11.f11.f11.f11.f11
  have Vt := aB.dG (s := s) cZ bC Vs
  refine jH 14 rfl (rU rfl func47 (kP Vt (fun W HW => hr _ (HW)))) ?_
  rintro _ w8 ⟨rfl, H8⟩
  have Ja := aB.kp (H8)
  refine fA Ja (by kernel_rfl) ?_
  refine iJ 15 rfl Ja (fun _ => fO rfl) (mg (aj (aJ (aP (.inl rfl) results45 rfl ?_))))
  exact ⟨rfl, H8⟩
theorem Bl (H : aB w0 w (dD e s • F)) : fQ prog 46 #[.pointer (some ⟨e, 0, none⟩), .int .i64 i, .int .i64 j] w fun v' w' => v' = .int .i64 (s.jE i j []) ∧ aB w0 w' (dD e (s.eY i j []) • F) := by
 refine gX func46 ntmps46 ?_
 dsimp only [bg, Nat.reduceAdd]
 refine ay (ah (aV rfl (aA (aj (ay (ah (aO rfl (aO rfl (aO rfl (dw rfl func47 (kP H (fun W _ => jG.nil W _ none 0 (by decide))) ?_))))))))))
 rintro _ w1 ⟨rfl, H1⟩
 refine aV rfl (aA (aj (aJ (aP (.inl rfl) results46 rfl ?_))))
 exact ⟨rfl, H1⟩
theorem Qp (s : aY) (x : eH) : (s.jZ x).cls = s.cls := by unfold aY.jZ; split; rfl; split <;> rfl
theorem Ia (s : aY) (i j : Int) (l : List Int) : (s.eY i j l).cls = s.cls := by unfold aY.eY; split; rw [Qp]; rfl; rfl
theorem Dc (H : aB w0 w (dD e s • F)) (hr : iU w0 F .i32 v l) (hl : (l.length : Int) ≤ 4611686018427387904) : fQ prog 21 #[.pointer (some ⟨e, 0, none⟩), v] w fun v' w' => v' = .int .i64 (s.Bc l) ∧ aB w0 w' (dD e (s.jM l) • F) := by
 refine gX func21 ntmps21 ?_
 dsimp only [bg, Nat.reduceAdd]
 refine ay (ah (aV rfl (aA (aj (ay (ay (ah (aO rfl (dw rfl func51 (gJ H) ?_)))))))))
 rintro _ _ ⟨rfl, rfl⟩
 refine aV rfl (aA (aj (ay (ah (aO rfl (aU (bZ rfl rfl) (aA (aj (aH rfl (fun h1 => ?_) (fun h1 => ?_))))))))))
 ·(try simp only [aG] at h1)
  obtain ⟨hin, hpe⟩ := nZ h1
  refine ay (ah (aO rfl (aV rfl (aA (aj (aJ (aK (aP (.inl rfl) results21 rfl ?_))))))))
  rw [hpe]
  exact ⟨by simp [aY.Bc, aY.jM, aY.jE, aY.eY, hin], by rw [show s.jM l = s from by simp [aY.Bc, aY.jM, aY.jE, aY.eY, hin]]; exact H⟩
 ·(try simp only [aG] at h1)
  have hin := lq h1
  refine aS (aj (ay ?_))
  obtain ⟨nD, nN, nO, oG, nP, nR, nS, nT, mG, lu, lC, lD, lF, lG, lH, lI, lJ, lK, lM, lN, cZ, bC, gG, dn⟩ := (H).Ak
  have hL : s.c.L.length ≤ 1024 ∧ 0 ≤ s.c.pt ∧ s.c.pt ≤ s.c.L.length := by obtain ⟨a, c, xs, f, t, h1, h2, h3, h4, h5, h6, h7, hc1, hc2, hl, H1⟩ := (dn.f2).buf; exact ⟨h4, h6⟩
  refine ah (aO rfl (bH rfl (aZ 0 underlying66 rfl sizeOf62 rfl (aZ 0 underlying62 rfl sizeOf57 rfl (cO underlying57 rfl (dn).get.2 rfl (dw rfl func68 (kE dn.f2) ?_))))))
  rintro _ _ ⟨rfl, rfl⟩
  refine aV rfl (aA (aj (ay (ay (ah (aO rfl (bH rfl (aZ 0 underlying66 rfl sizeOf62 rfl (aZ 5 underlying62 rfl sizeOf4 rfl (cO underlying4 rfl (dn).get.2 rfl (aA (aj (aH rfl (fun h2 => ?_) (fun h2 => ?_))))))))))))))
  ·(try simp only [aG] at h2)
   have hto : s.jf l = min (s.c.pt + l.length) s.c.L.length := by unfold aY.jf; rw [if_pos h2]
   refine ah (aO rfl (aO rfl (aU (oz (hr _ (dn.right.right.right.right.right.right.right.right.right.right.right)) underlying22 rfl) (aU (eP rfl rfl (by omega)) (aO rfl (bH rfl (aZ 0 underlying66 rfl sizeOf62 rfl (aZ 0 underlying62 rfl sizeOf57 rfl (cO underlying57 rfl (dn).get.2 rfl (dw rfl func69 (jF dn.f2) ?_))))))))))
   rintro _ w4 ⟨rfl, hD4⟩
   have HD4 := dn.nH hD4
   refine aU (Oq rfl rfl) (aV rfl (aA (aj (ay (ah (aO rfl (aO rfl (bH rfl (aZ 0 underlying66 rfl sizeOf62 rfl (aZ 0 underlying62 rfl sizeOf57 rfl (cO underlying57 rfl (HD4).get.2 rfl (dw rfl func68 (kE HD4.f2) ?_))))))))))))
   rintro _ _ ⟨rfl, rfl⟩
   have Xv := HD4.f11.f11.f11.f11.f11.f11.f11.f11.f11.f11.f11
   have Xw := aB.dG (s := s) cZ bC Xv
   refine aO rfl (aO rfl (dw rfl func47 (kP Xw (fun W HW => hr _ (HW))) ?_))
   rintro _ w9 ⟨rfl, H9⟩
   have HT : aB w0 w9 (dD e (s.eY s.c.pt (s.jf l) l) • F) := by rw [hto]; exact H9
   have hc0 := Ia s s.c.pt (s.jf l) l
   have hE : s.Bc l = s.jE s.c.pt (s.jf l) l := rfl
   rw [hto] at hE
   refine aV rfl (aA (aj (ay (ay (ah (aO rfl (aU (dW rfl rfl) (jo rfl (fun h3 => ?_) (fun h3 => ?_)))))))))
   ·(try simp only [aG] at h3)
    have hE0 := h3
    obtain ⟨nD, nN, nO, oG, nP, nR, nS, nT, mG, lu, lC, lD, lF, lG, lH, lI, lJ, lK, lM, lN, cZ, bC, gG, dn⟩ := (HT).Ak
    refine bD (aO rfl (bD (bH rfl (bD (aZ 28 underlying66 rfl sizeOf3 rfl (bD (cO underlying3 rfl (dn).get.2 rfl (bD (aU (dW rfl rfl) (jO rfl rfl (aA (aj (aH rfl (fun h4 => ?_) (fun h4 => ?_))))))))))))))
    ·(try simp only [aG] at h4)
     have hcl := h4
     refine ah (aO rfl (bH rfl (aZ 28 underlying66 rfl sizeOf3 rfl (aI (aN 28 (l' := [_, _, _, _, _, _, _, _, _, _, _, _, _, _, _, _, _, _, _, _, _, _, _, _, _, _, _, _, _, _, _, _, _, _]) dn sizeOf3 rfl rfl (by first | rfl | assumption) rfl rfl) ?_))))
     rintro _ FT uV
     refine aA (aj (ay (ah (aO rfl (aV rfl (aA (aj (aJ (aP (.inl rfl) results21 rfl ?_)))))))))
     have e1 : s.jM l = { s.eY s.c.pt (s.jf l) l with cls := 3 } := by unfold aY.jM; rw [if_pos hin]; dsimp only; rw [if_pos ⟨hE.trans hE0, hc0.symm.trans hcl⟩]
     exact ⟨by rw [hE], by rw [e1]; exact aB.dG (s := { s.eY s.c.pt (s.jf l) l with cls := 3 }) cZ bC uV.f11.f11.f11.f11.f11.f11.f11.f11.f11.f11.f11⟩
    ·(try simp only [aG] at h4)
     have hcl := h4
     refine aS (aj (ay (ah (aO rfl (aV rfl (aA (aj (aJ (aP (.inl rfl) results21 rfl ?_)))))))))
     have e1 : s.jM l = s.eY s.c.pt (s.jf l) l := by unfold aY.jM; rw [if_pos hin]; dsimp only; rw [if_neg (fun h => hcl (hc0.trans h.2))]
     exact ⟨by rw [hE], by rw [e1]; exact aB.dG (s := s.eY s.c.pt (s.jf l) l) cZ bC dn.f11.f11.f11.f11.f11.f11.f11.f11.f11.f11.f11⟩
   ·(try simp only [aG] at h3)
    have hE0 := h3
    refine bI (bI (bI (bI (bI (jr rfl rfl (aA (aj (qN (aS (aj (ay (ah (aO rfl (aV rfl (aA (aj (aJ (aP (.inl rfl) results21 rfl ?_))))))))))))))))))
    have e1 : s.jM l = s.eY s.c.pt (s.jf l) l := by unfold aY.jM; rw [if_pos hin]; dsimp only; rw [if_neg (fun h => hE0 (hE.symm.trans h.1))]
    exact ⟨by rw [hE], by rw [e1]; exact HT⟩
  ·(try simp only [aG] at h2)
   have hto : s.jf l = s.c.pt := by unfold aY.jf; rw [if_neg (by simp [h2])]
   refine aS (aj (ay (ah (aO rfl (aO rfl (bH rfl (aZ 0 underlying66 rfl sizeOf62 rfl (aZ 0 underlying62 rfl sizeOf57 rfl (cO underlying57 rfl (dn).get.2 rfl (dw rfl func68 (kE dn.f2) ?_))))))))))
   rintro _ _ ⟨rfl, rfl⟩
   have Tq := dn.f11.f11.f11.f11.f11.f11.f11.f11.f11.f11.f11
   have Tt := aB.dG (s := s) cZ bC Tq
   refine aO rfl (aO rfl (dw rfl func47 (kP Tt (fun W HW => hr _ (HW))) ?_))
   rintro _ w16 ⟨rfl, qH⟩
   have HT : aB w0 w16 (dD e (s.eY s.c.pt (s.jf l) l) • F) := by rw [hto]; exact qH
   have hc0 := Ia s s.c.pt (s.jf l) l
   have hE : s.Bc l = s.jE s.c.pt (s.jf l) l := rfl
   rw [hto] at hE
   refine aV rfl (aA (aj (ay (ay (ah (aO rfl (aU (dW rfl rfl) (jo rfl (fun h5 => ?_) (fun h5 => ?_)))))))))
   ·(try simp only [aG] at h5)
    have hE0 := h5
    obtain ⟨nD, nN, nO, oG, nP, nR, nS, nT, mG, lu, lC, lD, lF, lG, lH, lI, lJ, lK, lM, lN, cZ, bC, gG, dn⟩ := (HT).Ak
    refine bD (aO rfl (bD (bH rfl (bD (aZ 28 underlying66 rfl sizeOf3 rfl (bD (cO underlying3 rfl (dn).get.2 rfl (bD (aU (dW rfl rfl) (jO rfl rfl (aA (aj (aH rfl (fun h6 => ?_) (fun h6 => ?_))))))))))))))
    ·(try simp only [aG] at h6)
     have hcl := h6
     refine ah (aO rfl (bH rfl (aZ 28 underlying66 rfl sizeOf3 rfl (aI (aN 28 (l' := [_, _, _, _, _, _, _, _, _, _, _, _, _, _, _, _, _, _, _, _, _, _, _, _, _, _, _, _, _, _, _, _, _, _]) dn sizeOf3 rfl rfl (by first | rfl | assumption) rfl rfl) ?_))))
     rintro _ UO BF
     refine aA (aj (ay (ah (aO rfl (aV rfl (aA (aj (aJ (aP (.inl rfl) results21 rfl ?_)))))))))
     have e1 : s.jM l = { s.eY s.c.pt (s.jf l) l with cls := 3 } := by unfold aY.jM; rw [if_pos hin]; dsimp only; rw [if_pos ⟨hE.trans hE0, hc0.symm.trans hcl⟩]
     exact ⟨by rw [hE], by rw [e1]; exact aB.dG (s := { s.eY s.c.pt (s.jf l) l with cls := 3 }) cZ bC BF.f11.f11.f11.f11.f11.f11.f11.f11.f11.f11.f11⟩
    ·(try simp only [aG] at h6)
     have hcl := h6
     refine aS (aj (ay (ah (aO rfl (aV rfl (aA (aj (aJ (aP (.inl rfl) results21 rfl ?_)))))))))
     have e1 : s.jM l = s.eY s.c.pt (s.jf l) l := by unfold aY.jM; rw [if_pos hin]; dsimp only; rw [if_neg (fun h => hcl (hc0.trans h.2))]
     exact ⟨by rw [hE], by rw [e1]; exact aB.dG (s := s.eY s.c.pt (s.jf l) l) cZ bC dn.f11.f11.f11.f11.f11.f11.f11.f11.f11.f11.f11⟩
   ·(try simp only [aG] at h5)
    have hE0 := h5
    refine bI (bI (bI (bI (bI (jr rfl rfl (aA (aj (qN (aS (aj (ay (ah (aO rfl (aV rfl (aA (aj (aJ (aP (.inl rfl) results21 rfl ?_))))))))))))))))))
    have e1 : s.jM l = s.eY s.c.pt (s.jf l) l := by unfold aY.jM; rw [if_pos hin]; dsimp only; rw [if_neg (fun h => hE0 (hE.symm.trans h.1))]
    exact ⟨by rw [hE], by rw [e1]; exact HT⟩
end
end Go.Proofs.YtgmpclifphbjkaaGreatDoor
end
section
namespace Go.Proofs.YtgmpclifphbjkaaGreatDoor
open Go.RowKit
open _root_.Go.Proofs.Tryz
theorem Qq {E : List (List Int)} {a : Nat} {way : Int} {l : List Int} (h : (vI E a way l).1 ≠ 0) : (vI E a way l).2 = (E, a) := by
  unfold vI at *
  repeat' split at h
  all_goals first | (simp at h; done) | skip
  all_goals (repeat' (first | rw [if_pos (by assumption)] | rw [if_neg (by assumption)])) <;> rfl
theorem Qr {s : aY} {i j : Int} {back : Bool} (h : (s.nM i j back).1 ≠ 0) : (s.nM i j back).2 = (s.c.E, s.c.at_) := Qq h
theorem KZ (s : aY) : s.jm s.c.L s.c.pt s.c.mark = s := rfl
theorem Ib {s : aY} {i j : Int} {l : List Int} (h : s.jE i j l ≠ 0) : s.eY i j l = s := by
  unfold aY.eY aY.jE at *
  split
  · rename_i hin
    rw [if_pos hin] at h
    rw [Bj (by rw [(qy h).1, (qy h).2]; rfl)]
    unfold iR mW nK
    rw [if_neg h, if_neg h, if_neg h]
    exact KZ s
  · rfl
theorem yX {s : aY} {i j : Int} {back : Bool} (h : s.mZ i j back ≠ 0) : s.ng i j back = s := by unfold aY.ng; rw [if_neg h]
section
variable {w0 w : World} {F : HP} {e p h pr : Nat} {s : aY} {i j x : Int} {back : Bool} {v : Value} {l : List Int}
theorem Df (H : aB w0 w (dD e s • F)) : fQ prog 48 #[.pointer (some ⟨e, 0, none⟩), .int .i64 i, .int .i64 j, .bool back] w fun v' w' => v' = .int .i64 (s.mZ i j back) ∧ aB w0 w' (dD e (s.ng i j back) • F) := by
 refine gX func48 ntmps48 ?_
 dsimp only [bg, Nat.reduceAdd]
 refine ay (ah (aV rfl (aA (aj (ay (ay (ah (aO rfl (dw rfl func51 (gJ H) ?_)))))))))
 rintro _ _ ⟨rfl, rfl⟩
 refine aV rfl (aA (aj (ay (ah (aO rfl (aU (bZ rfl rfl) (aA (aj (aH rfl (fun h1 => ?_) (fun h1 => ?_))))))))))
 ·(try simp only [aG] at h1)
  obtain ⟨hin, hpe⟩ := nZ h1
  refine ay (ah (aO rfl (aV rfl (aA (aj (aJ (aK (aP (.inl rfl) results48 rfl ?_))))))))
  rw [hpe]
  exact ⟨by simp [aY.mZ, aY.ng, hin], by rw [show s.ng i j back = s from by simp [aY.mZ, aY.ng, hin]]; exact H⟩
 ·(try simp only [aG] at h1)
  have hin := lq h1
  refine aS (aj (ay (ay ?_)))
  obtain ⟨nD, nN, nO, oG, nP, nR, nS, nT, mG, lu, lC, lD, lF, lG, lH, lI, lJ, lK, lM, lN, cZ, bC, gG, dn⟩ := (H).Ak
  have hL : s.c.L.length ≤ 1024 := by obtain ⟨a, c, xs, f, t, h1, h2, h3, h4, h5, h6, h7, hc1, hc2, hl, H1⟩ := (dn.f2).buf; exact h4
  refine ah (aO rfl (aU (dL rfl rfl) (jo rfl (fun h2 => ?_) (fun h2 => ?_))))
  ·(try simp only [aG] at h2)
   refine bI (bI (bI (bI (bI (bI (bI (bI (jO rfl rfl (aO rfl (bI (bI (bI (jO rfl rfl (aO rfl (bI (bI (bI (bI (bI (bI (bI (bI (jO rfl rfl (aA (aj (yL (ay (ah (aV rfl (aA (aj (aJ (aK (aP (.inl rfl) results48 rfl ?_))))))))))))))))))))))))))))))))))
   have hb : s.lV i j := by unfold aY.lV; omega
   have hc : s.mZ i j back = 70 := by unfold aY.mZ; rw [if_pos hin, if_pos hb]
   exact ⟨by rw [hc], by rw [yX (by rw [hc]; decide)]; exact aB.dG cZ bC dn.f11.f11.f11.f11.f11.f11.f11.f11.f11.f11.f11⟩
  ·(try simp only [aG] at h2)
   refine bD (aO rfl (bD (aO rfl (bD (bH rfl (bD (aZ 0 underlying66 rfl sizeOf62 rfl (bD (aZ 0 underlying62 rfl sizeOf57 rfl (bD (cO underlying57 rfl (dn).get.2 rfl (bD (dw rfl func69 (jF dn.f2) ?_)))))))))))))
   rintro _ w3 ⟨rfl, hD3⟩
   have HD3 := dn.nH hD3
   refine bD (aU (dQ rfl rfl) (jr rfl rfl (jo rfl (fun h3 => ?_) (fun h3 => ?_))))
   ·(try simp only [aG] at h3)
    refine bI (bI (bI (jO rfl rfl (aO rfl (bI (bI (bI (bI (bI (bI (bI (bI (jO rfl rfl (aA (aj (yL (ay (ah (aV rfl (aA (aj (aJ (aK (aP (.inl rfl) results48 rfl ?_))))))))))))))))))))))))
    have hb : s.lV i j := by unfold aY.lV; omega
    have hc : s.mZ i j back = 70 := by unfold aY.mZ; rw [if_pos hin, if_pos hb]
    exact ⟨by rw [hc], by rw [yX (by rw [hc]; decide)]; exact aB.dG cZ bC HD3.f11.f11.f11.f11.f11.f11.f11.f11.f11.f11.f11⟩
   ·(try simp only [aG] at h3)
    refine bD (aO rfl (bD (aO rfl (bD (aU (dL rfl rfl) (jr rfl rfl (jo rfl (fun h4 => ?_) (fun h4 => ?_))))))))
    ·(try simp only [aG] at h4)
     refine bI (bI (bI (bI (bI (bI (bI (bI (jO rfl rfl (aA (aj (yL (ay (ah (aV rfl (aA (aj (aJ (aK (aP (.inl rfl) results48 rfl ?_)))))))))))))))))))
     have hb : s.lV i j := by unfold aY.lV; omega
     have hc : s.mZ i j back = 70 := by unfold aY.mZ; rw [if_pos hin, if_pos hb]
     exact ⟨by rw [hc], by rw [yX (by rw [hc]; decide)]; exact aB.dG cZ bC HD3.f11.f11.f11.f11.f11.f11.f11.f11.f11.f11.f11⟩
    ·(try simp only [aG] at h4)
     refine bD (aO rfl (bD (aO rfl (bD (bH rfl (bD (aZ 0 underlying66 rfl sizeOf62 rfl (bD (aZ 0 underlying62 rfl sizeOf57 rfl (bD (cO underlying57 rfl (HD3).get.2 rfl (bD (dw rfl func69 (jF HD3.f2) ?_)))))))))))))
     rintro _ w4 ⟨rfl, hD4⟩
     have HD4 := HD3.nH hD4
     refine bD (aU (dQ rfl rfl) (jr rfl rfl (aA (aj (aH rfl (fun h5 => ?_) (fun h5 => ?_))))))
     ·(try simp only [aG] at h5)
      refine ay (ah (aV rfl (aA (aj (aJ (aK (aP (.inl rfl) results48 rfl ?_)))))))
      have hb : s.lV i j := by unfold aY.lV; omega
      have hc : s.mZ i j back = 70 := by unfold aY.mZ; rw [if_pos hin, if_pos hb]
      exact ⟨by rw [hc], by rw [yX (by rw [hc]; decide)]; exact aB.dG cZ bC HD4.f11.f11.f11.f11.f11.f11.f11.f11.f11.f11.f11⟩
     ·(try simp only [aG] at h5)
      refine aS (aj (ay ?_))
      have hb : ¬ s.lV i j := by unfold aY.lV; omega
      have hc : s.mZ i j back = (s.nM i j back).1 := by unfold aY.mZ; rw [if_pos hin, if_neg hb]
      refine ah (aV rfl (aA (aj ?_)))
      refine Am [(0, _), (1, _), (2, _)] (fun (_ : Unit) => [(10, .int .i64 (s.way back))]) (fun (_ : Unit) W => W = w4) (Sub.cons rfl (Sub.cons rfl (Sub.cons rfl (Sub.nil _)))) ?_ ?_
      ·rintro _ w5 rfl
       dsimp only [List.cons_append, List.nil_append]
       refine ay (ay ?_)
       have WG := HD4.drew
       have pK := aB.kp (WG.f11.f11.f11.f11.f11.f11.f11.f11.f11.f11.f11)
       refine uH [4, 10] pK rfl (fU 0 rfl pK rfl (iT 1 rfl pK rfl (dP 2 rfl pK 0 underlying66 rfl sizeOf62 rfl (dP 3 rfl pK 1 underlying62 rfl sizeOf58 rfl (gQ 4 rfl pK (fun W hW => iI underlying58 rfl ((Kp.h hW)).get.2 rfl) (fU 5 rfl pK rfl (fU 6 rfl pK rfl (iT 7 rfl pK rfl (dP 8 rfl pK 0 underlying66 rfl sizeOf62 rfl (dP 9 rfl pK 0 underlying62 rfl sizeOf57 rfl (gQ 10 rfl pK (fun W hW => iI underlying57 rfl ((Kp.h hW)).get.2 rfl) (fU 12 rfl pK rfl (fU 13 rfl pK rfl (jH 11 rfl (rU rfl func117 (kU WG.f2)) ?_))))))))))))))
       rintro u6 w6 H6
       have vG := aB.kp (H6.f12.f12.f12.f12.f12.f12.f12.f12.f12.f12.f12.f12)
       refine bW vG (fun W hW => (Kp.h hW).right.f11.f11.f11.f11.f11.f11.f11.f11.f11.f10.f11) ?_
       refine iJ 14 rfl vG (fun _ => vk ((H6).aT) underlying22 sizeOf21 rfl rfl rfl (by omega)) (jH 15 rfl (rU rfl func116 (Gh H6.f4 (fun W HW => jG.cut ((HW).aT) (by omega) (by omega)))) ?_)
       rintro _ w7 ⟨rfl, H7⟩
       have vO := aB.kp (H7.f12.f12.f12.f12.f12.f12.f12.f12.f12.f12.f12.f12)
       refine fA vO (by kernel_rfl) ?_
       refine iJ 16 rfl vO (fun _ => fO rfl) (mg (aj (ay (ah (aO rfl (aU (bZ rfl rfl) (aA (aj (aH rfl (fun h6 => ?_) (fun h6 => ?_))))))))))
       ·(try simp only [aG] at h6)
        refine ay (ah (aO rfl (aV rfl (aA (aj (aJ (aK (aP (.inl rfl) results48 rfl ?_))))))))
        exact ⟨by rw [hc]; rfl, by rw [yX (by rw [hc]; assumption)]; have HX := H7.f2.right.f11.f11.f11.f11.f11.f11.f11.f11.f9.f10.f11; rw [show vI s.c.E s.c.at_ (s.way back) ((s.c.L.drop i.toNat).take (j.toNat - i.toNat)) = s.nM i j back from rfl, Qr (by assumption)] at HX; exact aB.dG cZ bC HX⟩
       ·(try simp only [aG] at h6)
        refine aS (aj (ay (ah (aO rfl (aO rfl (bH rfl (aZ 29 underlying66 rfl sizeOf4 rfl (aI (aN 29 (l' := [_, _, _, _, _, _, _, _, _, _, _, _, _, _, _, _, _, _, _, _, _, _, _, _, _, _, _, _, _, _, _, _, _, _]) H7.f4 sizeOf4 rfl rfl (by first | rfl | assumption) rfl rfl) ?_))))))))
        rintro _ w8 H8
        refine bH rfl (aZ 28 underlying66 rfl sizeOf3 rfl (aI (aN 28 (l' := [_, _, _, _, _, _, _, _, _, _, _, _, _, _, _, _, _, _, _, _, _, _, _, _, _, _, _, _, _, _, _, _, _, _]) H8 sizeOf3 rfl rfl (by first | rfl | assumption) rfl rfl) ?_))
        rintro _ w9 H9
        refine aA (aj (ay (ah (aV rfl (aA (aj (aJ (aP (.inl rfl) results48 rfl ?_))))))))
        have hc0 : s.mZ i j back = 0 := by rw [hc]; assumption
        have hs : s.ng i j back = { s.DV (s.nM i j back).2.1 (s.nM i j back).2.2 with killed := true, cls := 1 } := by unfold aY.ng; rw [if_pos hc0]
        exact ⟨by rw [hc0], by rw [hs]; exact aB.dG (s := { s.DV (s.nM i j back).2.1 (s.nM i j back).2.2 with killed := true, cls := 1 }) cZ bC H9.f3.right.f11.f11.f11.f11.f11.f11.f11.f11.f10.f11.f11⟩
      ·skip
       refine ay (ah (aO rfl (bH rfl (aZ 0 underlying66 rfl sizeOf62 rfl (aZ 6 underlying62 rfl sizeOf3 rfl (cO underlying3 rfl (HD4).get.2 rfl (aU (dW rfl rfl) (jo rfl (fun h7 => ?_) (fun h7 => ?_)))))))))
       ·(try simp only [aG] at h7)
        refine bI (bI (bI (bI (jO rfl rfl (aA (aj (yL (ay (ah (aV rfl (aA (aj (ay (ah (aO rfl (aA (aj (aH rfl (fun h8 => ?_) (fun h8 => ?_)))))))))))))))))))
        ·(try simp only [aG] at h8)
         refine ah (aV rfl (aA ?_))
         refine jW (()) ?_ ?_ ?_
         ·exact (Sub.zh rfl (by unfold aY.way; simp_all) (Sub.nil _))
         ·exact (Sub.cons rfl (Sub.cons rfl (Sub.cons rfl (Sub.nil _))))
         ·(try dsimp only)
          first | done | exact rfl
        ·(try simp only [aG] at h8)
         refine aS ?_
         refine jW (()) ?_ ?_ ?_
         ·exact (Sub.zh rfl (by unfold aY.way; simp_all) (Sub.nil _))
         ·exact (Sub.cons rfl (Sub.cons rfl (Sub.cons rfl (Sub.nil _))))
         ·(try dsimp only)
          first | done | exact rfl
       ·(try simp only [aG] at h7)
        refine bD (aO rfl (bD (bH rfl (bD (aZ 29 underlying66 rfl sizeOf4 rfl (bD (cO underlying4 rfl (HD4).get.2 rfl (jr rfl rfl (aA (aj (aH rfl (fun h9 => ?_) (fun h9 => ?_))))))))))))
        ·(try simp only [aG] at h9)
         refine ay (ah (aV rfl (aA (aj (ay (ah (aO rfl (aA (aj (aH rfl (fun h10 => ?_) (fun h10 => ?_)))))))))))
         ·(try simp only [aG] at h10)
          refine ah (aV rfl (aA ?_))
          refine jW (()) ?_ ?_ ?_
          ·exact (Sub.zh rfl (by unfold aY.way; simp_all) (Sub.nil _))
          ·exact (Sub.cons rfl (Sub.cons rfl (Sub.cons rfl (Sub.nil _))))
          ·(try dsimp only)
           first | done | exact rfl
         ·(try simp only [aG] at h10)
          refine aS ?_
          refine jW (()) ?_ ?_ ?_
          ·exact (Sub.zh rfl (by unfold aY.way; simp_all) (Sub.nil _))
          ·exact (Sub.cons rfl (Sub.cons rfl (Sub.cons rfl (Sub.nil _))))
          ·(try dsimp only)
           first | done | exact rfl
        ·(try simp only [aG] at h9)
         refine aS ?_
         refine jW (()) ?_ ?_ ?_
         ·exact (Sub.zh rfl (by unfold aY.way; simp_all) (Sub.nil _))
         ·exact (Sub.cons rfl (Sub.cons rfl (Sub.cons rfl (Sub.nil _))))
         ·(try dsimp only)
          first | done | exact rfl
theorem La (H : aB w0 w (dD e s • F)) : fQ prog 22 #[.pointer (some ⟨e, 0, none⟩), .int .i64 i, .int .i64 j, .bool back] w fun v' w' => v' = .int .i64 (s.SV i j back) ∧ aB w0 w' (dD e (s.rX i j back) • F) := by
 refine gX func22 ntmps22 ?_
 dsimp only [bg, Nat.reduceAdd]
 refine ay (ah (aV rfl (aA (aj (ay (ay (ah (aO rfl (aO rfl (aO rfl (aO rfl (dw rfl func48 (Df H) ?_))))))))))))
 rintro _ w1 ⟨rfl, H1⟩
 refine aV rfl (aA (aj (ay (ah (aO rfl (aU (bZ rfl rfl) (aA (aj (aH rfl (fun h1 => ?_) (fun h1 => ?_))))))))))
 ·(try simp only [aG] at h1)
  have hc := h1
  refine ay (ah (aO rfl (aV rfl (aA (aj (aJ (aK (aP (.inl rfl) results22 rfl ?_))))))))
  exact ⟨by unfold aY.SV; rw [if_neg hc], by unfold aY.rX; rw [if_neg hc]; have HX := H1; rw [yX hc] at HX; exact HX⟩
 ·(try simp only [aG] at h1)
  have hc := h1
  refine aS (aj (ay (ah (aO rfl (aO rfl (aO rfl (dw rfl func46 (Bl H1) ?_)))))))
  rintro _ w2 ⟨rfl, H2⟩
  refine aV rfl (aA (aj (aJ (aP (.inl rfl) results22 rfl ?_))))
  exact ⟨by unfold aY.SV; rw [if_pos hc], by unfold aY.rX; rw [if_pos hc]; exact H2⟩
theorem Lc {E : List (List Int)} (h : ∀ x ∈ E, x.length ≤ 1024) (k : Nat) : (E.getD k []).length ≤ 1024 := by
  rw [List.getD_eq_getElem?_getD]
  cases hk : E[k]? with
  | none => simp
  | some x => exact h x (List.mem_of_getElem? hk)
theorem Ld (H : aB w0 w (dD e s • F)) : fQ prog 23 #[.pointer (some ⟨e, 0, none⟩)] w fun v' w' => v' = .int .i64 s.EP ∧ aB w0 w' (dD e s.uo • F) := by
 refine gX func23 ntmps23 ?_
 dsimp only [bg, Nat.reduceAdd]
 refine ay (ah (aV rfl (aA (aj (ay (ay (ah (aO rfl (dw rfl func51 (gJ H) ?_)))))))))
 rintro _ _ ⟨rfl, rfl⟩
 refine aV rfl (aA (aj (ay (ah (aO rfl (aU (bZ rfl rfl) (aA (aj (aH rfl (fun h1 => ?_) (fun h1 => ?_))))))))))
 ·(try simp only [aG] at h1)
  obtain ⟨hin, hpe⟩ := nZ h1
  refine ay (ah (aO rfl (aV rfl (aA (aj (aJ (aK (aP (.inl rfl) results23 rfl ?_))))))))
  rw [hpe]
  exact ⟨by simp [aY.EP, aY.uo, hin], by rw [show s.uo = s from by simp [aY.EP, aY.uo, hin]]; exact H⟩
 ·(try simp only [aG] at h1)
  have hin := lq h1
  refine aS (aj (ay ?_))
  obtain ⟨nD, nN, nO, oG, nP, nR, nS, nT, mG, lu, lC, lD, lF, lG, lH, lI, lJ, lK, lM, lN, cZ, bC, gG, dn⟩ := (H).Ak
  have hL : s.c.L.length ≤ 1024 ∧ 0 ≤ s.c.pt ∧ s.c.pt ≤ s.c.L.length := by obtain ⟨a, c, xs, f, t, h1, h2, h3, h4, h5, h6, h7, hc1, hc2, hl, H1⟩ := (dn.f2).buf; exact ⟨h4, h6⟩
  have hR := Lc (zS (dn.f3)).2.2 s.c.at_
  have hY : s.EP = if s.c.E.length = 0 then 6 else s.NC s.top := by unfold aY.EP; rw [if_pos hin]
  refine ah (aO rfl (bH rfl (aZ 0 underlying66 rfl sizeOf62 rfl (aZ 1 underlying62 rfl sizeOf58 rfl (cO underlying58 rfl (dn).get.2 rfl (dw rfl func70 (Gj dn.f3) ?_))))))
  rintro _ w3 ⟨u3, rfl, H3⟩
  refine aO rfl (nX rfl rfl (nX rfl rfl (aV rfl (aV rfl (aA (aj (ay (ay (ah (aO rfl (aU (bZ rfl rfl) (aA (aj (aH rfl (fun h2 => ?_) (fun h2 => ?_)))))))))))))))
  ·(try simp only [aG] at h2)
   have h6 : s.c.E.length = 0 := by by_cases hx : s.c.E.length = 0; exact hx; exact absurd (if_neg hx) h2
   rw [if_pos h6] at hY
   refine ay (ah (aO rfl (aV rfl (aA (aj (aJ (aK (aP (.inl rfl) results23 rfl ?_))))))))
   exact ⟨by rw [hY]; show Value.int _ (if s.c.E.length = 0 then 6 else 0) = _; rw [if_pos h6], by rw [show s.uo = s from by unfold aY.uo; rw [if_neg (by rw [hY]; decide)]]; exact aB.dG cZ bC H3.right.f11.f11.f11.f11.f11.f11.f11.f11.f9.f11.f11⟩
  ·(try simp only [aG] at h2)
   have h6 : ¬ s.c.E.length = 0 := fun hx => by rw [if_pos hx] at h2; exact absurd h2 (by decide)
   rw [if_neg h6] at hY
   refine aS (aj (ay (ah (aO rfl (bH rfl (aZ 0 underlying66 rfl sizeOf62 rfl (aZ 0 underlying62 rfl sizeOf57 rfl (cO underlying57 rfl (H3.f3).get.2 rfl (dw rfl func68 (kE H3.f4) ?_)))))))))
   rintro _ _ ⟨rfl, rfl⟩
   refine aV rfl ?_
   have Vs := H3.f12.f12.f12.f12.f12.f12.f12.f12.f10.f12.f12
   have Vt := aB.dG (s := s) cZ bC Vs
   refine aA (aj (ay (ay (ah (aO rfl (aO rfl (dw rfl func45 (zB Vt (fun W HW => (HW).aT)) ?_)))))))
   rintro _ w8 ⟨rfl, H8⟩
   refine aV rfl (aA (aj (ay (ah (aO rfl (aU (bZ rfl rfl) (aA (aj (aH rfl (fun h3 => ?_) (fun h3 => ?_))))))))))
   ·(try simp only [aG] at h3)
    have hI : s.NC s.top ≠ 0 := h3
    refine ay (ah (aO rfl (aV rfl (aA (aj (aJ (aK (aP (.inl rfl) results23 rfl ?_))))))))
    exact ⟨by rw [hY]; rfl, by rw [show s.uo = s from by unfold aY.uo; rw [if_neg (by rw [hY]; exact hI)]]; have HX := H8.f2.right; rw [show s.y9 (s.c.E.getD s.c.at_ []) = s from Ib hI] at HX; exact HX⟩
   ·(try simp only [aG] at h3)
    have hI : s.NC s.top = 0 := h3
    obtain ⟨nD, nN, nO, oG, nP, nR, nS, nT, mG, lu, lC, lD, lF, lG, lH, lI, lJ, lK, lM, lN, cZ, bC, gG, dn⟩ := (H8).Ak
    refine aS (aj (ay (ah (aO rfl (bH rfl (aZ 0 underlying66 rfl sizeOf62 rfl (aZ 0 underlying62 rfl sizeOf57 rfl (cO underlying57 rfl (dn).get.2 rfl (aO rfl (dw rfl func71 (xu dn.f2) ?_))))))))))
    rintro _ w10 ⟨rfl, oP⟩
    refine aA (aj (ay (ah (aO rfl (aO rfl (bH rfl (aZ 30 underlying66 rfl sizeOf4 rfl (aI (aN 30 (l' := [_, _, _, _, _, _, _, _, _, _, _, _, _, _, _, _, _, _, _, _, _, _, _, _, _, _, _, _, _, _, _, _, _, _]) oP.f2 sizeOf4 rfl rfl (by first | rfl | assumption) rfl rfl) ?_))))))))
    rintro _ FT uV
    refine bH rfl (aZ 28 underlying66 rfl sizeOf3 rfl (aI (aN 28 (l' := [_, _, _, _, _, _, _, _, _, _, _, _, _, _, _, _, _, _, _, _, _, _, _, _, _, _, _, _, _, _, _, _, _, _]) uV sizeOf3 rfl rfl (by first | rfl | assumption) rfl rfl) ?_))
    rintro _ w12 rV
    refine aA (aj (ay (ah (aO rfl (aO rfl (aO rfl (aO rfl (aO rfl (aU (oz ((rV.f12).aT) underlying22 rfl) (aU (eP rfl rfl (by omega)) (bH rfl (aZ 0 underlying66 rfl sizeOf62 rfl (aZ 7 underlying62 rfl sizeOf3 rfl (aI (aN 7 (l' := [_, _, _, _, _, _, _, _, _, _, _, _, _, _, _, _, _, _, _, _, _, _, _, _, _, _, _, _, _, _, _, _, _, _]) rV sizeOf3 rfl rfl (by first | rfl | assumption) rfl rfl) ?_))))))))))))))
    rintro _ MB vZ
    refine bH rfl (aZ 0 underlying66 rfl sizeOf62 rfl (aZ 8 underlying62 rfl sizeOf3 rfl (aI (aN 8 (l' := [_, _, _, _, _, _, _, _, _, _, _, _, _, _, _, _, _, _, _, _, _, _, _, _, _, _, _, _, _, _, _, _, _, _]) vZ sizeOf3 rfl rfl (by first | rfl | assumption) rfl rfl) ?_)))
    rintro _ JE uX
    refine aA (aj (ay (ah (aV rfl (aA (aj (aJ (aP (.inl rfl) results23 rfl ?_))))))))
    have hs : s.uo = { s.y9 s.top with jy := true, cls := 2, c := { (s.y9 s.top).c with mark := Xl (s.y9 s.top).c.L (s.y9 s.top).c.mark s.c.pt, fr := s.c.pt, to := s.c.pt + s.top.length } } := by unfold aY.uo; rw [if_pos (hY.trans hI)]
    exact ⟨by rw [hY, hI], by rw [hs]; exact aB.dG (s := { s.y9 s.top with jy := true, cls := 2, c := { (s.y9 s.top).c with mark := Xl (s.y9 s.top).c.L (s.y9 s.top).c.mark s.c.pt, fr := s.c.pt, to := s.c.pt + s.top.length } }) cZ bC uX.f12.right.f11.f11.f11.f11.f11.f11.f11.f11.f11.f11.f11⟩
theorem NT {L : List Int} {i j : Int} {l : List Int} (h : iM L i j l = 0) : 0 ≤ i ∧ i ≤ L.length := by
  unfold iM at h
  split at h
  · cases h
  · omega
theorem TL (s : aY) (x : eH) : (s.jZ x).c.fr = s.c.fr := by unfold aY.jZ; split; rfl; split <;> rfl
theorem TM (s : aY) (i j : Int) (l : List Int) : (s.eY i j l).c.fr = s.c.fr := by unfold aY.eY; split; rw [TL]; rfl; rfl
theorem VB (s : aY) (x : eH) : (s.jZ x).c.E = s.c.E := by unfold aY.jZ; split; rfl; split <;> rfl
theorem VD (s : aY) (i j : Int) (l : List Int) : (s.eY i j l).c.E = s.c.E := by unfold aY.eY; split; rw [VB]; rfl; rfl
theorem NU (H : aB w0 w (dD e s • F)) : fQ prog 24 #[.pointer (some ⟨e, 0, none⟩), .int .i64 x] w fun v' w' => v' = .int .i64 (s.ER x) ∧ aB w0 w' (dD e (s.xJ x) • F) := by
 refine gX func24 ntmps24 ?_
 dsimp only [bg, Nat.reduceAdd]
 refine ay (ah (aV rfl (aA (aj (ay (ay (ah (aO rfl (dw rfl func51 (gJ H) ?_)))))))))
 rintro _ _ ⟨rfl, rfl⟩
 refine aV rfl (aA (aj (ay (ah (aO rfl (aU (bZ rfl rfl) (aA (aj (aH rfl (fun h1 => ?_) (fun h1 => ?_))))))))))
 ·(try simp only [aG] at h1)
  obtain ⟨hin, hpe⟩ := nZ h1
  refine ay (ah (aO rfl (aV rfl (aA (aj (aJ (aK (aP (.inl rfl) results24 rfl ?_))))))))
  rw [hpe]
  exact ⟨by simp [aY.ER, aY.xJ, hin], by rw [show s.xJ x = s from by simp [aY.ER, aY.xJ, hin]]; exact H⟩
 ·(try simp only [aG] at h1)
  have hin := lq h1
  refine aS (aj (ay (ay ?_)))
  obtain ⟨nD, nN, nO, oG, nP, nR, nS, nT, mG, lu, lC, lD, lF, lG, lH, lI, lJ, lK, lM, lN, cZ, bC, gG, dn⟩ := (H).Ak
  have hL : s.c.L.length ≤ 1024 := by obtain ⟨a, c, xs, f, t, h1, h2, h3, h4, h5, h6, h7, hc1, hc2, hl, H1⟩ := (dn.f2).buf; exact h4
  have hR := Lc (zS (dn.f3)).2.2 (vJ s.c.E.length s.c.at_ x)
  refine ah (aO rfl (bH rfl (aZ 0 underlying66 rfl sizeOf62 rfl (aZ 6 underlying62 rfl sizeOf3 rfl (cO underlying3 rfl (dn).get.2 rfl (aU (bZ rfl rfl) (jo rfl (fun h2 => ?_) (fun h2 => ?_))))))))
  ·(try simp only [aG] at h2)
   refine bI (bI (bI (bI (jO rfl rfl (aA (aj (yL (ay (ah (aV rfl (aA (aj (aJ (aK (aP (.inl rfl) results24 rfl ?_)))))))))))))))
   have hb : s.c.last ≠ 2 ∨ s.jy = true := by simp_all
   have hP : s.ER x = 6 := by unfold aY.ER; rw [if_pos hin, if_pos hb]
   exact ⟨by rw [hP], by rw [show s.xJ x = s from by unfold aY.xJ; rw [if_neg (by rw [hP]; decide)]]; exact aB.dG cZ bC dn.f11.f11.f11.f11.f11.f11.f11.f11.f11.f11.f11⟩
  ·(try simp only [aG] at h2)
   refine bD (aO rfl (bD (bH rfl (bD (aZ 30 underlying66 rfl sizeOf4 rfl (bD (cO underlying4 rfl (dn).get.2 rfl (jr rfl rfl (aA (aj (aH rfl (fun h3 => ?_) (fun h3 => ?_))))))))))))
   ·(try simp only [aG] at h3)
    refine ay (ah (aV rfl (aA (aj (aJ (aK (aP (.inl rfl) results24 rfl ?_)))))))
    have hb : s.c.last ≠ 2 ∨ s.jy = true := by simp_all
    have hP : s.ER x = 6 := by unfold aY.ER; rw [if_pos hin, if_pos hb]
    exact ⟨by rw [hP], by rw [show s.xJ x = s from by unfold aY.xJ; rw [if_neg (by rw [hP]; decide)]]; exact aB.dG cZ bC dn.f11.f11.f11.f11.f11.f11.f11.f11.f11.f11.f11⟩
   ·(try simp only [aG] at h3)
    refine aS (aj (ay ?_))
    have hb : ¬ (s.c.last ≠ 2 ∨ s.jy = true) := by simp_all
    have hP : s.ER x = if s.c.E.length = 0 then 6 else s.jE s.c.fr s.c.to (s.yA x) := by unfold aY.ER; rw [if_pos hin, if_neg hb]
    refine ah (aO rfl (bH rfl (aZ 0 underlying66 rfl sizeOf62 rfl (aZ 1 underlying62 rfl sizeOf58 rfl (cO underlying58 rfl (dn).get.2 rfl (dw rfl func72 (tC dn.f3) ?_))))))
    rintro _ w3 ⟨pc3, rfl, H3⟩
    refine aV rfl (aA (aj (ay (ah (aO rfl (aO rfl (dw rfl func73 (xA H3) ?_)))))))
    rintro _ w4 ⟨u4, rfl, H4⟩
    refine aO rfl (nX rfl rfl (nX rfl rfl (aV rfl (aV rfl (aA (aj (ay (ay (ah (aO rfl (aU (bZ rfl rfl) (aA (aj (aH rfl (fun h4 => ?_) (fun h4 => ?_)))))))))))))))
    ·(try simp only [aG] at h4)
     have h6 : s.c.E.length = 0 := by by_cases hx : s.c.E.length = 0; exact hx; exact absurd (if_neg hx) h4
     rw [if_pos h6] at hP
     refine ay (ah (aO rfl (aV rfl (aA (aj (aJ (aK (aP (.inl rfl) results24 rfl ?_))))))))
     exact ⟨by rw [hP]; show Value.int _ (if s.c.E.length = 0 then 6 else 0) = _; rw [if_pos h6], by rw [show s.xJ x = s from by unfold aY.xJ; rw [if_neg (by rw [hP]; decide)]]; exact aB.dG cZ bC H4.right.right.f11.f11.f11.f11.f11.f11.f11.f11.f9.f11.f11⟩
    ·(try simp only [aG] at h4)
     have h6 : ¬ s.c.E.length = 0 := fun hx => by rw [if_pos hx] at h4; exact absurd h4 (by decide)
     rw [if_neg h6] at hP
     have HX := H4
     simp only [if_neg h6] at HX
     refine aS (aj (ay (ay ?_)))
     have WH := HX.drew
     have qB := aB.kp (WH.f13.f13.f13.f13.f13.f13.f13.f13.f13.f13.f13.f13.f13)
     refine uH [5, 10] qB rfl (fU 0 rfl qB rfl (fU 1 rfl qB rfl (iT 2 rfl qB rfl (dP 3 rfl qB 0 underlying66 rfl sizeOf62 rfl (dP 4 rfl qB 7 underlying62 rfl sizeOf3 rfl (gQ 5 rfl qB (fun W hW => iI underlying3 rfl ((Kp.h hW).f4).get.2 rfl) (fU 6 rfl qB rfl (iT 7 rfl qB rfl (dP 8 rfl qB 0 underlying66 rfl sizeOf62 rfl (dP 9 rfl qB 8 underlying62 rfl sizeOf3 rfl (gQ 10 rfl qB (fun W hW => iI underlying3 rfl ((Kp.h hW).f4).get.2 rfl) (fU 11 rfl qB rfl ?_))))))))))))
     have Vs := WH.f13.f13.f13.f13.f13.f13.f13.f13.f11.f13.f13
     have Vt := aB.dG (s := s) cZ bC Vs
     refine jH 12 rfl (rU rfl func47 (kP Vt (fun W HW => (HW).aT))) ?_
     rintro _ w8 ⟨rfl, H8⟩
     have Ja := aB.kp (H8.f3.f3.f3)
     refine fA Ja (by kernel_rfl) ?_
     refine iJ 13 rfl Ja (fun _ => fO rfl) (mg (aj (ay (ah (aO rfl (aU (bZ rfl rfl) (aA (aj (aH rfl (fun h5 => ?_) (fun h5 => ?_))))))))))
     ·(try simp only [aG] at h5)
      have hI : s.jE s.c.fr s.c.to (s.yA x) ≠ 0 := h5
      refine ay (ah (aO rfl (aV rfl (aA (aj (aJ (aK (aP (.inl rfl) results24 rfl ?_))))))))
      exact ⟨by rw [hP]; rfl, by rw [show s.xJ x = s from by unfold aY.xJ; rw [if_neg (by rw [hP]; exact hI)]]; have HX := H8.f2.right.f2.right; rw [show s.eY s.c.fr s.c.to (s.c.E.getD (vJ s.c.E.length s.c.at_ x) []) = s from Ib hI] at HX; exact HX⟩
     ·(try simp only [aG] at h5)
      have hI : s.jE s.c.fr s.c.to (s.yA x) = 0 := h5
      have hrg : 0 ≤ s.c.fr ∧ s.c.fr ≤ s.c.L.length := NT (by unfold aY.jE at hI; rw [if_pos hin] at hI; exact hI)
      obtain ⟨nD, nN, nO, oG, nP, nR, nS, nT, mG, lu, lC, lD, lF, lG, lH, lI, lJ, lK, lM, lN, cZ, bC, gG, dn⟩ := (H8).Ak
      have hfr := TM s s.c.fr s.c.to (s.yA x)
      have hEE := VD s s.c.fr s.c.to (s.yA x)
      unfold aY.yA at hfr
      refine aS (aj (ay (ah (aO rfl (aO rfl (aO rfl (aO rfl (bH rfl (aZ 0 underlying66 rfl sizeOf62 rfl (aZ 1 underlying62 rfl sizeOf58 rfl (aI (aN 1 (l' := [_, _, _, _, _, _, _, _, _, _, _, _, _, _, _, _, _, _, _, _, _, _, _, _, _, _, _, _, _, _, _, _, _, _]) dn sizeOf58 rfl rfl (by first | rfl | assumption) rfl rfl) ?_)))))))))))
      rintro _ w10 oP
      refine bH rfl (aZ 30 underlying66 rfl sizeOf4 rfl (aI (aN 30 (l' := [_, _, _, _, _, _, _, _, _, _, _, _, _, _, _, _, _, _, _, _, _, _, _, _, _, _, _, _, _, _, _, _, _, _]) oP sizeOf4 rfl rfl (by first | rfl | assumption) rfl rfl) ?_))
      rintro _ FT uV
      refine bH rfl (aZ 28 underlying66 rfl sizeOf3 rfl (aI (aN 28 (l' := [_, _, _, _, _, _, _, _, _, _, _, _, _, _, _, _, _, _, _, _, _, _, _, _, _, _, _, _, _, _, _, _, _, _]) uV sizeOf3 rfl rfl (by first | rfl | assumption) rfl rfl) ?_))
      rintro _ w12 rV
      refine aA (aj (ay (ah (aO rfl (aO rfl (bH rfl (aZ 0 underlying66 rfl sizeOf62 rfl (aZ 7 underlying62 rfl sizeOf3 rfl (cO underlying3 rfl (rV).get.2 rfl (aO rfl (aU (oz ((rV.f12).aT) underlying22 rfl) (aU (eP rfl rfl (by omega)) (bH rfl (aZ 0 underlying66 rfl sizeOf62 rfl (aZ 8 underlying62 rfl sizeOf3 rfl (aI (aN 8 (l' := [_, _, _, _, _, _, _, _, _, _, _, _, _, _, _, _, _, _, _, _, _, _, _, _, _, _, _, _, _, _, _, _, _, _]) rV sizeOf3 rfl rfl (by first | rfl | assumption) rfl rfl) ?_))))))))))))))))
      rintro _ MB vZ
      refine aA (aj (ay (ah (aV rfl (aA (aj (aJ (aP (.inl rfl) results24 rfl ?_))))))))
      have hs : s.xJ x = { s.eY s.c.fr s.c.to (s.yA x) with jy := true, cls := 2, c := { (s.eY s.c.fr s.c.to (s.yA x)).c with E := s.c.E, at_ := vJ s.c.E.length s.c.at_ x, fr := s.c.fr, to := s.c.fr + (s.yA x).length } } := by unfold aY.xJ; rw [if_pos (hP.trans hI)]
      have HX := vZ.f3.right.f11.right.f10.f10.f10.f10.f10.f10.f10.f10.f11.f11.f11
      rw [hfr] at HX
      exact ⟨by rw [hP, hI], by rw [hs]; exact aB.dG (s := { s.eY s.c.fr s.c.to (s.yA x) with jy := true, cls := 2, c := { (s.eY s.c.fr s.c.to (s.yA x)).c with E := s.c.E, at_ := vJ s.c.E.length s.c.at_ x, fr := s.c.fr, to := s.c.fr + (s.yA x).length } }) cZ bC HX⟩
end
end Go.Proofs.YtgmpclifphbjkaaGreatDoor
end
