import Derived.Test.YtddekefihgejoaaGreatDoorZ2
import Derived.Test.YtddekefihgejoaaGreatDoorZ11
set_option linter.unusedSimpArgs false
set_option linter.unusedVariables false
/- Texts of mine, joined, their names in short: EdR EdK EdF. -/
section
namespace Go.Proofs.YtddekefihgejoaaGreatDoor
open Go.RowKit
open _root_.Go.Proofs.Tryz
theorem uH {L : List Int} {i j : Int} {l : List Int} (h : kE L i j l ≠ 0) : jT L i j l = [] ∧ jU L i j l = [] := by unfold jT jU; rw [if_neg h, if_neg h]; exact ⟨rfl, rfl⟩
theorem TW {L : List Int} {i j : Int} {l : List Int} (hL : L.length ≤ 1024) (h : 0 < (jT L i j l).length + (jU L i j l).length) : vH (oW L i j l, jT L i j l, jU L i j l) := by
  by_cases h0 : kE L i j l = 0
  · refine ⟨?_, h, ?_, ?_⟩
    · show 0 ≤ oW L i j l
      unfold oW; rw [if_pos h0]
      unfold kE at h0
      split at h0
      · cases h0
      · omega
    · show (jT L i j l).length ≤ 1024
      unfold jT; rw [if_pos h0]
      simp only [List.length_take, List.length_drop]; omega
    · show (jU L i j l).length ≤ 1024
      unfold jU; rw [if_pos h0]
      unfold kE at h0
      split at h0
      · cases h0
      · split at h0
        · cases h0
        · omega
  · rw [(uH h0).1, (uH h0).2] at h
    simp at h
theorem Q8 {L : List Int} {i j : Int} {l : List Int} (hL : L.length ≤ 1024) : (jT L i j l).length ≤ 1024 ∧ (jU L i j l).length ≤ 1024 := by
  by_cases h0 : kE L i j l = 0
  · refine ⟨?_, ?_⟩
    · unfold jT; rw [if_pos h0]
      simp only [List.length_take, List.length_drop]; omega
    · unfold jU; rw [if_pos h0]
      unfold kE at h0
      split at h0
      · cases h0
      · split at h0
        · cases h0
        · omega
  · rw [(uH h0).1, (uH h0).2]; simp
theorem DY {s : bG} {x : fB} (h : x.2.1.length + x.2.2.length = 0) : s.xH x = s := by unfold bG.xH; rw [if_pos h]
theorem Aa {s : bG} {x : fB} (h : 0 < x.2.1.length + x.2.2.length) (k : ¬ 16384 ≤ eH s.here s.put) : s.xH x = { s with put := s.put ++ [x] } := by unfold bG.xH; rw [if_neg (by omega), if_neg k]
theorem Ac {s : bG} {x : fB} (h : 0 < x.2.1.length + x.2.2.length) (k : 16384 ≤ eH s.here s.put) : s.xH x = { s.nP [] with put := [x], c := { (s.nP []).c with run := false } } := by unfold bG.xH; rw [if_neg (by omega), if_pos k]
theorem oD (G : List (List fB)) (N : List fB) : eH G N = eH G [] + N.length := by unfold eH; simp
theorem Nc {s : bG} {x : fB} (h : jV s) (hx : 0 < x.2.1.length + x.2.2.length → vH x) : jV (s.xH x) := by
  by_cases h0 : x.2.1.length + x.2.2.length = 0
  · rw [DY h0]; exact h
  · have hx' := hx (by omega)
    obtain ⟨h1, h2, h3, h4, h5, h6⟩ := h
    by_cases hf : 16384 ≤ eH s.here s.put
    · rw [Ac (by omega) hf]
      refine ⟨h1, h2, h3, fun e he => by rw [List.mem_singleton.1 he]; exact hx', ?_, ?_⟩
      · show eH (sZ s.c.un s.c.place [] s.c.place) [x] ≤ 16384
        rw [iC]; simp [eH]
      · intro k g hg
        have hg' : g ∈ sZ s.c.un s.c.place [] k := hg
        by_cases hk : k = s.c.place
        · subst hk; rw [iC] at hg'; cases hg'
        · rw [rD _ _ hk] at hg'; exact h6 k g hg'
    · rw [Aa (by omega) hf]
      refine ⟨h1, h2, h3, fun e he => ?_, ?_, h6⟩
      · rcases List.mem_append.1 he with he | he
        · exact h4 e he
        · rw [List.mem_singleton.1 he]; exact hx'
      · show eH s.here (s.put ++ [x]) ≤ 16384
        rw [Gj]; omega
section
variable {w0 w : World} {F : HP} {e p h pr : Nat} {s : bG} {i j x : Int} {b : Bool} {v : Value} {l : List Int}
theorem DZ (H : aB w0 w (dK e s • F)) (hr : iT w0 F .i32 v l) : fE prog 88 #[.pointer (some ⟨e, 0, none⟩), .int .i64 i, .int .i64 j, v] w fun v' w' => v' = .int .i64 (s.oC i j l) ∧ aB w0 w' (dK e (s.su i j l) • F) := by
 refine gy func88 ntmps88 ?_
 dsimp only [aY, Nat.reduceAdd]
 refine ay (ah (aV rfl (aA (aj (ay (ay (ah (aN rfl (dw rfl func81 (kM H) ?_)))))))))
 rintro _ _ ⟨rfl, rfl⟩
 refine aV rfl (aA (aj (ay (ah (aN rfl (aU (dZ rfl rfl) (aA (aj (aP rfl (fun h1 => ?_) (fun h1 => ?_))))))))))
 ·(try simp only [aI] at h1)
  obtain ⟨hin, hpe⟩ := BX h1
  refine ay (ah (aN rfl (aV rfl (aA (aj (aJ (aK (aQ (.inl rfl) results88 rfl ?_))))))))
  rw [hpe]
  exact ⟨by simp [bG.oC, bG.su, hin], by rw [show s.su i j l = s from by simp [bG.oC, bG.su, hin]]; exact H⟩
 ·(try simp only [aI] at h1)
  have hin := zk h1
  refine aT (aj (ay ?_))
  obtain ⟨qj, ql, qo, qp, qx, qy, qA, qB, nY, mD, mF, mG, mJ, mM, mO, mP, mQ, mV, mW, mX, dF, bK, gV, dY⟩ := (H).DR
  have hL : s.c.L.length ≤ 1024 := by obtain ⟨a, c, xs, f, t, h1, h2, h3, h4, h5, h6, h7, hc1, hc2, hl, H1⟩ := (dY.f2).buf; exact h4
  have hE : s.oC i j l = kE s.c.L i j l := by unfold bG.oC; rw [if_pos hin]
  have hS : s.su i j l = (s.jJ (pK s.c.L i j l) (pO s.c.L s.c.pt i j l) (pR s.c.L s.c.mark i j l)).xH (oW s.c.L i j l, jT s.c.L i j l, jU s.c.L i j l) := by unfold bG.su; rw [if_pos hin]
  have hln := Q8 (i := i) (j := j) (l := l) hL
  have hput : eH s.here s.put ≤ 16384 := dF.2.2.2.2.1
  have hsp : eH s.here s.put = eH (s.c.un s.c.place) [] + s.put.length := oD _ _
  have hok := TW (i := i) (j := j) (l := l) hL
  have hno := uH (L := s.c.L) (i := i) (j := j) (l := l)
  refine ah (aN rfl (bP rfl (bg 0 underlying69 rfl sizeOf64 rfl (bg 0 underlying64 rfl sizeOf59 rfl (dO underlying59 rfl (dY).get.2 rfl (aN rfl (aN rfl (aN rfl (dw rfl func136 (Bz dY.f2 (fun W HW => hr _ (HW.right.right.right.right.right.right.right.right.right.right))) ?_)))))))))
  rintro _ w3 ⟨d3, s3, rfl, H3⟩
  refine aN rfl (yA rfl rfl (yA rfl rfl (gq (bU (l := [_, _, _]) H3 zeroValue202 rfl) ?_)))
  rintro _ w4 ⟨b4, rfl, H4⟩
  refine aG (bn 0 (l' := [_, _, _]) (us := [_, _, _]) H4 sizeOf202 rfl rfl rfl (aC (by first | rfl | assumption) (aC (by first | rfl | exact Rd.one ((H4.f2).aO)) (aC (by first | rfl | exact Rd.one ((H4.f3).aO)) aZ))) rfl rfl) ?_
  rintro _ w5 H5
  refine aV rfl (aA (aj (ay (ay (ah (aN rfl (aU (iY rfl rfl) (jy rfl (fun h2 => ?_) (fun h2 => ?_)))))))))
  ·(try simp only [aI] at h2)
   refine bC (bg 1 underlying202 rfl sizeOf23 rfl (bC (dO underlying23 rfl (H5).get.2 rfl (bC (aU (gG ((H5.f2).aO) underlying23 rfl) (bC (bg 2 underlying202 rfl sizeOf23 rfl (bC (dO underlying23 rfl (H5).get.2 rfl (bC (aU (gG ((H5.f3).aO) underlying23 rfl) (bC (aU (dS rfl rfl (by omega)) (bC (aU (fZ rfl rfl) (jw rfl rfl (aA (aj (aP rfl (fun h3 => ?_) (fun h3 => ?_))))))))))))))))))))
   ·(try simp only [aI] at h3)
    have hlen : 0 < (jT s.c.L i j l).length + (jU s.c.L i j l).length := by omega
    refine ay (ay ?_)
    have VU := H5.drew
    have D5 := aB.kp (VU.f9.right.f13.f13.f13.f13.f13.f13.f13.f13.f13.f13.f13.f13.f13)
    refine vV [6] D5 rfl (gQ 0 rfl D5 rfl (gQ 3 rfl D5 rfl (iQ 4 rfl D5 rfl (dR 5 rfl D5 33 underlying69 rfl sizeOf67 rfl (gY 6 rfl D5 (fun W hW => iH underlying67 rfl ((Kp.h hW).f5).get.2 rfl) (iJ 7 rfl D5 (fun _ => fM ((VU.f12).aO) underlying67 rfl) (jk 1 rfl (rP rfl func128 (wI VU.f9.f8.f7)) ?_)))))))
    rintro _ w6 ⟨lp6, rfl, H6⟩
    have BJ := aB.kp (H6.right.f14.f14.f14.f14.f14.f14.f14.f14.f14.f14.f14.f14.f14.f14)
    refine bT BJ (fun W hW => (Kp.h hW).right.f13.f13.f13.f13.f13.f13.f8.f13.f9.f13.f13.f13.f13) ?_
    refine jk 2 rfl (rP rfl func137 (Dt H6)) ?_
    rintro _ w7 ⟨rfl, H7⟩
    have xq := aB.kp (H7.f15.f15.f15.f15.f15.f15.f15.f15.f15.f15.f15.f15.f15.f15.f15)
    refine bT xq (fun W hW => (Kp.h hW).right.f14.f14.f14.f14.f14.f14.f14.f14.f14.f14.f14.f14.f14.f14) ?_
    refine iJ 8 rfl xq (fun _ => dS rfl rfl (by omega)) (iJ 9 rfl xq (fun _ => vY rfl rfl) ?_)
    have Yd := H7.f2
    have WH := aB.Gx Yd
    refine nT (aj (aP rfl (fun h4 => ?_) (fun h4 => ?_)))
    ·(try simp only [aI] at h4)
     have Jm : 16384 ≤ eH (s.jJ (pK s.c.L i j l) (pO s.c.L s.c.pt i j l) (pR s.c.L s.c.mark i j l)).here (s.jJ (pK s.c.L i j l) (pO s.c.L s.c.pt i j l) (pR s.c.L s.c.mark i j l)).put := by show 16384 ≤ eH s.here s.put; omega
     refine ay (ah (aN rfl (dw rfl func128 (wI WH.f3.f3) ?_)))
     rintro _ w10 ⟨ab5, rfl, qH⟩
     refine dw rfl func138 (DC qH) ?_
     rintro _ Hr uQ
     have KR := uQ.f2
     have KT := aB.uF KR
     refine aA (aj (ah (aN rfl (aN rfl (bP rfl (bg 33 underlying69 rfl sizeOf67 rfl (aG (aS 33 (l' := [_, _, _, _, _, _, _, _, _, _, _, _, _, _, _, _, _, _, _, _, _, _, _, _, _, _, _, _, _, _, _, _, _, _]) KT.f2 sizeOf67 rfl rfl (by first | rfl | assumption) rfl rfl) ?_)))))))
     rintro _ NZ yB
     refine bP rfl (bg 0 underlying69 rfl sizeOf64 rfl (bg 10 underlying64 rfl sizeOf4 rfl (aG (aS 10 (l' := [_, _, _, _, _, _, _, _, _, _, _, _, _, _, _, _, _, _, _, _, _, _, _, _, _, _, _, _, _, _, _, _, _, _]) yB sizeOf4 rfl rfl (by first | rfl | assumption) rfl rfl) ?_)))
     rintro _ PY wC
     refine aA (aj ?_)
     have U2 := wC.drew
     have yg := aB.kp (U2.f14.f14.f14.f14.f14.f14.f14.f14.f14.f14.f14.f14.f14.f14)
     refine vV [4, 5] yg rfl (gQ 0 rfl yg rfl (gQ 1 rfl yg rfl (iQ 2 rfl yg rfl (dR 3 rfl yg 33 underlying69 rfl sizeOf67 rfl (gY 4 rfl yg (fun W hW => iH underlying67 rfl ((Kp.h hW)).get.2 rfl) (gY 5 rfl yg (fun W hW => bQ underlying202 rfl sizeOf202 rfl rfl ((Kp.h hW).f4).get.2) (jk 6 rfl (lV U2 underlying67 sizeOf202 zeroValue202 rfl rfl rfl (by decide) (by decide)) ?_)))))))
     rintro YT w16 qY
     have y8 := aB.kp (qY.f15.f15.f15.f15.f15.f15.f15.f15.f15.f15.f15.f15.f15.f15.f15)
     refine bT y8 (fun W hW => (Kp.h hW).right.f14.f14.f14.f14.f14.f14.f14.f14.f14.f14.f14.f14.f14.f14) ?_
     refine jk 7 rfl (fF (qY.ig none) underlying67 (show (prog.info? 202).map (fun i => (i.zero, i.size, i.bytes)) = some (some (.agg #[.int .i64 0, .slice none 0 0, .slice none 0 0]), 3, 56) by kernel_rfl) rfl rfl rfl ((qY).aO) (aC (by first | rfl | assumption) (aC (by first | rfl | exact Rd.one ((qY.f6).aO)) (aC (by first | rfl | exact Rd.one ((qY.f7).aO)) aZ))) (by omega) (by omega)) ?_
     rintro l17 Tz yC
     have Q9 := yC.f2.right
     have yZ := aB.kp (Q9.f15.f15.f15.f15.f15.f15.f15.f15.f15.f15.f15.f15.f15.f15.f15)
     refine dN yZ (by kernel_rfl) ?_
     refine iQ 8 rfl yZ rfl (dR 9 rfl yZ 33 underlying69 rfl sizeOf67 rfl ?_)
     refine dJ 10 rfl (by kernel_rfl) (aS 33 (l' := [_, _, _, _, _, _, _, _, _, _, _, _, _, _, _, _, _, _, _, _, _, _, _, _, _, _, _, _, _, _, _, _, _, _]) Q9.f2 sizeOf67 rfl rfl (by first | rfl | exact Rd.one ((Q9).aO)) rfl rfl) ?_
     rintro _ PZ uY
     have Jd := aB.kp (uY.f15.f15.f15.f15.f15.f15.f15.f15.f15.f15.f15.f15.f15.f15.f15)
     refine dN Jd (by kernel_rfl) ?_
     refine nT (aj (ay (ah (aN rfl (aV rfl (aA (aj (aJ (aQ (.inl rfl) results88 rfl ?_)))))))))
     have X := (uY.f5.right.f12.right.f12.right.f12.f12.f12.f6.f12.f8.f12.f12.f9.f10.f12.f12).jo.swap.jo.swap
     have X2 := aB.um (es := []) X.Dq.f3.f3.f4
     exact ⟨by rw [hE]; rfl, by rw [hS, Ac (x := (oW s.c.L i j l, jT s.c.L i j l, jU s.c.L i j l)) hlen Jm]; exact aB.Q5 (s := { (s.jJ (pK s.c.L i j l) (pO s.c.L s.c.pt i j l) (pR s.c.L s.c.mark i j l)).nP [] with put := [(oW s.c.L i j l, jT s.c.L i j l, jU s.c.L i j l)], c := { ((s.jJ (pK s.c.L i j l) (pO s.c.L s.c.pt i j l) (pR s.c.L s.c.mark i j l)).nP []).c with run := false } }) (Ac (x := (oW s.c.L i j l, jT s.c.L i j l, jU s.c.L i j l)) hlen Jm ▸ Nc (uG dF _ _ _) hok) rfl X2⟩
    ·(try simp only [aI] at h4)
     have Jm : ¬ 16384 ≤ eH (s.jJ (pK s.c.L i j l) (pO s.c.L s.c.pt i j l) (pR s.c.L s.c.mark i j l)).here (s.jJ (pK s.c.L i j l) (pO s.c.L s.c.pt i j l) (pR s.c.L s.c.mark i j l)).put := by show ¬ 16384 ≤ eH s.here s.put; omega
     refine aT (aj ?_)
     have Fj := WH.drew
     have lS := aB.kp (Fj.f14.f14.f14.f14.f14.f14.f14.f14.f14.f14.f14.f14.f14.f14)
     refine vV [4, 5] lS rfl (gQ 0 rfl lS rfl (gQ 1 rfl lS rfl (iQ 2 rfl lS rfl (dR 3 rfl lS 33 underlying69 rfl sizeOf67 rfl (gY 4 rfl lS (fun W hW => iH underlying67 rfl ((Kp.h hW).f2).get.2 rfl) (gY 5 rfl lS (fun W hW => bQ underlying202 rfl sizeOf202 rfl rfl ((Kp.h hW).f4).get.2) (jk 6 rfl (lV Fj underlying67 sizeOf202 zeroValue202 rfl rfl rfl (by decide) (by decide)) ?_)))))))
     rintro XT Sz yD
     have zh := aB.kp (yD.f15.f15.f15.f15.f15.f15.f15.f15.f15.f15.f15.f15.f15.f15.f15)
     refine bT zh (fun W hW => (Kp.h hW).right.f14.f14.f14.f14.f14.f14.f14.f14.f14.f14.f14.f14.f14.f14) ?_
     refine jk 7 rfl (fF yD.f13 underlying67 (show (prog.info? 202).map (fun i => (i.zero, i.size, i.bytes)) = some (some (.agg #[.int .i64 0, .slice none 0 0, .slice none 0 0]), 3, 56) by kernel_rfl) rfl rfl rfl ((yD).aO) (aC (by first | rfl | assumption) (aC (by first | rfl | exact Rd.one ((yD.f6).aO)) (aC (by first | rfl | exact Rd.one ((yD.f7).aO)) aZ))) (by omega) (by omega)) ?_
     rintro ZN TA oV
     have BI := oV.f2.right
     have zi := aB.kp (BI.f14.f14.f14.f14.f14.f14.f14.f14.f14.f14.f14.f14.f14.f14)
     refine dN zi (by kernel_rfl) ?_
     refine iQ 8 rfl zi rfl (dR 9 rfl zi 33 underlying69 rfl sizeOf67 rfl ?_)
     refine dJ 10 rfl (by kernel_rfl) (aS 33 (l' := [_, _, _, _, _, _, _, _, _, _, _, _, _, _, _, _, _, _, _, _, _, _, _, _, _, _, _, _, _, _, _, _, _, _]) BI.f3 sizeOf67 rfl rfl (by first | rfl | exact Rd.one ((BI).aO)) rfl rfl) ?_
     rintro _ O7 rV
     have AP := aB.kp (rV.f14.f14.f14.f14.f14.f14.f14.f14.f14.f14.f14.f14.f14.f14)
     refine dN AP (by kernel_rfl) ?_
     refine nT (aj (ay (ah (aN rfl (aV rfl (aA (aj (aJ (aQ (.inl rfl) results88 rfl ?_)))))))))
     have X := (rV.f5.right.f13.f12.f12.f6.f12.f8.f12.f12.f9.f13.f11.f13.f13).jo.swap.jo.swap
     rw [← gV] at X
     have X2 := aB.um X.f3
     exact ⟨by rw [hE]; rfl, by rw [hS, Aa (x := (oW s.c.L i j l, jT s.c.L i j l, jU s.c.L i j l)) hlen Jm]; exact aB.Q5 (s := { s.jJ (pK s.c.L i j l) (pO s.c.L s.c.pt i j l) (pR s.c.L s.c.mark i j l) with put := s.put ++ [(oW s.c.L i j l, jT s.c.L i j l, jU s.c.L i j l)] }) (Aa (x := (oW s.c.L i j l, jT s.c.L i j l, jU s.c.L i j l)) hlen Jm ▸ Nc (uG dF _ _ _) hok) (by rw [List.map_append, bK]; rfl) X2⟩
   ·(try simp only [aI] at h3)
    have hlen : (jT s.c.L i j l).length + (jU s.c.L i j l).length = 0 := by omega
    refine aT (aj (ay (ah (aN rfl (aV rfl (aA (aj (aJ (aQ (.inl rfl) results88 rfl ?_)))))))))
    exact ⟨by rw [hE]; rfl, by rw [hS, DY (x := (oW s.c.L i j l, jT s.c.L i j l, jU s.c.L i j l)) hlen]; exact aB.dW (s := s.jJ (pK s.c.L i j l) (pO s.c.L s.c.pt i j l) (pR s.c.L s.c.mark i j l)) (uG dF _ _ _) bK H5.right.right.right.f11.f11.f11.f11.f11.f11.f11.f11.f11.f10.f11⟩
  ·(try simp only [aI] at h2)
   have hlen : (jT s.c.L i j l).length + (jU s.c.L i j l).length = 0 := by rw [(hno h2).1, (hno h2).2]; rfl
   refine bF (bF (bF (bF (bF (bF (bF (bF (iU rfl rfl (aA (aj (pJ (aT (aj (ay (ah (aN rfl (aV rfl (aA (aj (aJ (aQ (.inl rfl) results88 rfl ?_)))))))))))))))))))))
   exact ⟨by rw [hE]; rfl, by rw [hS, DY (x := (oW s.c.L i j l, jT s.c.L i j l, jU s.c.L i j l)) hlen]; exact aB.dW (s := s.jJ (pK s.c.L i j l) (pO s.c.L s.c.pt i j l) (pR s.c.L s.c.mark i j l)) (uG dF _ _ _) bK H5.right.right.right.f11.f11.f11.f11.f11.f11.f11.f11.f11.f10.f11⟩
theorem EG (H : aB w0 w (dK e s • F)) (hr : iT w0 F .i32 v l) : fE prog 39 #[.pointer (some ⟨e, 0, none⟩), v] w fun v' w' => v' = .int .i64 (s.QB l) ∧ aB w0 w' (dK e (s.Oo l) • F) := by
 refine gy func39 ntmps39 ?_
 dsimp only [aY, Nat.reduceAdd]
 refine ay (ah (aV rfl (aA (aj (ay (ay (ah (aN rfl (dw rfl func81 (kM H) ?_)))))))))
 rintro _ _ ⟨rfl, rfl⟩
 refine aV rfl (aA (aj (ay (ah (aN rfl (aU (dZ rfl rfl) (aA (aj (aP rfl (fun h1 => ?_) (fun h1 => ?_))))))))))
 ·(try simp only [aI] at h1)
  obtain ⟨hin, hpe⟩ := BX h1
  refine ay (ah (aN rfl (aV rfl (aA (aj (aJ (aK (aQ (.inl rfl) results39 rfl ?_))))))))
  rw [hpe]
  exact ⟨by simp [bG.QB, bG.Oo, bG.oC, bG.su, hin], by rw [show s.Oo l = s from by simp [bG.QB, bG.Oo, bG.oC, bG.su, hin]]; exact H⟩
 ·(try simp only [aI] at h1)
  have hin := zk h1
  refine aT (aj (ay ?_))
  obtain ⟨qj, ql, qo, qp, qx, qy, qA, qB, nY, mD, mF, mG, mJ, mM, mO, mP, mQ, mV, mW, mX, dF, bK, gV, dY⟩ := (H).DR
  have Ox := dY.drew
  have uI := aB.kp (Ox.f11.f11.f11.f11.f11.f11.f11.f11.f11.f11.f11)
  refine vV [5, 11] uI rfl (gQ 0 rfl uI rfl (gQ 1 rfl uI rfl (iQ 2 rfl uI rfl (dR 3 rfl uI 0 underlying69 rfl sizeOf64 rfl (dR 4 rfl uI 0 underlying64 rfl sizeOf59 rfl (gY 5 rfl uI (fun W hW => iH underlying59 rfl ((Kp.h hW)).get.2 rfl) (gQ 7 rfl uI rfl (iQ 8 rfl uI rfl (dR 9 rfl uI 0 underlying69 rfl sizeOf64 rfl (dR 10 rfl uI 0 underlying64 rfl sizeOf59 rfl (gY 11 rfl uI (fun W hW => iH underlying59 rfl ((Kp.h hW)).get.2 rfl) (gQ 13 rfl uI rfl (jk 6 rfl (rP rfl func89 (sU Ox.f2)) ?_)))))))))))))
  rintro _ _ ⟨rfl, rfl⟩
  have BF := aB.kp (Ox.f11.f11.f11.f11.f11.f11.f11.f11.f11.f11.f11)
  refine bT BF (fun W hW => (Kp.h hW).f11.f11.f11.f11.f11.f11.f11.f11.f11.f11.f11) ?_
  refine jk 12 rfl (rP rfl func89 (sU Ox.f2)) ?_
  rintro _ _ ⟨rfl, rfl⟩
  have uj := aB.kp (Ox.f11.f11.f11.f11.f11.f11.f11.f11.f11.f11.f11)
  refine dN uj (by kernel_rfl) ?_
  have VB := Ox.f11.f11.f11.f11.f11.f11.f11.f11.f11.f11.f11
  have VD := aB.dW (s := s) dF bK VB
  refine jk 14 rfl (rP rfl func88 (DZ VD (fun W HW => hr _ (HW)))) ?_
  rintro _ w8 ⟨rfl, H8⟩
  have IV := aB.kp (H8)
  refine dN IV (by kernel_rfl) ?_
  refine iJ 15 rfl IV (fun _ => eP rfl) (nT (aj (aJ (aQ (.inl rfl) results39 rfl ?_))))
  exact ⟨rfl, H8⟩
end
end Go.Proofs.YtddekefihgejoaaGreatDoor
end
section
namespace Go.Proofs.YtddekefihgejoaaGreatDoor
open Go.RowKit
section
variable {w0 w : World} {F : HP} {e p h pr : Nat} {s : bG} {i j x : Int} {back : Bool} {v : Value} {l : List Int}
end
end Go.Proofs.YtddekefihgejoaaGreatDoor
end
section
namespace Go.Proofs.YtddekefihgejoaaGreatDoor
open Go.RowKit
open _root_.Go.Proofs.Tryz
theorem TY : (prog.info? 202).map (fun i => (i.zero, i.size, i.bytes)) = some (some (.agg #[.int .i64 0, .slice none 0 0, .slice none 0 0]), 3, 56) := by kernel_rfl
def Nh (c : Nat) (g : List fB) : HP := qJ fun (x : Value × List dn) => fact (x.2.map dn.says = g) • bY c (.cells #[x.1] 67 (0, 0)) • Row 202 3 x.1 x.2.length (x.2.flatMap dn.enc) • jh x.2
section
variable {w0 w : World} {F : HP} {e p c n m : Nat} {s : bG} {i j x : Int} {on : Bool} {v : Value} {g : List fB} {tq es : List dn} {xs : List Value}
theorem BK (H : aB w0 w F) (hr : Ie w0 F 3 v n xs) (hon : ∀ u ∈ xs, u.oneCell' = true) (hb : n ≤ 1099511627776) :
    fE prog 130 #[v] w fun v' w' => aB w0 w' (Row 202 3 v' n xs • F) := by
  obtain ⟨hlen, a, c, rfl, h2, h3, h4⟩ := hr w H
  refine gy func130 ntmps130 ?_
  dsimp only [aY, Nat.reduceAdd]
  refine ay (ah (aV rfl (aA (aj (ay (ay (ah (aN rfl (aU (jm underlying67 rfl rfl) (aA (aj (aP rfl (fun h1 => ?_) (fun h1 => ?_)))))))))))))
  · (try simp only [aI] at h1)
    try (exfalso; first | contradiction | omega)
    all_goals
      refine ay (ah (aV rfl (aA (aj (aJ (aK (aQ (.inl rfl) results130 rfl ?_)))))))
      obtain rfl : a = none := by simpa using h1
      obtain rfl : n = 0 := by
        rcases Nat.eq_zero_or_pos n with h | h
        · exact h
        · obtain ⟨b, o, e, _⟩ := h4 h; cases e
      obtain rfl : xs = [] := List.eq_nil_of_length_eq_zero (by omega)
      exact H.ig none
  · (try simp only [aI] at h1)
    try (exfalso; first | contradiction | omega)
    all_goals
      refine aT (aj (ay (ah (gq (DJ H underlying67 sizeOf202 zeroValue202) ?_))))
      rintro _ w1 H1
      refine aN rfl (gq (fF H1 underlying67 TY rfl rfl rfl (hr.under _ H1) hon (by omega) (by omega)) ?_)
      rintro _ w2 H2
      refine aV rfl (aA (aj (aJ (aQ (.inl rfl) results130 rfl ?_))))
      exact H2.of_eq (by rw [Nat.zero_add, List.nil_append])
theorem aB.old (H : aB w0 w (Nh c g • F)) : ∃ v es, es.map dn.says = g ∧ aB w0 w (bY c (.cells #[v] 67 (0, 0)) • Row 202 3 v es.length (es.flatMap dn.enc) • jh es • F) := by
  obtain ⟨⟨v, es⟩, H⟩ := H.lg
  obtain ⟨h, H⟩ := H.flat.fact
  exact ⟨v, es, h, H.of_eq (by simp only [bH])⟩
theorem aB.Rf (h : es.map dn.says = g) (H : aB w0 w (bY c (.cells #[v] 67 (0, 0)) • Row 202 3 v es.length (es.flatMap dn.enc) • jh es • F)) : aB w0 w (Nh c g • F) :=
  aB.gJ (v, es) (aB.deep (aB.jL h (H.of_eq (by simp only [bH]))))
theorem aB.Ua (hg : g = []) (H : aB w0 w (bY c (.cells #[.slice none 0 0] 67 (0, 0)) • F)) : aB w0 w (Nh c g • F) :=
  aB.Rf (v := .slice none 0 0) (es := []) hg.symm ((H.oM none).of_eq (by unfold EC; ac_rfl))
theorem aB.Gy (hm : m = es.length) (H : aB w0 w (Row 202 3 v (tq.length + m) (tq.flatMap dn.enc ++ es.flatMap dn.enc) • jh tq • jh es • F)) : aB w0 w (Row 202 3 v (tq ++ es).length ((tq ++ es).flatMap dn.enc) • jh (tq ++ es) • F) := by
  subst hm
  have h1 : aB w0 w (jh tq • jh es • Row 202 3 v (tq.length + es.length) (tq.flatMap dn.enc ++ es.flatMap dn.enc) • F) := H.of_eq (by ac_rfl)
  have h2 : aB w0 w (jh (tq ++ es) • Row 202 3 v (tq.length + es.length) (tq.flatMap dn.enc ++ es.flatMap dn.enc) • F) := h1.Ep (qU (fun I h g => h.app g) _)
  exact h2.swap.of_eq (by rw [List.length_append, List.flatMap_append])
def Rh (s : bG) (on : Bool) (tq : List dn) (G1 : List (List fB)) : Prop := eH G1 [] + tq.length = eH s.here [] ∧ (∀ e ∈ tq, vH e.says) ∧ s.jP on = G1 ++ [tq.map dn.says ++ s.put]
theorem Oy (hp : s.put ≠ []) (hn : on = false) : Rh s on [] s.here := by
  subst hn
  refine ⟨by simp, by simp, ?_⟩
  unfold bG.jP
  rw [if_neg hp, if_neg (by decide)]
  rfl
theorem Gz : ∀ {G : List (List fB)}, G ≠ [] → (G.dropLast.map List.length).sum + (G.getLastD []).length = (G.map List.length).sum := by
  intro G hG
  have h := List.dropLast_concat_getLast hG
  have h2 : G.getLastD [] = G.getLast hG := by rw [List.getLastD_eq_getLast?, List.getLast?_eq_some_getLast hG]; rfl
  rw [h2]
  conv => rhs; rw [← h]
  simp
theorem Jo (hp : s.put ≠ []) (hn : on = true) (hO : ∀ g ∈ s.here, ∀ e ∈ g, vH e) (h : tq.map dn.says = s.here.getLastD []) : Rh s on tq s.here.dropLast := by
  subst hn
  have hlen : tq.length = (s.here.getLastD []).length := by rw [← h]; simp
  have hm : ∀ e ∈ tq, e.says ∈ s.here.getLastD [] := fun e he => by rw [← h]; exact List.mem_map.2 ⟨e, he, rfl⟩
  unfold Rh bG.jP
  rw [if_neg hp, if_pos rfl]
  by_cases h0 : s.here = []
  · rw [h0] at h hlen hm
    have : tq = [] := List.eq_nil_of_length_eq_zero (by simpa using hlen)
    subst this
    rw [h0]
    exact ⟨by simp, by simp, rfl⟩
  · have h2 : s.here.getLastD [] = s.here.getLast h0 := by rw [List.getLastD_eq_getLast?, List.getLast?_eq_some_getLast h0]; rfl
    refine ⟨?_, fun e he => hO _ (List.getLast_mem h0) _ (h2 ▸ hm e he), ?_⟩
    · have := Gz h0
      show (s.here.dropLast.map List.length).sum + 0 + tq.length = (s.here.map List.length).sum + 0
      rw [hlen]; omega
    · rw [List.getLast?_eq_some_getLast h0, h, h2]
theorem D6 (G : List (List fB)) : xX G [] = G.reverse := by unfold xX ji; rw [if_pos rfl]
theorem KZ (G : List (List fB)) : (xX G []).getD 0 [] = G.getLastD [] := by
  rw [D6, List.getD_eq_getElem?_getD, List.getLastD_eq_getLast?]
  congr 1
  cases G.eq_nil_or_concat with
  | inl h => subst h; rfl
  | inr h => obtain ⟨L, b, rfl⟩ := h; simp
theorem Ri {G : List (List fB)} (h : TG G [] 0) : (∀ g ∈ xX G [], ∀ e ∈ g, EB e) ∧ ∀ g ∈ xX G [], g.length ≤ 16384 := by
  rw [D6]
  refine ⟨fun g hg => h.2.2.2.2.1 g (List.mem_reverse.1 hg), fun g hg => ?_⟩
  have h1 := Gs (List.mem_reverse.1 hg)
  have h2 := h.2.1
  unfold eH at h2
  simp at h2; omega
theorem GH (G : List (List fB)) (N : List fB) : Vx G N (0 + 1) = ji G N ∧ Vy N (0 + 1) = [] ∧ TJ (0 + 1) = 0 := ⟨if_pos rfl, if_pos rfl, by unfold TJ; rw [if_neg (by decide)]; rfl⟩
theorem Fp (G : List (List fB)) : MH G [] = G.dropLast ∧ MI G [] = [] ∧ MJ G [] 0 = 0 := by
  unfold MH MI MJ ji
  by_cases h : G.length + ([] : List fB).length = 0
  · have : G = [] := List.eq_nil_of_length_eq_zero (by simpa using h)
    subst this
    simp
  · rw [if_neg h, if_neg h, if_neg h, if_pos rfl]; simp
theorem La {s : bG} (h : s.put = []) : s.dB on = s := by unfold bG.dB; rw [if_pos h]
theorem kN {s : bG} (h : s.put ≠ []) : s.dB on = { s.nP (s.jP on) with put := [] } := by unfold bG.dB; rw [if_neg h]
theorem Rj (G : List (List fB)) (g : List fB) : eH (G ++ [g]) [] = eH G [] + g.length := by unfold eH; simp
theorem D7 (h : jV s) {G1 : List (List fB)} (hF : Rh s on tq G1) (hp : s.put ≠ []) (hG : ∀ g ∈ G1, ∀ e ∈ g, vH e) : jV (s.dB on) := by
  rw [kN hp]
  obtain ⟨h1, h2, h3, h4, h5, h6⟩ := h
  obtain ⟨f1, f2, f3⟩ := hF
  refine ⟨h1, h2, h3, by simp, ?_, ?_⟩
  · show eH (sZ s.c.un s.c.place (s.jP on) s.c.place) [] ≤ 16384
    rw [iC, f3, Rj]
    have := oD s.here s.put
    simp; omega
  · intro k g hg e he
    have hg' : g ∈ sZ s.c.un s.c.place (s.jP on) k := hg
    by_cases hk : k = s.c.place
    · subst hk
      rw [iC, f3] at hg'
      rcases List.mem_append.1 hg' with hg' | hg'
      · exact hG g hg' e he
      · rw [List.mem_singleton.1 hg'] at he
        rcases List.mem_append.1 he with he | he
        · obtain ⟨q, hq, rfl⟩ := List.mem_map.1 he; exact f2 q hq
        · exact h4 e he
    · rw [rD _ _ hk] at hg'; exact h6 k g hg' e he
theorem Ad {es : List dn} {k : Nat} (hk : k < es.length) : (es.take (k + 1)).map dn.says = (es.take k).map dn.says ++ [(es.getD k default).says] := by
  rw [List.take_succ_eq_append_getElem hk, List.map_append, List.getD_eq_getElem?_getD, List.getElem?_eq_getElem hk]; rfl
theorem jQ (H : aB w0 w (dK e s • F)) : fE prog 83 #[.pointer (some ⟨e, 0, none⟩), .bool on] w fun _ w' => aB w0 w' (dK e (s.dB on) • F) := by
  refine gy func83 ntmps83 ?_
  dsimp only [aY, Nat.reduceAdd]
  refine ay (ay ?_)
  obtain ⟨qj, ql, qo, qp, qx, qy, qA, qB, nY, mD, mF, mG, mJ, mM, mO, mP, mQ, mV, mW, mX, dF, bK, gV, dY⟩ := (H).DR
  have hput : eH s.here s.put ≤ 16384 := dF.2.2.2.2.1
  have hsp := oD s.here s.put
  have hO : ∀ g ∈ s.here, ∀ x ∈ g, vH x := dF.2.2.2.2.2 s.c.place
  have hPO : ∀ x ∈ nY, vH x.says := fun x hx => dF.2.2.2.1 _ (by rw [← bK]; exact List.mem_map.2 ⟨x, hx, rfl⟩)
  have abt := (dY.f10).IL
  refine ah (aN rfl (bP rfl (bg 33 underlying69 rfl sizeOf67 rfl (dO underlying67 rfl (dY).get.2 rfl (aU (fM ((dY.f9).aO) underlying67 rfl) (aU (iY rfl rfl) (aA (aj (aP rfl (fun h1 => ?_) (fun h1 => ?_))))))))))
  · (try simp only [aI] at h1)
    refine aJ (aK (fU (.inl rfl) results83 ?_))
    rw [La (List.eq_nil_of_length_eq_zero (by omega))]
    exact aB.dW dF bK dY.f11.f11.f11.f11.f11.f11.f11.f11.f11.f11.f11
  · (try simp only [aI] at h1)
    have hp : s.put ≠ [] := by rintro hz; rw [hz] at h1; simp at h1
    refine aT (aj (ay (ah (aN rfl (dw rfl func128 (wI dY.f6.f5.f3) ?_)))))
    rintro _ w2 ⟨lp2, rfl, H2⟩
    refine aV rfl (aA (aj (ay (ah (gq (bU (l := [_]) H2 zeroValue67 rfl) ?_)))))
    rintro _ w3 ⟨b3, rfl, H3⟩
    refine aA (aj (ay (ay ?_)))
    obtain ⟨R4, Ye, HR4⟩ := aB.WR (H3.f2.f2)
    refine ah (aN rfl (aA (aj (aP rfl (fun h2 => ?_) (fun h2 => ?_)))))
    · (try simp only [aI] at h2)
      have hn : on = true := h2
      refine ay (ay (ah (aN rfl (dw rfl func129 (BH HR4.f2) ?_))))
      rintro _ w5 ⟨bG5, rfl, H5⟩
      refine aA (aj (bf ?_))
      obtain ⟨_, _, _, _, k1, _⟩ := (H5.f2).pU
      obtain ⟨hB, hL⟩ := Ri k1
      have HF0 := aB.jL (q := (0 : Nat) = 0) rfl H5
      obtain ⟨R6, YV, ZI⟩ := aB.Ci (HF0.f4.f2.f3)
      refine qc rfl (Je bG5 hB hL) (fun j => fact (j = 0) • bY b3 (.cells #[.slice none 0 0] 67 (0, 0)) • R6) (fact False) (fun id => if id = 0 then Nh b3 (s.here.getLastD []) • R6 else fact False) (ZI.f3.f3.f3.f3.f3.f3.comm) (by rfl) ?_ ?_ ?_ ?_
      · rintro l7 j TI vs7 A7 ⟨u1, fs1, Yf, rfl, rfl⟩ G7 w7 H7
        try simp only [bH, jd, mZ] at H7
        refine ⟨rfl, ?_⟩
        dsimp only [IY]
        have HQ := (H7).Wx
        obtain rfl : j = 0 := (HQ.f3).fact.1
        have hon := (HQ.f2).IL
        have hlen1 : fs1.length ≤ 16384 := by
          have h9 := hL _ (ug (d := []) TI)
          rw [← Yf] at h9
          simpa using h9
        refine ah (aV rfl (aA ?_))
        refine Gn (HQ.g5) ?_
        intro G8 w8 H8
        try simp only [bH] at H8
        refine bf (ay (ah (aN rfl (dw rfl func130 (BK H8 (fun W HW => (HW).aO) hon (by omega)) ?_))))
        rintro u9 w9 H9
        refine aG (aS 0 (l' := [_]) H9.f5 sizeOf67 rfl rfl (by first | rfl | exact Rd.one ((H9).aO)) rfl rfl) ?_
        rintro _ w10 qH
        refine aA (aj (dL ?_))
        refine jW (by decide) ?_
        refine Qj ?_
        rw [if_pos rfl]
        exact (aB.Rf (Yf.trans (KZ _)) qH.f3.right.f4.right.f3.f3.f3).deep
      · rintro D11 Hr uQ
        have PX := uQ.ed
        try simp only [bH, jd, mZ] at PX
        have Yg := PX.HY
        have hz := (Yg.f3).fact.1
        rw [D6, List.length_reverse] at hz
        have hg0 : s.here.getLastD [] = [] := by show (s.c.un s.c.place).getLastD [] = []; rw [List.eq_nil_of_length_eq_zero hz]; rfl
        have KR := Yg.f4
        have KT := aB.Ua hg0 KR
        have aal := KT.f4.right
        subst YV
        subst Ye
        refine aH (aj (ah (aN rfl (dw rfl func131 (xG aal.f4) ?_))))
        rintro _ PY ⟨u15, ab6, rfl, abu, wC⟩
        have aam := wC.right
        have Gl := aam.right
        have Q9 := Gl.f4.right
        obtain ⟨h9a, h9b, h9c⟩ := Fp (s.c.un s.c.place)
        have HX := Q9
        rw [h9a, h9b, h9c] at HX
        obtain ⟨ov, tq, VW, HO⟩ := (HX.f2).old
        have hF := Jo hp hn hO VW
        have hG1 : ∀ g ∈ s.here.dropLast, ∀ x ∈ g, vH x := fun g hg => hO g (List.dropLast_subset _ hg)
        obtain ⟨G1, VX⟩ : ∃ q, q = (s.c.un s.c.place).dropLast := ⟨_, rfl⟩
        rw [show s.here.dropLast = (s.c.un s.c.place).dropLast from rfl] at hF hG1
        have Yh := HO
        rw [← VX] at hF hG1 Yh
        refine aA (aj (ay ?_))
        obtain ⟨hF1, hF2, hF3⟩ := hF
        have hl1 : tq.length ≤ 16384 := by omega
        have hl2 : s.put.length ≤ 16384 := by omega
        refine ah (aN rfl (dw rfl func132 (rC Yh.f4 (by omega)) ?_))
        rintro _ PZ ⟨rfl, uY⟩
        refine aA (aj (ay (ay ?_)))
        have Fj := uY.drew
        have lS := aB.kp (Fj.f16.f16.f16.f16.f16.f16.f16.f16.f16.f16.f16.f16.f16.f16.f16.f16)
        refine vV [0, 4] lS rfl (gY 0 rfl lS (fun W hW => iH underlying67 rfl ((Kp.h hW).f2).get.2 rfl) (gQ 1 rfl lS rfl (iQ 2 rfl lS rfl (dR 3 rfl lS 33 underlying69 rfl sizeOf67 rfl (gY 4 rfl lS (fun W hW => iH underlying67 rfl ((Kp.h hW).f7).get.2 rfl) (gQ 7 rfl lS rfl (jk 5 rfl (fF Fj.f3 underlying67 (show (prog.info? 202).map (fun i => (i.zero, i.size, i.bytes)) = some (some (.agg #[.int .i64 0, .slice none 0 0, .slice none 0 0]), 3, 56) by kernel_rfl) rfl rfl rfl ((Fj.f14).aO) (by assumption) (by omega) (by omega)) ?_)))))))
        rintro XT Sz yD
        have zh := aB.kp (yD.f16.f16.f16.f16.f16.f16.f16.f16.f16.f16.f16.f16.f16.f16.f16.f16)
        refine dN zh (by kernel_rfl) ?_
        have aan := yD.f15.f5.f3
        have aao := aB.Gy gV.symm aan
        obtain ⟨AE, Nj⟩ : ∃ q, q = tq ++ nY := ⟨_, rfl⟩
        have HA := aao
        rw [← Nj] at HA
        have hAl : AE.length = tq.length + s.put.length := by rw [Nj, List.length_append, gV]
        have hAs : AE.map dn.says = tq.map dn.says ++ s.put := by rw [Nj, List.map_append, bK]
        have Yi : ∀ x ∈ AE, vH x.says := fun x hx => by
          rw [Nj] at hx
          rcases List.mem_append.1 hx with hx | hx
          · exact hF2 x hx
          · exact hPO x hx
        refine iJ 6 rfl zh (fun _ => fM ((HA).aO) underlying67 rfl) (nT (aj (bf ?_)))
        obtain ⟨R23, aap, aaq⟩ := aB.Ci (HA.f2.f2.f3)
        refine fH [(0, _), (4, _), (32, _), (33, _)] (fun (i : Nat) => [(34, .int .i64 (i : Int))]) (fun (i : Nat) W => i ≤ AE.length ∧ aB w0 W (dV lp2 G1 ((AE.take i).map dn.says) (0 + 1) • Row 202 3 XT AE.length (AE.flatMap dn.enc) • jh AE • R23)) (fun (i : Nat) => AE.length - i) (0) (Sub.cons rfl (Sub.cons rfl (Sub.cons rfl (Sub.cons rfl (Sub.nil _))))) (Sub.cons rfl (Sub.nil _)) ⟨by omega, aaq⟩ ?_
        rintro i YN ⟨hi, HL⟩
        dsimp only [List.cons_append, List.nil_append]
        refine ay (ah (aU (eu rfl rfl) (aA (aj (ay (aP rfl (fun h3 => ?_) (fun h3 => ?_)))))))
        · (try simp only [aI] at h3)
          refine aT (aj (ay (bf (ay (ah ?_)))))
          obtain ⟨ab7, ab8, ab9, aar⟩ := Rd.lD ((HL.f2).aO) (by omega)
          cases aar
          refine aU (cZ underlying67 sizeOf202 rfl rfl (by omega)) (aU (iR (ys := [_, _, _]) ((HL.f2).aO) (by omega) underlying202 rfl sizeOf202 rfl (jY dn.yT (by omega) default) rfl) ?_)
          have hkl : i < AE.length := by omega
          have hx : vH (AE.getD i default).says := Yi _ (by rw [List.getD_eq_getElem?_getD, List.getElem?_eq_getElem hkl]; exact List.getElem_mem hkl)
          have hx1 : (AE.getD i default).dl.length ≤ 1024 := hx.2.2.1
          have hx2 : (AE.getD i default).il.length ≤ 1024 := hx.2.2.2
          refine gq (bU (l := [_, _, _]) HL zeroValue202 rfl) ?_
          rintro _ Xg ⟨b25, rfl, IC⟩
          refine aG (bn 0 (l' := [_, _, _]) (us := [_, _, _]) IC sizeOf202 rfl rfl rfl (aC (by first | rfl | assumption) (aC (by first | rfl | exact Rd.one (((IC.f4).kF hkl).1)) (aC (by first | rfl | exact Rd.one (((IC.f4).kF hkl).2)) aZ))) rfl rfl) ?_
          rintro _ YO Me
          refine aA (aj (ah (aN rfl (aU (bQ underlying202 rfl sizeOf202 rfl rfl (Me).get.2) (dw rfl func133 (vk Me.f2 (fun W HW => ((HW.f3).kF hkl).1) (fun W HW => ((HW.f3).kF hkl).2) (by omega) (by omega)) ?_)))))
          rintro _ YP ⟨rfl, Ht⟩
          have hadd : nN G1 ((AE.take i).map dn.says) (AE.getD i default).a (AE.getD i default).dl (AE.getD i default).il = 0 := by
            have hx3 : 0 < (AE.getD i default).dl.length + (AE.getD i default).il.length := hx.2.1
            have hx4 : 0 ≤ (AE.getD i default).a := hx.1
            have hx5 := oD G1 ((AE.take i).map dn.says)
            rw [List.length_map, List.length_take] at hx5
            unfold nN
            rw [if_neg (by omega), if_neg (by omega)]
          have HA2 := Ht
          rw [BQ hadd (by decide), BR hadd (by decide)] at HA2
          refine aA (aH (aj (ah (aU (dS rfl rfl (by omega)) (aN rfl (aA ?_))))))
          refine dA (i + 1) ?_ ?_ ?_ ?_
          · exact (Sub.cons rfl (Sub.nil _))
          · exact (Sub.cons rfl (Sub.cons rfl (Sub.cons rfl (Sub.cons rfl (Sub.nil _)))))
          · (try dsimp only)
            first | done | exact ⟨by omega, by rw [Ad hkl]; exact HA2.f2.right.f3.f3.f3⟩
          · (try dsimp only); omega
        · (try simp only [aI] at h3)
          refine dL (aW ?_)
          have hil : i = AE.length := by omega
          have HB := HL
          rw [hil, List.take_length] at HB
          subst aap
          refine aW (bD (aj (ay (ah (aN rfl (dw rfl func134 (vC HB) ?_))))))
          rintro _ YQ ⟨rfl, SB⟩
          obtain ⟨Yj, Yk, Yl⟩ := GH G1 (AE.map dn.says)
          have HC := SB
          rw [Yj, Yk, Yl, hAs, lW (by intro hz; exact hp (List.append_eq_nil_iff.1 hz).2), ← hF3] at HC
          have VO := HC.f6
          have VP := aB.uF VO
          refine aA (aj (ah (aN rfl (bP rfl (bg 33 underlying69 rfl sizeOf67 rfl (aG (aS 33 (l' := [_, _, _, _, _, _, _, _, _, _, _, _, _, _, _, _, _, _, _, _, _, _, _, _, _, _, _, _, _, _, _, _, _, _]) VP.f6 sizeOf67 rfl rfl (by first | rfl | assumption) rfl rfl) ?_))))))
          rintro _ Wq JZ
          refine aA ?_
          refine yJ (.inr rfl) (JZ.f6) (fun w32 Et => ?_)
          refine ⟨_, Vb results83, ?_⟩
          rw [kN hp]
          exact aB.DX (s := { s.nP (s.jP on) with put := [] }) (kN hp ▸ D7 dF ⟨hF1, hF2, hF3⟩ hp hG1) rfl Et.f3.right.f3.right.f3.right.f9.right.f9.f9.f9.f5.f9.f7.f9.f9.f9
      · rintro D w H; exact absurd H.swap.fact.1 id
      · rintro id D33 YS Kw
        refine Decidable.byCases (fun hid : id = 0 => ?_) (fun hid => by rw [if_neg hid] at Kw; exact absurd Kw.swap.fact.1 fun h => h)
        subst hid
        rw [if_pos rfl] at Kw
        have Ym := Kw.ed
        try simp only [bH, jd, mZ] at Ym
        have aas := Ym.HY
        subst YV
        subst Ye
        refine bD (aj (ah (aN rfl (dw rfl func131 (xG aas.f4) ?_))))
        rintro _ YX ⟨u34, aca, rfl, abv, MW⟩
        have aat := MW.right
        have aau := aat.right
        have VY := aau.f3.right
        obtain ⟨h9a, h9b, h9c⟩ := Fp (s.c.un s.c.place)
        have HX := VY
        rw [h9a, h9b, h9c] at HX
        obtain ⟨ov, tq, VW, HO⟩ := (HX.f3).old
        have hF := Jo hp hn hO VW
        have hG1 : ∀ g ∈ s.here.dropLast, ∀ x ∈ g, vH x := fun g hg => hO g (List.dropLast_subset _ hg)
        obtain ⟨G1, VX⟩ : ∃ q, q = (s.c.un s.c.place).dropLast := ⟨_, rfl⟩
        rw [show s.here.dropLast = (s.c.un s.c.place).dropLast from rfl] at hF hG1
        have Yh := HO
        rw [← VX] at hF hG1 Yh
        refine aA (aj (ay ?_))
        obtain ⟨hF1, hF2, hF3⟩ := hF
        have hl1 : tq.length ≤ 16384 := by omega
        have hl2 : s.put.length ≤ 16384 := by omega
        refine ah (aN rfl (dw rfl func132 (rC Yh.f4 (by omega)) ?_))
        rintro _ YZ ⟨rfl, KU⟩
        refine aA (aj (ay (ay ?_)))
        have Rk := KU.drew
        have yh := aB.kp (Rk.f16.f16.f16.f16.f16.f16.f16.f16.f16.f16.f16.f16.f16.f16.f16.f16)
        refine vV [0, 4] yh rfl (gY 0 rfl yh (fun W hW => iH underlying67 rfl ((Kp.h hW).f2).get.2 rfl) (gQ 1 rfl yh rfl (iQ 2 rfl yh rfl (dR 3 rfl yh 33 underlying69 rfl sizeOf67 rfl (gY 4 rfl yh (fun W hW => iH underlying67 rfl ((Kp.h hW).f7).get.2 rfl) (gQ 7 rfl yh rfl (jk 5 rfl (fF Rk.f3 underlying67 (show (prog.info? 202).map (fun i => (i.zero, i.size, i.bytes)) = some (some (.agg #[.int .i64 0, .slice none 0 0, .slice none 0 0]), 3, 56) by kernel_rfl) rfl rfl rfl ((Rk.f14).aO) (by assumption) (by omega) (by omega)) ?_)))))))
        rintro l39 w39 H39
        have Jp := aB.kp (H39.f16.f16.f16.f16.f16.f16.f16.f16.f16.f16.f16.f16.f16.f16.f16.f16)
        refine dN Jp (by kernel_rfl) ?_
        have VZ := H39.f15.f5.f3
        have Jq := aB.Gy gV.symm VZ
        obtain ⟨AE, Nj⟩ : ∃ q, q = tq ++ nY := ⟨_, rfl⟩
        have HA := Jq
        rw [← Nj] at HA
        have hAl : AE.length = tq.length + s.put.length := by rw [Nj, List.length_append, gV]
        have hAs : AE.map dn.says = tq.map dn.says ++ s.put := by rw [Nj, List.map_append, bK]
        have Yi : ∀ x ∈ AE, vH x.says := fun x hx => by
          rw [Nj] at hx
          rcases List.mem_append.1 hx with hx | hx
          · exact hF2 x hx
          · exact hPO x hx
        refine iJ 6 rfl Jp (fun _ => fM ((HA).aO) underlying67 rfl) (nT (aj (bf ?_)))
        obtain ⟨R42, aav, aaw⟩ := aB.Ci (HA.f2.f2.f3)
        refine fH [(0, _), (4, _), (32, _), (33, _)] (fun (i : Nat) => [(34, .int .i64 (i : Int))]) (fun (i : Nat) W => i ≤ AE.length ∧ aB w0 W (dV lp2 G1 ((AE.take i).map dn.says) (0 + 1) • Row 202 3 l39 AE.length (AE.flatMap dn.enc) • jh AE • R42)) (fun (i : Nat) => AE.length - i) (0) (Sub.cons rfl (Sub.cons rfl (Sub.cons rfl (Sub.cons rfl (Sub.nil _))))) (Sub.cons rfl (Sub.nil _)) ⟨by omega, aaw⟩ ?_
        rintro i Y0 ⟨hi, HL⟩
        dsimp only [List.cons_append, List.nil_append]
        refine ay (ah (aU (eu rfl rfl) (aA (aj (ay (aP rfl (fun h4 => ?_) (fun h4 => ?_)))))))
        · (try simp only [aI] at h4)
          refine aT (aj (ay (bf (ay (ah ?_)))))
          obtain ⟨acb, acd, ace, aax⟩ := Rd.lD ((HL.f2).aO) (by omega)
          cases aax
          refine aU (cZ underlying67 sizeOf202 rfl rfl (by omega)) (aU (iR (ys := [_, _, _]) ((HL.f2).aO) (by omega) underlying202 rfl sizeOf202 rfl (jY dn.yT (by omega) default) rfl) ?_)
          have hkl : i < AE.length := by omega
          have hx : vH (AE.getD i default).says := Yi _ (by rw [List.getD_eq_getElem?_getD, List.getElem?_eq_getElem hkl]; exact List.getElem_mem hkl)
          have hx1 : (AE.getD i default).dl.length ≤ 1024 := hx.2.2.1
          have hx2 : (AE.getD i default).il.length ≤ 1024 := hx.2.2.2
          refine gq (bU (l := [_, _, _]) HL zeroValue202 rfl) ?_
          rintro _ w44 ⟨b44, rfl, UW⟩
          refine aG (bn 0 (l' := [_, _, _]) (us := [_, _, _]) UW sizeOf202 rfl rfl rfl (aC (by first | rfl | assumption) (aC (by first | rfl | exact Rd.one (((UW.f4).kF hkl).1)) (aC (by first | rfl | exact Rd.one (((UW.f4).kF hkl).2)) aZ))) rfl rfl) ?_
          rintro _ Y1 J3
          refine aA (aj (ah (aN rfl (aU (bQ underlying202 rfl sizeOf202 rfl rfl (J3).get.2) (dw rfl func133 (vk J3.f2 (fun W HW => ((HW.f3).kF hkl).1) (fun W HW => ((HW.f3).kF hkl).2) (by omega) (by omega)) ?_)))))
          rintro _ w46 ⟨rfl, H46⟩
          have hadd : nN G1 ((AE.take i).map dn.says) (AE.getD i default).a (AE.getD i default).dl (AE.getD i default).il = 0 := by
            have hx3 : 0 < (AE.getD i default).dl.length + (AE.getD i default).il.length := hx.2.1
            have hx4 : 0 ≤ (AE.getD i default).a := hx.1
            have hx5 := oD G1 ((AE.take i).map dn.says)
            rw [List.length_map, List.length_take] at hx5
            unfold nN
            rw [if_neg (by omega), if_neg (by omega)]
          have HA2 := H46
          rw [BQ hadd (by decide), BR hadd (by decide)] at HA2
          refine aA (aH (aj (ah (aU (dS rfl rfl (by omega)) (aN rfl (aA ?_))))))
          refine dA (i + 1) ?_ ?_ ?_ ?_
          · exact (Sub.cons rfl (Sub.nil _))
          · exact (Sub.cons rfl (Sub.cons rfl (Sub.cons rfl (Sub.cons rfl (Sub.nil _)))))
          · (try dsimp only)
            first | done | exact ⟨by omega, by rw [Ad hkl]; exact HA2.f2.right.f3.f3.f3⟩
          · (try dsimp only); omega
        · (try simp only [aI] at h4)
          refine dL (aW ?_)
          have hil : i = AE.length := by omega
          have HB := HL
          rw [hil, List.take_length] at HB
          subst aav
          refine aW (bD (aj (ay (ah (aN rfl (dw rfl func134 (vC HB) ?_))))))
          rintro _ w47 ⟨rfl, V3⟩
          obtain ⟨Yj, Yk, Yl⟩ := GH G1 (AE.map dn.says)
          have HC := V3
          rw [Yj, Yk, Yl, hAs, lW (by intro hz; exact hp (List.append_eq_nil_iff.1 hz).2), ← hF3] at HC
          have aay := HC.f6
          have aaz := aB.uF aay
          refine aA (aj (ah (aN rfl (bP rfl (bg 33 underlying69 rfl sizeOf67 rfl (aG (aS 33 (l' := [_, _, _, _, _, _, _, _, _, _, _, _, _, _, _, _, _, _, _, _, _, _, _, _, _, _, _, _, _, _, _, _, _, _]) aaz.f6 sizeOf67 rfl rfl (by first | rfl | assumption) rfl rfl) ?_))))))
          rintro _ w50 WA
          refine aA ?_
          refine yJ (.inr rfl) (WA.f6) (fun w51 VQ => ?_)
          refine ⟨_, Vb results83, ?_⟩
          rw [kN hp]
          exact aB.DX (s := { s.nP (s.jP on) with put := [] }) (kN hp ▸ D7 dF ⟨hF1, hF2, hF3⟩ hp hG1) rfl VQ.f3.right.f3.right.f3.right.f9.right.f9.f9.f9.f5.f9.f7.f9.f9.f9
    · (try simp only [aI] at h2)
      have hn : on = false := h2
      obtain ⟨ov, tq, G1, hF, hG1, HF⟩ : ∃ ov tq G1, Rh s on tq G1 ∧ (∀ g ∈ G1, ∀ x ∈ g, vH x) ∧ aB w0 w3 (bY b3 (.cells #[ov] 67 (0, 0)) • Row 202 3 ov tq.length (tq.flatMap dn.enc) • jh tq • dV lp2 G1 [] 0 • R4) :=
        ⟨.slice none 0 0, [], s.here, Oy hp hn, hO, (aB.oM HR4.f2.f2 none).of_eq (by unfold EC; ac_rfl)⟩
      subst Ye
      refine aT (aj (ay ?_))
      obtain ⟨hF1, hF2, hF3⟩ := hF
      have hl1 : tq.length ≤ 16384 := by omega
      have hl2 : s.put.length ≤ 16384 := by omega
      refine ah (aN rfl (dw rfl func132 (rC HF.f4 (by omega)) ?_))
      rintro _ w52 ⟨rfl, UZ⟩
      refine aA (aj (ay (ay ?_)))
      have Rl := UZ.drew
      have yj := aB.kp (Rl.f15.f15.f15.f15.f15.f15.f15.f15.f15.f15.f15.f15.f15.f15.f15)
      refine vV [0, 4] yj rfl (gY 0 rfl yj (fun W hW => iH underlying67 rfl ((Kp.h hW).f2).get.2 rfl) (gQ 1 rfl yj rfl (iQ 2 rfl yj rfl (dR 3 rfl yj 33 underlying69 rfl sizeOf67 rfl (gY 4 rfl yj (fun W hW => iH underlying67 rfl ((Kp.h hW).f6).get.2 rfl) (gQ 7 rfl yj rfl (jk 5 rfl (fF Rl.f3 underlying67 (show (prog.info? 202).map (fun i => (i.zero, i.size, i.bytes)) = some (some (.agg #[.int .i64 0, .slice none 0 0, .slice none 0 0]), 3, 56) by kernel_rfl) rfl rfl rfl ((Rl.f13).aO) (by assumption) (by omega) (by omega)) ?_)))))))
      rintro l53 w53 WB
      have U3 := aB.kp (WB.f15.f15.f15.f15.f15.f15.f15.f15.f15.f15.f15.f15.f15.f15.f15)
      refine dN U3 (by kernel_rfl) ?_
      have aaA := WB.f14.f5.f3
      have aaB := aB.Gy gV.symm aaA
      obtain ⟨AE, Nj⟩ : ∃ q, q = tq ++ nY := ⟨_, rfl⟩
      have HA := aaB
      rw [← Nj] at HA
      have hAl : AE.length = tq.length + s.put.length := by rw [Nj, List.length_append, gV]
      have hAs : AE.map dn.says = tq.map dn.says ++ s.put := by rw [Nj, List.map_append, bK]
      have Yi : ∀ x ∈ AE, vH x.says := fun x hx => by
        rw [Nj] at hx
        rcases List.mem_append.1 hx with hx | hx
        · exact hF2 x hx
        · exact hPO x hx
      refine iJ 6 rfl U3 (fun _ => fM ((HA).aO) underlying67 rfl) (nT (aj (bf ?_)))
      obtain ⟨R56, aaC, aaD⟩ := aB.Ci (HA.f2.f2.f3)
      refine fH [(0, _), (4, _), (32, _), (33, _)] (fun (i : Nat) => [(34, .int .i64 (i : Int))]) (fun (i : Nat) W => i ≤ AE.length ∧ aB w0 W (dV lp2 G1 ((AE.take i).map dn.says) (0 + 1) • Row 202 3 l53 AE.length (AE.flatMap dn.enc) • jh AE • R56)) (fun (i : Nat) => AE.length - i) (0) (Sub.cons rfl (Sub.cons rfl (Sub.cons rfl (Sub.cons rfl (Sub.nil _))))) (Sub.cons rfl (Sub.nil _)) ⟨by omega, aaD⟩ ?_
      rintro i w57 ⟨hi, HL⟩
      dsimp only [List.cons_append, List.nil_append]
      refine ay (ah (aU (eu rfl rfl) (aA (aj (ay (aP rfl (fun h5 => ?_) (fun h5 => ?_)))))))
      · (try simp only [aI] at h5)
        refine aT (aj (ay (bf (ay (ah ?_)))))
        obtain ⟨acf, acg, ach, aaE⟩ := Rd.lD ((HL.f2).aO) (by omega)
        cases aaE
        refine aU (cZ underlying67 sizeOf202 rfl rfl (by omega)) (aU (iR (ys := [_, _, _]) ((HL.f2).aO) (by omega) underlying202 rfl sizeOf202 rfl (jY dn.yT (by omega) default) rfl) ?_)
        have hkl : i < AE.length := by omega
        have hx : vH (AE.getD i default).says := Yi _ (by rw [List.getD_eq_getElem?_getD, List.getElem?_eq_getElem hkl]; exact List.getElem_mem hkl)
        have hx1 : (AE.getD i default).dl.length ≤ 1024 := hx.2.2.1
        have hx2 : (AE.getD i default).il.length ≤ 1024 := hx.2.2.2
        refine gq (bU (l := [_, _, _]) HL zeroValue202 rfl) ?_
        rintro _ w58 ⟨b58, rfl, TV⟩
        refine aG (bn 0 (l' := [_, _, _]) (us := [_, _, _]) TV sizeOf202 rfl rfl rfl (aC (by first | rfl | assumption) (aC (by first | rfl | exact Rd.one (((TV.f4).kF hkl).1)) (aC (by first | rfl | exact Rd.one (((TV.f4).kF hkl).2)) aZ))) rfl rfl) ?_
        rintro _ w59 X3
        refine aA (aj (ah (aN rfl (aU (bQ underlying202 rfl sizeOf202 rfl rfl (X3).get.2) (dw rfl func133 (vk X3.f2 (fun W HW => ((HW.f3).kF hkl).1) (fun W HW => ((HW.f3).kF hkl).2) (by omega) (by omega)) ?_)))))
        rintro _ w60 ⟨rfl, WE⟩
        have hadd : nN G1 ((AE.take i).map dn.says) (AE.getD i default).a (AE.getD i default).dl (AE.getD i default).il = 0 := by
          have hx3 : 0 < (AE.getD i default).dl.length + (AE.getD i default).il.length := hx.2.1
          have hx4 : 0 ≤ (AE.getD i default).a := hx.1
          have hx5 := oD G1 ((AE.take i).map dn.says)
          rw [List.length_map, List.length_take] at hx5
          unfold nN
          rw [if_neg (by omega), if_neg (by omega)]
        have HA2 := WE
        rw [BQ hadd (by decide), BR hadd (by decide)] at HA2
        refine aA (aH (aj (ah (aU (dS rfl rfl (by omega)) (aN rfl (aA ?_))))))
        refine dA (i + 1) ?_ ?_ ?_ ?_
        · exact (Sub.cons rfl (Sub.nil _))
        · exact (Sub.cons rfl (Sub.cons rfl (Sub.cons rfl (Sub.cons rfl (Sub.nil _)))))
        · (try dsimp only)
          first | done | exact ⟨by omega, by rw [Ad hkl]; exact HA2.f2.right.f3.f3.f3⟩
        · (try dsimp only); omega
      · (try simp only [aI] at h5)
        refine dL (aW ?_)
        have hil : i = AE.length := by omega
        have HB := HL
        rw [hil, List.take_length] at HB
        subst aaC
        refine aW (bD (aj (ay (ah (aN rfl (dw rfl func134 (vC HB) ?_))))))
        rintro _ w61 ⟨rfl, Y4⟩
        obtain ⟨Yj, Yk, Yl⟩ := GH G1 (AE.map dn.says)
        have HC := Y4
        rw [Yj, Yk, Yl, hAs, lW (by intro hz; exact hp (List.append_eq_nil_iff.1 hz).2), ← hF3] at HC
        have aaF := HC.f5
        have aaG := aB.uF aaF
        refine aA (aj (ah (aN rfl (bP rfl (bg 33 underlying69 rfl sizeOf67 rfl (aG (aS 33 (l' := [_, _, _, _, _, _, _, _, _, _, _, _, _, _, _, _, _, _, _, _, _, _, _, _, _, _, _, _, _, _, _, _, _, _]) aaG.f5 sizeOf67 rfl rfl (by first | rfl | assumption) rfl rfl) ?_))))))
        rintro _ w64 X9
        refine aA (fU (.inr rfl) results83 ?_)
        rw [kN hp]
        exact aB.DX (s := { s.nP (s.jP on) with put := [] }) (kN hp ▸ D7 dF ⟨hF1, hF2, hF3⟩ hp hG1) rfl X9.f3.right.f3.right.f3.right.f9.right.f9.f9.f9.f5.f9.f7.f9.f9.f9
end
end Go.Proofs.YtddekefihgejoaaGreatDoor
end
