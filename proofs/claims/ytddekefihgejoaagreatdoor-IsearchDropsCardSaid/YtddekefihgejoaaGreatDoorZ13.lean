import Derived.Test.YtddekefihgejoaaGreatDoorZ2
import Derived.Test.YtddekefihgejoaaGreatDoorZ12
set_option linter.unusedSimpArgs false
set_option linter.unusedVariables false
/- Texts of mine, joined, their names in short: EdR EdK EdF. -/
section
namespace Go.Proofs.YtddekefihgejoaaGreatDoor
open Go.RowKit
open _root_.Go.Proofs.Tryz
theorem uZ {L : List Int} {i j : Int} {l : List Int} (h : kQ L i j l ≠ 0) : kD L i j l = [] ∧ kE L i j l = [] := by unfold kD kE; rw [if_neg h, if_neg h]; exact ⟨rfl, rfl⟩
theorem UU {L : List Int} {i j : Int} {l : List Int} (hL : L.length ≤ 1024) (h : 0 < (kD L i j l).length + (kE L i j l).length) : wF (qg L i j l, kD L i j l, kE L i j l) := by
  by_cases h0 : kQ L i j l = 0
  · refine ⟨?_, h, ?_, ?_⟩
    · show 0 ≤ qg L i j l
      unfold qg; rw [if_pos h0]
      unfold kQ at h0
      split at h0
      · cases h0
      · omega
    · show (kD L i j l).length ≤ 1024
      unfold kD; rw [if_pos h0]
      simp only [List.length_take, List.length_drop]; omega
    · show (kE L i j l).length ≤ 1024
      unfold kE; rw [if_pos h0]
      unfold kQ at h0
      split at h0
      · cases h0
      · split at h0
        · cases h0
        · omega
  · rw [(uZ h0).1, (uZ h0).2] at h
    simp at h
theorem SB {L : List Int} {i j : Int} {l : List Int} (hL : L.length ≤ 1024) : (kD L i j l).length ≤ 1024 ∧ (kE L i j l).length ≤ 1024 := by
  by_cases h0 : kQ L i j l = 0
  · refine ⟨?_, ?_⟩
    · unfold kD; rw [if_pos h0]
      simp only [List.length_take, List.length_drop]; omega
    · unfold kE; rw [if_pos h0]
      unfold kQ at h0
      split at h0
      · cases h0
      · split at h0
        · cases h0
        · omega
  · rw [(uZ h0).1, (uZ h0).2]; simp
theorem EI {s : bH} {x : fG} (h : x.2.1.length + x.2.2.length = 0) : s.yF x = s := by unfold bH.yF; rw [if_pos h]
theorem Bj {s : bH} {x : fG} (h : 0 < x.2.1.length + x.2.2.length) (k : ¬ 16384 ≤ fB s.here s.put) : s.yF x = { s with put := s.put ++ [x] } := by unfold bH.yF; rw [if_neg (by omega), if_neg k]
theorem Bl {s : bH} {x : fG} (h : 0 < x.2.1.length + x.2.2.length) (k : 16384 ≤ fB s.here s.put) : s.yF x = { s.oz [] with put := [x], c := { (s.oz []).c with run := false } } := by unfold bH.yF; rw [if_neg (by omega), if_pos k]
theorem o9 (G : List (List fG)) (N : List fG) : fB G N = fB G [] + N.length := by unfold fB; simp
theorem Oc {s : bH} {x : fG} (h : kF s) (hx : 0 < x.2.1.length + x.2.2.length → wF x) : kF (s.yF x) := by
  by_cases h0 : x.2.1.length + x.2.2.length = 0
  · rw [EI h0]; exact h
  · have hx' := hx (by omega)
    obtain ⟨h1, h2, h3, h4, h5, h6⟩ := h
    by_cases hf : 16384 ≤ fB s.here s.put
    · rw [Bl (by omega) hf]
      refine ⟨h1, h2, h3, fun e he => by rw [List.mem_singleton.1 he]; exact hx', ?_, ?_⟩
      · show fB (uo s.c.un s.c.place [] s.c.place) [x] ≤ 16384
        rw [iL]; simp [fB]
      · intro k g hg
        have hg' : g ∈ uo s.c.un s.c.place [] k := hg
        by_cases hk : k = s.c.place
        · subst hk; rw [iL] at hg'; cases hg'
        · rw [sO _ _ hk] at hg'; exact h6 k g hg'
    · rw [Bj (by omega) hf]
      refine ⟨h1, h2, h3, fun e he => ?_, ?_, h6⟩
      · rcases List.mem_append.1 he with he | he
        · exact h4 e he
        · rw [List.mem_singleton.1 he]; exact hx'
      · show fB s.here (s.put ++ [x]) ≤ 16384
        rw [Hy]; omega
section
variable {w0 w : World} {F : HP} {e p h pr : Nat} {s : bH} {i j x : Int} {b : Bool} {v : Value} {l : List Int}
theorem EJ (H : aA w0 w (dN e s • F)) (hr : gV w0 F .i32 v l) : fQ prog 88 #[.pointer (some ⟨e, 0, none⟩), .int .i64 i, .int .i64 j, v] w fun v' w' => v' = .int .i64 (s.o8 i j l) ∧ aA w0 w' (dN e (s.tN i j l) • F) := by
 refine iw func88 ntmps88 ?_
 dsimp only [aZ, Nat.reduceAdd]
 refine ay (ah (aW rfl (aB (aj (ay (ay (ah (aP rfl (dD rfl func81 (lq H) ?_)))))))))
 rintro _ _ ⟨rfl, rfl⟩
 refine aW rfl (aB (aj (ay (ah (aP rfl (aU (dG rfl rfl) (aB (aj (aO rfl (fun h1 => ?_) (fun h1 => ?_))))))))))
 ·(try simp only [aG] at h1)
  obtain ⟨hin, hpe⟩ := Dt h1
  refine ay (ah (aP rfl (aW rfl (aB (aj (aN (aK (aT (.inl rfl) results88 rfl ?_))))))))
  rw [hpe]
  exact ⟨by simp [bH.o8, bH.tN, hin], by rw [show s.tN i j l = s from by simp [bH.o8, bH.tN, hin]]; exact H⟩
 ·(try simp only [aG] at h1)
  have hin := zZ h1
  refine aQ (aj (ay ?_))
  obtain ⟨qZ, ru, rC, rD, rE, rF, rG, rH, oL, mZ, ng, ni, ny, nC, nD, nG, nH, nI, nJ, nK, dL, bM, iC, eU⟩ := (H).Ey
  have hL : s.c.L.length ≤ 1024 := by obtain ⟨a, c, xs, f, t, h1, h2, h3, h4, h5, h6, h7, hc1, hc2, hl, H1⟩ := (eU.f2).buf; exact h4
  have hE : s.o8 i j l = kQ s.c.L i j l := by unfold bH.o8; rw [if_pos hin]
  have hS : s.tN i j l = (s.jS (qL s.c.L i j l) (qM s.c.L s.c.pt i j l) (qN s.c.L s.c.mark i j l)).yF (qg s.c.L i j l, kD s.c.L i j l, kE s.c.L i j l) := by unfold bH.tN; rw [if_pos hin]
  have hln := SB (i := i) (j := j) (l := l) hL
  have hput : fB s.here s.put ≤ 16384 := dL.2.2.2.2.1
  have hsp : fB s.here s.put = fB (s.c.un s.c.place) [] + s.put.length := o9 _ _
  have hok := UU (i := i) (j := j) (l := l) hL
  have hno := uZ (L := s.c.L) (i := i) (j := j) (l := l)
  refine ah (aP rfl (bT rfl (bf 0 underlying69 rfl sizeOf64 rfl (bf 0 underlying64 rfl sizeOf59 rfl (dA underlying59 rfl (eU).get.2 rfl (aP rfl (aP rfl (aP rfl (dD rfl func136 (CX eU.f2 (fun W HW => hr _ (HW.right.right.right.right.right.right.right.right.right.right))) ?_)))))))))
  rintro _ w3 ⟨d3, s3, rfl, H3⟩
  refine aP rfl (wQ rfl rfl (wQ rfl rfl (gB (bW (l := [_, _, _]) H3 zeroValue202 rfl) ?_)))
  rintro _ w4 ⟨b4, rfl, H4⟩
  refine aI (bC 0 (l' := [_, _, _]) (us := [_, _, _]) H4 sizeOf202 rfl rfl rfl (aC (by first | rfl | assumption) (aC (by first | rfl | exact Rd.one ((H4.f2).aJ)) (aC (by first | rfl | exact Rd.one ((H4.f3).aJ)) bg))) rfl rfl) ?_
  rintro _ w5 H5
  refine aW rfl (aB (aj (ay (ay (ah (aP rfl (aU (iQ rfl rfl) (jL rfl (fun h2 => ?_) (fun h2 => ?_)))))))))
  ·(try simp only [aG] at h2)
   refine bn (bf 1 underlying202 rfl sizeOf23 rfl (bn (dA underlying23 rfl (H5).get.2 rfl (bn (aU (gK ((H5.f2).aJ) underlying23 rfl) (bn (bf 2 underlying202 rfl sizeOf23 rfl (bn (dA underlying23 rfl (H5).get.2 rfl (bn (aU (gK ((H5.f3).aJ) underlying23 rfl) (bn (aU (dR rfl rfl (by omega)) (bn (aU (gU rfl rfl) (jP rfl rfl (aB (aj (aO rfl (fun h3 => ?_) (fun h3 => ?_))))))))))))))))))))
   ·(try simp only [aG] at h3)
    have hlen : 0 < (kD s.c.L i j l).length + (kE s.c.L i j l).length := by omega
    refine ay (ay ?_)
    have WZ := H5.drew
    have EK := aA.kp (WZ.f9.right.f13.f13.f13.f13.f13.f13.f13.f13.f13.f13.f13.f13.f13)
    refine vJ [6] EK rfl (fU 0 rfl EK rfl (fU 3 rfl EK rfl (iZ 4 rfl EK rfl (dU 5 rfl EK 33 underlying69 rfl sizeOf67 rfl (gG 6 rfl EK (fun W hW => iF underlying67 rfl ((Kp.h hW).f5).get.2 rfl) (gZ 7 rfl EK (fun _ => eY ((WZ.f12).aJ) underlying67 rfl) (jm 1 rfl (rX rfl func128 (xE WZ.f9.f8.f7)) ?_)))))))
    rintro _ w6 ⟨lp6, rfl, H6⟩
    have zY := aA.kp (H6.right.f14.f14.f14.f14.f14.f14.f14.f14.f14.f14.f14.f14.f14.f14)
    refine bU zY (fun W hW => (Kp.h hW).right.f13.f13.f13.f13.f13.f13.f8.f13.f9.f13.f13.f13.f13) ?_
    refine jm 2 rfl (rX rfl func137 (Ee H6)) ?_
    rintro _ w7 ⟨rfl, H7⟩
    have vY := aA.kp (H7.f15.f15.f15.f15.f15.f15.f15.f15.f15.f15.f15.f15.f15.f15.f15)
    refine bU vY (fun W hW => (Kp.h hW).right.f14.f14.f14.f14.f14.f14.f14.f14.f14.f14.f14.f14.f14.f14) ?_
    refine gZ 8 rfl vY (fun _ => dR rfl rfl (by omega)) (gZ 9 rfl vY (fun _ => wW rfl rfl) ?_)
    have W9 := H7.f2
    have VN := aA.Ij W9
    refine mD (aj (aO rfl (fun h4 => ?_) (fun h4 => ?_)))
    ·(try simp only [aG] at h4)
     have J8 : 16384 ≤ fB (s.jS (qL s.c.L i j l) (qM s.c.L s.c.pt i j l) (qN s.c.L s.c.mark i j l)).here (s.jS (qL s.c.L i j l) (qM s.c.L s.c.pt i j l) (qN s.c.L s.c.mark i j l)).put := by show 16384 ≤ fB s.here s.put; omega
     refine ay (ah (aP rfl (dD rfl func128 (xE VN.f3.f3) ?_)))
     rintro _ w10 ⟨acP, rfl, qK⟩
     refine dD rfl func138 (Eo qK) ?_
     rintro _ IV vK
     have MH := vK.f2
     have MI := aA.uX MH
     refine aB (aj (ah (aP rfl (aP rfl (bT rfl (bf 33 underlying69 rfl sizeOf67 rfl (aI (aS 33 (l' := [_, _, _, _, _, _, _, _, _, _, _, _, _, _, _, _, _, _, _, _, _, _, _, _, _, _, _, _, _, _, _, _, _, _]) MI.f2 sizeOf67 rfl rfl (by first | rfl | assumption) rfl rfl) ?_)))))))
     rintro _ OZ yR
     refine bT rfl (bf 0 underlying69 rfl sizeOf64 rfl (bf 10 underlying64 rfl sizeOf4 rfl (aI (aS 10 (l' := [_, _, _, _, _, _, _, _, _, _, _, _, _, _, _, _, _, _, _, _, _, _, _, _, _, _, _, _, _, _, _, _, _, _]) yR sizeOf4 rfl rfl (by first | rfl | assumption) rfl rfl) ?_)))
     rintro _ QV xu
     refine aB (aj ?_)
     have VO := xu.drew
     have yY := aA.kp (VO.f14.f14.f14.f14.f14.f14.f14.f14.f14.f14.f14.f14.f14.f14)
     refine vJ [4, 5] yY rfl (fU 0 rfl yY rfl (fU 1 rfl yY rfl (iZ 2 rfl yY rfl (dU 3 rfl yY 33 underlying69 rfl sizeOf67 rfl (gG 4 rfl yY (fun W hW => iF underlying67 rfl ((Kp.h hW)).get.2 rfl) (gG 5 rfl yY (fun W hW => bQ underlying202 rfl sizeOf202 rfl rfl ((Kp.h hW).f4).get.2) (jm 6 rfl (mP VO underlying67 sizeOf202 zeroValue202 rfl rfl rfl (by decide) (by decide)) ?_)))))))
     rintro ZK w16 sW
     have zT := aA.kp (sW.f15.f15.f15.f15.f15.f15.f15.f15.f15.f15.f15.f15.f15.f15.f15)
     refine bU zT (fun W hW => (Kp.h hW).right.f14.f14.f14.f14.f14.f14.f14.f14.f14.f14.f14.f14.f14.f14) ?_
     refine jm 7 rfl (fK (sW.iH none) underlying67 (show (prog.info? 202).map (fun i => (i.zero, i.size, i.bytes)) = some (some (.agg #[.int .i64 0, .slice none 0 0, .slice none 0 0]), 3, 56) by kernel_rfl) rfl rfl rfl ((sW).aJ) (aC (by first | rfl | assumption) (aC (by first | rfl | exact Rd.one ((sW.f6).aJ)) (aC (by first | rfl | exact Rd.one ((sW.f7).aJ)) bg))) (by omega) (by omega)) ?_
     rintro l17 UA zf
     have SC := zf.f2.right
     have zO := aA.kp (SC.f15.f15.f15.f15.f15.f15.f15.f15.f15.f15.f15.f15.f15.f15.f15)
     refine dS zO (by kernel_rfl) ?_
     refine iZ 8 rfl zO rfl (dU 9 rfl zO 33 underlying69 rfl sizeOf67 rfl ?_)
     refine dO 10 rfl (by kernel_rfl) (aS 33 (l' := [_, _, _, _, _, _, _, _, _, _, _, _, _, _, _, _, _, _, _, _, _, _, _, _, _, _, _, _, _, _, _, _, _, _]) SC.f2 sizeOf67 rfl rfl (by first | rfl | exact Rd.one ((SC).aJ)) rfl rfl) ?_
     rintro _ TS xX
     have JW := aA.kp (xX.f15.f15.f15.f15.f15.f15.f15.f15.f15.f15.f15.f15.f15.f15.f15)
     refine dS JW (by kernel_rfl) ?_
     refine mD (aj (ay (ah (aP rfl (aW rfl (aB (aj (aN (aT (.inl rfl) results88 rfl ?_)))))))))
     have X := (xX.f5.right.f12.right.f12.right.f12.f12.f12.f6.f12.f8.f12.f12.f9.f10.f12.f12).jE.swap.jE.swap
     have X2 := aA.uP (es := []) X.D6.f3.f3.f4
     exact ⟨by rw [hE]; rfl, by rw [hS, Bl (x := (qg s.c.L i j l, kD s.c.L i j l, kE s.c.L i j l)) hlen J8]; exact aA.Sz (s := { (s.jS (qL s.c.L i j l) (qM s.c.L s.c.pt i j l) (qN s.c.L s.c.mark i j l)).oz [] with put := [(qg s.c.L i j l, kD s.c.L i j l, kE s.c.L i j l)], c := { ((s.jS (qL s.c.L i j l) (qM s.c.L s.c.pt i j l) (qN s.c.L s.c.mark i j l)).oz []).c with run := false } }) (Bl (x := (qg s.c.L i j l, kD s.c.L i j l, kE s.c.L i j l)) hlen J8 ▸ Oc (uY dL _ _ _) hok) rfl X2⟩
    ·(try simp only [aG] at h4)
     have J8 : ¬ 16384 ≤ fB (s.jS (qL s.c.L i j l) (qM s.c.L s.c.pt i j l) (qN s.c.L s.c.mark i j l)).here (s.jS (qL s.c.L i j l) (qM s.c.L s.c.pt i j l) (qN s.c.L s.c.mark i j l)).put := by show ¬ 16384 ≤ fB s.here s.put; omega
     refine aQ (aj ?_)
     have Gq := VN.drew
     have mO := aA.kp (Gq.f14.f14.f14.f14.f14.f14.f14.f14.f14.f14.f14.f14.f14.f14)
     refine vJ [4, 5] mO rfl (fU 0 rfl mO rfl (fU 1 rfl mO rfl (iZ 2 rfl mO rfl (dU 3 rfl mO 33 underlying69 rfl sizeOf67 rfl (gG 4 rfl mO (fun W hW => iF underlying67 rfl ((Kp.h hW).f2).get.2 rfl) (gG 5 rfl mO (fun W hW => bQ underlying202 rfl sizeOf202 rfl rfl ((Kp.h hW).f4).get.2) (jm 6 rfl (mP Gq underlying67 sizeOf202 zeroValue202 rfl rfl rfl (by decide) (by decide)) ?_)))))))
     rintro YJ QW zh
     have zW := aA.kp (zh.f15.f15.f15.f15.f15.f15.f15.f15.f15.f15.f15.f15.f15.f15.f15)
     refine bU zW (fun W hW => (Kp.h hW).right.f14.f14.f14.f14.f14.f14.f14.f14.f14.f14.f14.f14.f14.f14) ?_
     refine jm 7 rfl (fK zh.f13 underlying67 (show (prog.info? 202).map (fun i => (i.zero, i.size, i.bytes)) = some (some (.agg #[.int .i64 0, .slice none 0 0, .slice none 0 0]), 3, 56) by kernel_rfl) rfl rfl rfl ((zh).aJ) (aC (by first | rfl | assumption) (aC (by first | rfl | exact Rd.one ((zh.f6).aJ)) (aC (by first | rfl | exact Rd.one ((zh.f7).aJ)) bg))) (by omega) (by omega)) ?_
     rintro l21 TT oW
     have Dc := oW.f2.right
     have zX := aA.kp (Dc.f14.f14.f14.f14.f14.f14.f14.f14.f14.f14.f14.f14.f14.f14)
     refine dS zX (by kernel_rfl) ?_
     refine iZ 8 rfl zX rfl (dU 9 rfl zX 33 underlying69 rfl sizeOf67 rfl ?_)
     refine dO 10 rfl (by kernel_rfl) (aS 33 (l' := [_, _, _, _, _, _, _, _, _, _, _, _, _, _, _, _, _, _, _, _, _, _, _, _, _, _, _, _, _, _, _, _, _, _]) Dc.f3 sizeOf67 rfl rfl (by first | rfl | exact Rd.one ((Dc).aJ)) rfl rfl) ?_
     rintro _ Qh vN
     have BO := aA.kp (vN.f14.f14.f14.f14.f14.f14.f14.f14.f14.f14.f14.f14.f14.f14)
     refine dS BO (by kernel_rfl) ?_
     refine mD (aj (ay (ah (aP rfl (aW rfl (aB (aj (aN (aT (.inl rfl) results88 rfl ?_)))))))))
     have X := (vN.f5.right.f13.f12.f12.f6.f12.f8.f12.f12.f9.f13.f11.f13.f13).jE.swap.jE.swap
     rw [← iC] at X
     have X2 := aA.uP X.f3
     exact ⟨by rw [hE]; rfl, by rw [hS, Bj (x := (qg s.c.L i j l, kD s.c.L i j l, kE s.c.L i j l)) hlen J8]; exact aA.Sz (s := { s.jS (qL s.c.L i j l) (qM s.c.L s.c.pt i j l) (qN s.c.L s.c.mark i j l) with put := s.put ++ [(qg s.c.L i j l, kD s.c.L i j l, kE s.c.L i j l)] }) (Bj (x := (qg s.c.L i j l, kD s.c.L i j l, kE s.c.L i j l)) hlen J8 ▸ Oc (uY dL _ _ _) hok) (by rw [List.map_append, bM]; rfl) X2⟩
   ·(try simp only [aG] at h3)
    have hlen : (kD s.c.L i j l).length + (kE s.c.L i j l).length = 0 := by omega
    refine aQ (aj (ay (ah (aP rfl (aW rfl (aB (aj (aN (aT (.inl rfl) results88 rfl ?_)))))))))
    exact ⟨by rw [hE]; rfl, by rw [hS, EI (x := (qg s.c.L i j l, kD s.c.L i j l, kE s.c.L i j l)) hlen]; exact aA.eG (s := s.jS (qL s.c.L i j l) (qM s.c.L s.c.pt i j l) (qN s.c.L s.c.mark i j l)) (uY dL _ _ _) bM H5.right.right.right.f11.f11.f11.f11.f11.f11.f11.f11.f11.f10.f11⟩
  ·(try simp only [aG] at h2)
   have hlen : (kD s.c.L i j l).length + (kE s.c.L i j l).length = 0 := by rw [(hno h2).1, (hno h2).2]; rfl
   refine bK (bK (bK (bK (bK (bK (bK (bK (jd rfl rfl (aB (aj (pW (aQ (aj (ay (ah (aP rfl (aW rfl (aB (aj (aN (aT (.inl rfl) results88 rfl ?_)))))))))))))))))))))
   exact ⟨by rw [hE]; rfl, by rw [hS, EI (x := (qg s.c.L i j l, kD s.c.L i j l, kE s.c.L i j l)) hlen]; exact aA.eG (s := s.jS (qL s.c.L i j l) (qM s.c.L s.c.pt i j l) (qN s.c.L s.c.mark i j l)) (uY dL _ _ _) bM H5.right.right.right.f11.f11.f11.f11.f11.f11.f11.f11.f11.f10.f11⟩
theorem FH (H : aA w0 w (dN e s • F)) (hr : gV w0 F .i32 v l) : fQ prog 39 #[.pointer (some ⟨e, 0, none⟩), v] w fun v' w' => v' = .int .i64 (s.RF l) ∧ aA w0 w' (dN e (s.Pq l) • F) := by
 refine iw func39 ntmps39 ?_
 dsimp only [aZ, Nat.reduceAdd]
 refine ay (ah (aW rfl (aB (aj (ay (ay (ah (aP rfl (dD rfl func81 (lq H) ?_)))))))))
 rintro _ _ ⟨rfl, rfl⟩
 refine aW rfl (aB (aj (ay (ah (aP rfl (aU (dG rfl rfl) (aB (aj (aO rfl (fun h1 => ?_) (fun h1 => ?_))))))))))
 ·(try simp only [aG] at h1)
  obtain ⟨hin, hpe⟩ := Dt h1
  refine ay (ah (aP rfl (aW rfl (aB (aj (aN (aK (aT (.inl rfl) results39 rfl ?_))))))))
  rw [hpe]
  exact ⟨by simp [bH.RF, bH.Pq, bH.o8, bH.tN, hin], by rw [show s.Pq l = s from by simp [bH.RF, bH.Pq, bH.o8, bH.tN, hin]]; exact H⟩
 ·(try simp only [aG] at h1)
  have hin := zZ h1
  refine aQ (aj (ay ?_))
  obtain ⟨qZ, ru, rC, rD, rE, rF, rG, rH, oL, mZ, ng, ni, ny, nC, nD, nG, nH, nI, nJ, nK, dL, bM, iC, eU⟩ := (H).Ey
  have PD := eU.drew
  have vk := aA.kp (PD.f11.f11.f11.f11.f11.f11.f11.f11.f11.f11.f11)
  refine vJ [5, 11] vk rfl (fU 0 rfl vk rfl (fU 1 rfl vk rfl (iZ 2 rfl vk rfl (dU 3 rfl vk 0 underlying69 rfl sizeOf64 rfl (dU 4 rfl vk 0 underlying64 rfl sizeOf59 rfl (gG 5 rfl vk (fun W hW => iF underlying59 rfl ((Kp.h hW)).get.2 rfl) (fU 7 rfl vk rfl (iZ 8 rfl vk rfl (dU 9 rfl vk 0 underlying69 rfl sizeOf64 rfl (dU 10 rfl vk 0 underlying64 rfl sizeOf59 rfl (gG 11 rfl vk (fun W hW => iF underlying59 rfl ((Kp.h hW)).get.2 rfl) (fU 13 rfl vk rfl (jm 6 rfl (rX rfl func89 (uh PD.f2)) ?_)))))))))))))
  rintro _ _ ⟨rfl, rfl⟩
  have CS := aA.kp (PD.f11.f11.f11.f11.f11.f11.f11.f11.f11.f11.f11)
  refine bU CS (fun W hW => (Kp.h hW).f11.f11.f11.f11.f11.f11.f11.f11.f11.f11.f11) ?_
  refine jm 12 rfl (rX rfl func89 (uh PD.f2)) ?_
  rintro _ _ ⟨rfl, rfl⟩
  have uO := aA.kp (PD.f11.f11.f11.f11.f11.f11.f11.f11.f11.f11.f11)
  refine dS uO (by kernel_rfl) ?_
  have Wj := PD.f11.f11.f11.f11.f11.f11.f11.f11.f11.f11.f11
  have Wn := aA.eG (s := s) dL bM Wj
  refine jm 14 rfl (rX rfl func88 (EJ Wn (fun W HW => hr _ (HW)))) ?_
  rintro _ w8 ⟨rfl, H8⟩
  have JF := aA.kp (H8)
  refine dS JF (by kernel_rfl) ?_
  refine gZ 15 rfl JF (fun _ => eX rfl) (mD (aj (aN (aT (.inl rfl) results39 rfl ?_))))
  exact ⟨rfl, H8⟩
end
end Go.Proofs.YtddekefihgejoaaGreatDoor
end
section
namespace Go.Proofs.YtddekefihgejoaaGreatDoor
open Go.RowKit
section
variable {w0 w : World} {F : HP} {e p h pr : Nat} {s : bH} {i j x : Int} {back : Bool} {v : Value} {l : List Int}
end
end Go.Proofs.YtddekefihgejoaaGreatDoor
end
section
namespace Go.Proofs.YtddekefihgejoaaGreatDoor
open Go.RowKit
open _root_.Go.Proofs.Tryz
theorem UW : (prog.info? 202).map (fun i => (i.zero, i.size, i.bytes)) = some (some (.agg #[.int .i64 0, .slice none 0 0, .slice none 0 0]), 3, 56) := by kernel_rfl
def Oe (c : Nat) (g : List fG) : HP := qC fun (x : Value × List dw) => fact (x.2.map dw.says = g) • cO c (.cells #[x.1] 67 (0, 0)) • Row 202 3 x.1 x.2.length (x.2.flatMap dw.enc) • jq x.2
section
variable {w0 w : World} {F : HP} {e p c n m : Nat} {s : bH} {i j x : Int} {on : Bool} {v : Value} {g : List fG} {uq es : List dw} {xs : List Value}
theorem Df (H : aA w0 w F) (hr : Aq w0 F 3 v n xs) (hon : ∀ u ∈ xs, u.oneCell' = true) (hb : n ≤ 1099511627776) :
    fQ prog 130 #[v] w fun v' w' => aA w0 w' (Row 202 3 v' n xs • F) := by
  obtain ⟨hlen, a, c, rfl, h2, h3, h4⟩ := hr w H
  refine iw func130 ntmps130 ?_
  dsimp only [aZ, Nat.reduceAdd]
  refine ay (ah (aW rfl (aB (aj (ay (ay (ah (aP rfl (aU (pV underlying67 rfl rfl) (aB (aj (aO rfl (fun h1 => ?_) (fun h1 => ?_)))))))))))))
  · (try simp only [aG] at h1)
    try (exfalso; first | contradiction | omega)
    all_goals
      refine ay (ah (aW rfl (aB (aj (aN (aK (aT (.inl rfl) results130 rfl ?_)))))))
      obtain rfl : a = none := by simpa using h1
      obtain rfl : n = 0 := by
        rcases Nat.eq_zero_or_pos n with h | h
        · exact h
        · obtain ⟨b, o, e, _⟩ := h4 h; cases e
      obtain rfl : xs = [] := List.eq_nil_of_length_eq_zero (by omega)
      exact H.iH none
  · (try simp only [aG] at h1)
    try (exfalso; first | contradiction | omega)
    all_goals
      refine aQ (aj (ay (ah (gB (D7 H underlying67 sizeOf202 zeroValue202) ?_))))
      rintro _ w1 H1
      refine aP rfl (gB (fK H1 underlying67 UW rfl rfl rfl (hr.under _ H1) hon (by omega) (by omega)) ?_)
      rintro _ w2 H2
      refine aW rfl (aB (aj (aN (aT (.inl rfl) results130 rfl ?_))))
      exact H2.of_eq (by rw [Nat.zero_add, List.nil_append])
theorem aA.old (H : aA w0 w (Oe c g • F)) : ∃ v es, es.map dw.says = g ∧ aA w0 w (cO c (.cells #[v] 67 (0, 0)) • Row 202 3 v es.length (es.flatMap dw.enc) • jq es • F) := by
  obtain ⟨⟨v, es⟩, H⟩ := H.kU
  obtain ⟨h, H⟩ := H.flat.fact
  exact ⟨v, es, h, H.of_eq (by simp only [bF])⟩
theorem aA.SE (h : es.map dw.says = g) (H : aA w0 w (cO c (.cells #[v] 67 (0, 0)) • Row 202 3 v es.length (es.flatMap dw.enc) • jq es • F)) : aA w0 w (Oe c g • F) :=
  aA.gY (v, es) (aA.deep (aA.jU h (H.of_eq (by simp only [bF]))))
theorem aA.UY (hg : g = []) (H : aA w0 w (cO c (.cells #[.slice none 0 0] 67 (0, 0)) • F)) : aA w0 w (Oe c g • F) :=
  aA.SE (v := .slice none 0 0) (es := []) hg.symm ((H.pI none).of_eq (by unfold Fv; ac_rfl))
theorem aA.Ik (hm : m = es.length) (H : aA w0 w (Row 202 3 v (uq.length + m) (uq.flatMap dw.enc ++ es.flatMap dw.enc) • jq uq • jq es • F)) : aA w0 w (Row 202 3 v (uq ++ es).length ((uq ++ es).flatMap dw.enc) • jq (uq ++ es) • F) := by
  subst hm
  have h1 : aA w0 w (jq uq • jq es • Row 202 3 v (uq.length + es.length) (uq.flatMap dw.enc ++ es.flatMap dw.enc) • F) := H.of_eq (by ac_rfl)
  have h2 : aA w0 w (jq (uq ++ es) • Row 202 3 v (uq.length + es.length) (uq.flatMap dw.enc ++ es.flatMap dw.enc) • F) := h1.Dh (rZ (fun I h g => h.app g) _)
  exact h2.swap.of_eq (by rw [List.length_append, List.flatMap_append])
def SG (s : bH) (on : Bool) (uq : List dw) (G1 : List (List fG)) : Prop := fB G1 [] + uq.length = fB s.here [] ∧ (∀ e ∈ uq, wF e.says) ∧ s.jW on = G1 ++ [uq.map dw.says ++ s.put]
theorem PE (hp : s.put ≠ []) (hn : on = false) : SG s on [] s.here := by
  subst hn
  refine ⟨by simp, by simp, ?_⟩
  unfold bH.jW
  rw [if_neg hp, if_neg (by decide)]
  rfl
theorem Il : ∀ {G : List (List fG)}, G ≠ [] → (G.dropLast.map List.length).sum + (G.getLastD []).length = (G.map List.length).sum := by
  intro G hG
  have h := List.dropLast_concat_getLast hG
  have h2 : G.getLastD [] = G.getLast hG := by rw [List.getLastD_eq_getLast?, List.getLast?_eq_some_getLast hG]; rfl
  rw [h2]
  conv => rhs; rw [← h]
  simp
theorem J9 (hp : s.put ≠ []) (hn : on = true) (hO : ∀ g ∈ s.here, ∀ e ∈ g, wF e) (h : uq.map dw.says = s.here.getLastD []) : SG s on uq s.here.dropLast := by
  subst hn
  have hlen : uq.length = (s.here.getLastD []).length := by rw [← h]; simp
  have hm : ∀ e ∈ uq, e.says ∈ s.here.getLastD [] := fun e he => by rw [← h]; exact List.mem_map.2 ⟨e, he, rfl⟩
  unfold SG bH.jW
  rw [if_neg hp, if_pos rfl]
  by_cases h0 : s.here = []
  · rw [h0] at h hlen hm
    have : uq = [] := List.eq_nil_of_length_eq_zero (by simpa using hlen)
    subst this
    rw [h0]
    exact ⟨by simp, by simp, rfl⟩
  · have h2 : s.here.getLastD [] = s.here.getLast h0 := by rw [List.getLastD_eq_getLast?, List.getLast?_eq_some_getLast h0]; rfl
    refine ⟨?_, fun e he => hO _ (List.getLast_mem h0) _ (h2 ▸ hm e he), ?_⟩
    · have := Il h0
      show (s.here.dropLast.map List.length).sum + 0 + uq.length = (s.here.map List.length).sum + 0
      rw [hlen]; omega
    · rw [List.getLast?_eq_some_getLast h0, h, h2]
theorem EL (G : List (List fG)) : yT G [] = G.reverse := by unfold yT jr; rw [if_pos rfl]
theorem MN (G : List (List fG)) : (yT G []).getD 0 [] = G.getLastD [] := by
  rw [EL, List.getD_eq_getElem?_getD, List.getLastD_eq_getLast?]
  congr 1
  cases G.eq_nil_or_concat with
  | inl h => subst h; rfl
  | inr h => obtain ⟨L, b, rfl⟩ := h; simp
theorem SH {G : List (List fG)} (h : UE G [] 0) : (∀ g ∈ yT G [], ∀ e ∈ g, EB e) ∧ ∀ g ∈ yT G [], g.length ≤ 16384 := by
  rw [EL]
  refine ⟨fun g hg => h.2.2.2.2.1 g (List.mem_reverse.1 hg), fun g hg => ?_⟩
  have h1 := Ie (List.mem_reverse.1 hg)
  have h2 := h.2.1
  unfold fB at h2
  simp at h2; omega
theorem Io (G : List (List fG)) (N : List fG) : WA G N (0 + 1) = jr G N ∧ WB N (0 + 1) = [] ∧ UG (0 + 1) = 0 := ⟨if_pos rfl, if_pos rfl, by unfold UG; rw [if_neg (by decide)]; rfl⟩
theorem Gs (G : List (List fG)) : NK G [] = G.dropLast ∧ NM G [] = [] ∧ NQ G [] 0 = 0 := by
  unfold NK NM NQ jr
  by_cases h : G.length + ([] : List fG).length = 0
  · have : G = [] := List.eq_nil_of_length_eq_zero (by simpa using h)
    subst this
    simp
  · rw [if_neg h, if_neg h, if_neg h, if_pos rfl]; simp
theorem MO {s : bH} (h : s.put = []) : s.dF on = s := by unfold bH.dF; rw [if_pos h]
theorem lu {s : bH} (h : s.put ≠ []) : s.dF on = { s.oz (s.jW on) with put := [] } := by unfold bH.dF; rw [if_neg h]
theorem SI (G : List (List fG)) (g : List fG) : fB (G ++ [g]) [] = fB G [] + g.length := by unfold fB; simp
theorem EM (h : kF s) {G1 : List (List fG)} (hF : SG s on uq G1) (hp : s.put ≠ []) (hG : ∀ g ∈ G1, ∀ e ∈ g, wF e) : kF (s.dF on) := by
  rw [lu hp]
  obtain ⟨h1, h2, h3, h4, h5, h6⟩ := h
  obtain ⟨f1, f2, f3⟩ := hF
  refine ⟨h1, h2, h3, by simp, ?_, ?_⟩
  · show fB (uo s.c.un s.c.place (s.jW on) s.c.place) [] ≤ 16384
    rw [iL, f3, SI]
    have := o9 s.here s.put
    simp; omega
  · intro k g hg e he
    have hg' : g ∈ uo s.c.un s.c.place (s.jW on) k := hg
    by_cases hk : k = s.c.place
    · subst hk
      rw [iL, f3] at hg'
      rcases List.mem_append.1 hg' with hg' | hg'
      · exact hG g hg' e he
      · rw [List.mem_singleton.1 hg'] at he
        rcases List.mem_append.1 he with he | he
        · obtain ⟨q, hq, rfl⟩ := List.mem_map.1 he; exact f2 q hq
        · exact h4 e he
    · rw [sO _ _ hk] at hg'; exact h6 k g hg' e he
theorem Bo {es : List dw} {k : Nat} (hk : k < es.length) : (es.take (k + 1)).map dw.says = (es.take k).map dw.says ++ [(es.getD k default).says] := by
  rw [List.take_succ_eq_append_getElem hk, List.map_append, List.getD_eq_getElem?_getD, List.getElem?_eq_getElem hk]; rfl
theorem jX (H : aA w0 w (dN e s • F)) : fQ prog 83 #[.pointer (some ⟨e, 0, none⟩), .bool on] w fun _ w' => aA w0 w' (dN e (s.dF on) • F) := by
  refine iw func83 ntmps83 ?_
  dsimp only [aZ, Nat.reduceAdd]
  refine ay (ay ?_)
  obtain ⟨qZ, ru, rC, rD, rE, rF, rG, rH, oL, mZ, ng, ni, ny, nC, nD, nG, nH, nI, nJ, nK, dL, bM, iC, eU⟩ := (H).Ey
  have hput : fB s.here s.put ≤ 16384 := dL.2.2.2.2.1
  have hsp := o9 s.here s.put
  have hO : ∀ g ∈ s.here, ∀ x ∈ g, wF x := dL.2.2.2.2.2 s.c.place
  have hPO : ∀ x ∈ oL, wF x.says := fun x hx => dL.2.2.2.1 _ (by rw [← bM]; exact List.mem_map.2 ⟨x, hx, rfl⟩)
  have ab9 := (eU.f10).Jr
  refine ah (aP rfl (bT rfl (bf 33 underlying69 rfl sizeOf67 rfl (dA underlying67 rfl (eU).get.2 rfl (aU (eY ((eU.f9).aJ) underlying67 rfl) (aU (iQ rfl rfl) (aB (aj (aO rfl (fun h1 => ?_) (fun h1 => ?_))))))))))
  · (try simp only [aG] at h1)
    refine aN (aK (gq (.inl rfl) results83 ?_))
    rw [MO (List.eq_nil_of_length_eq_zero (by omega))]
    exact aA.eG dL bM eU.f11.f11.f11.f11.f11.f11.f11.f11.f11.f11.f11
  · (try simp only [aG] at h1)
    have hp : s.put ≠ [] := by rintro hz; rw [hz] at h1; simp at h1
    refine aQ (aj (ay (ah (aP rfl (dD rfl func128 (xE eU.f6.f5.f3) ?_)))))
    rintro _ w2 ⟨lp2, rfl, H2⟩
    refine aW rfl (aB (aj (ay (ah (gB (bW (l := [_]) H2 zeroValue67 rfl) ?_)))))
    rintro _ w3 ⟨b3, rfl, H3⟩
    refine aB (aj (ay (ay ?_)))
    obtain ⟨R4, Y0, HR4⟩ := aA.XM (H3.f2.f2)
    refine ah (aP rfl (aB (aj (aO rfl (fun h2 => ?_) (fun h2 => ?_)))))
    · (try simp only [aG] at h2)
      have hn : on = true := h2
      refine ay (ay (ah (aP rfl (dD rfl func129 (C9 HR4.f2) ?_))))
      rintro _ w5 ⟨bG5, rfl, H5⟩
      refine aB (aj (aY ?_))
      obtain ⟨_, _, _, _, k1, _⟩ := (H5.f2).qO
      obtain ⟨hB, hL⟩ := SH k1
      have HF0 := aA.jU (q := (0 : Nat) = 0) rfl H5
      obtain ⟨R6, ZO, HR6⟩ := aA.Dx (HF0.f4.f2.f3)
      refine qY rfl (JX bG5 hB hL) (fun j => fact (j = 0) • cO b3 (.cells #[.slice none 0 0] 67 (0, 0)) • R6) (fact False) (fun id => if id = 0 then Oe b3 (s.here.getLastD []) • R6 else fact False) (HR6.f3.f3.f3.f3.f3.f3.comm) (by rfl) ?_ ?_ ?_ ?_
      · rintro l7 j UF vs7 A7 ⟨u1, fs1, Y1, rfl, rfl⟩ G7 w7 H7
        try simp only [bF, ji, nO] at H7
        refine ⟨rfl, ?_⟩
        dsimp only [JI]
        have HQ := (H7).XB
        obtain rfl : j = 0 := (HQ.f3).fact.1
        have hon := (HQ.f2).Jr
        have hlen1 : fs1.length ≤ 16384 := by
          have h9 := hL _ (uM (d := []) UF)
          rw [← Y1] at h9
          simpa using h9
        refine ah (aW rfl (aB ?_))
        refine Ia (HQ.g5) ?_
        intro G8 w8 H8
        try simp only [bF] at H8
        refine aY (ay (ah (aP rfl (dD rfl func130 (Df H8 (fun W HW => (HW).aJ) hon (by omega)) ?_))))
        rintro u9 w9 H9
        refine aI (aS 0 (l' := [_]) H9.f5 sizeOf67 rfl rfl (by first | rfl | exact Rd.one ((H9).aJ)) rfl rfl) ?_
        rintro _ w10 qK
        refine aB (aj (dK ?_))
        refine kG (by decide) ?_
        refine Rh ?_
        rw [if_pos rfl]
        exact (aA.SE (Y1.trans (MN _)) qK.f3.right.f4.right.f3.f3.f3).deep
      · rintro D11 IV vK
        have QU := vK.ed
        try simp only [bF, ji, nO] at QU
        have Y2 := QU.I7
        have hz := (Y2.f3).fact.1
        rw [EL, List.length_reverse] at hz
        have hg0 : s.here.getLastD [] = [] := by show (s.c.un s.c.place).getLastD [] = []; rw [List.eq_nil_of_length_eq_zero hz]; rfl
        have MH := Y2.f4
        have MI := aA.UY hg0 MH
        have aaV := MI.f4.right
        subst ZO
        subst Y0
        refine aH (aj (ah (aP rfl (dD rfl func131 (yE aaV.f4) ?_))))
        rintro _ QV ⟨u15, acQ, rfl, aca, xu⟩
        have aaW := xu.right
        have Hz := aaW.right
        have SC := Hz.f4.right
        obtain ⟨h9a, h9b, h9c⟩ := Gs (s.c.un s.c.place)
        have HX := SC
        rw [h9a, h9b, h9c] at HX
        obtain ⟨ov, uq, Xa, HO⟩ := (HX.f2).old
        have hF := J9 hp hn hO Xa
        have hG1 : ∀ g ∈ s.here.dropLast, ∀ x ∈ g, wF x := fun g hg => hO g (List.dropLast_subset _ hg)
        obtain ⟨G1, Xb⟩ : ∃ q, q = (s.c.un s.c.place).dropLast := ⟨_, rfl⟩
        rw [show s.here.dropLast = (s.c.un s.c.place).dropLast from rfl] at hF hG1
        have Y3 := HO
        rw [← Xb] at hF hG1 Y3
        refine aB (aj (ay ?_))
        obtain ⟨hF1, hF2, hF3⟩ := hF
        have hl1 : uq.length ≤ 16384 := by omega
        have hl2 : s.put.length ≤ 16384 := by omega
        refine ah (aP rfl (dD rfl func132 (sK Y3.f4 (by omega)) ?_))
        rintro _ TS ⟨rfl, xX⟩
        refine aB (aj (ay (ay ?_)))
        have Gq := xX.drew
        have mO := aA.kp (Gq.f16.f16.f16.f16.f16.f16.f16.f16.f16.f16.f16.f16.f16.f16.f16.f16)
        refine vJ [0, 4] mO rfl (gG 0 rfl mO (fun W hW => iF underlying67 rfl ((Kp.h hW).f2).get.2 rfl) (fU 1 rfl mO rfl (iZ 2 rfl mO rfl (dU 3 rfl mO 33 underlying69 rfl sizeOf67 rfl (gG 4 rfl mO (fun W hW => iF underlying67 rfl ((Kp.h hW).f7).get.2 rfl) (fU 7 rfl mO rfl (jm 5 rfl (fK Gq.f3 underlying67 (show (prog.info? 202).map (fun i => (i.zero, i.size, i.bytes)) = some (some (.agg #[.int .i64 0, .slice none 0 0, .slice none 0 0]), 3, 56) by kernel_rfl) rfl rfl rfl ((Gq.f14).aJ) (by assumption) (by omega) (by omega)) ?_)))))))
        rintro YJ QW zh
        have zW := aA.kp (zh.f16.f16.f16.f16.f16.f16.f16.f16.f16.f16.f16.f16.f16.f16.f16.f16)
        refine dS zW (by kernel_rfl) ?_
        have aaX := zh.f15.f5.f3
        have aaY := aA.Ik iC.symm aaX
        obtain ⟨AE, Og⟩ : ∃ q, q = uq ++ oL := ⟨_, rfl⟩
        have HA := aaY
        rw [← Og] at HA
        have hAl : AE.length = uq.length + s.put.length := by rw [Og, List.length_append, iC]
        have hAs : AE.map dw.says = uq.map dw.says ++ s.put := by rw [Og, List.map_append, bM]
        have Y4 : ∀ x ∈ AE, wF x.says := fun x hx => by
          rw [Og] at hx
          rcases List.mem_append.1 hx with hx | hx
          · exact hF2 x hx
          · exact hPO x hx
        refine gZ 6 rfl zW (fun _ => eY ((HA).aJ) underlying67 rfl) (mD (aj (aY ?_)))
        obtain ⟨R23, aaZ, aa0⟩ := aA.Dx (HA.f2.f2.f3)
        refine eP [(0, _), (4, _), (32, _), (33, _)] (fun (i : Nat) => [(34, .int .i64 (i : Int))]) (fun (i : Nat) W => i ≤ AE.length ∧ aA w0 W (eF lp2 G1 ((AE.take i).map dw.says) (0 + 1) • Row 202 3 YJ AE.length (AE.flatMap dw.enc) • jq AE • R23)) (fun (i : Nat) => AE.length - i) (0) (Sub.cons rfl (Sub.cons rfl (Sub.cons rfl (Sub.cons rfl (Sub.nil _))))) (Sub.cons rfl (Sub.nil _)) ⟨by omega, aa0⟩ ?_
        rintro i Yb ⟨hi, HL⟩
        dsimp only [List.cons_append, List.nil_append]
        refine ay (ah (aU (dV rfl rfl) (aB (aj (ay (aO rfl (fun h3 => ?_) (fun h3 => ?_)))))))
        · (try simp only [aG] at h3)
          refine aQ (aj (ay (aY (ay (ah ?_)))))
          obtain ⟨acR, acS, acT, aa1⟩ := Rd.kN ((HL.f2).aJ) (by omega)
          cases aa1
          refine aU (bV underlying67 sizeOf202 rfl rfl (by omega)) (aU (iG (ys := [_, _, _]) ((HL.f2).aJ) (by omega) underlying202 rfl sizeOf202 rfl (jw dw.zF (by omega) default) rfl) ?_)
          have hkl : i < AE.length := by omega
          have hx : wF (AE.getD i default).says := Y4 _ (by rw [List.getD_eq_getElem?_getD, List.getElem?_eq_getElem hkl]; exact List.getElem_mem hkl)
          have hx1 : (AE.getD i default).dl.length ≤ 1024 := hx.2.2.1
          have hx2 : (AE.getD i default).il.length ≤ 1024 := hx.2.2.2
          refine gB (bW (l := [_, _, _]) HL zeroValue202 rfl) ?_
          rintro _ Yc ⟨b25, rfl, Jz⟩
          refine aI (bC 0 (l' := [_, _, _]) (us := [_, _, _]) Jz sizeOf202 rfl rfl rfl (aC (by first | rfl | assumption) (aC (by first | rfl | exact Rd.one (((Jz.f4).kR hkl).1)) (aC (by first | rfl | exact Rd.one (((Jz.f4).kR hkl).2)) bg))) rfl rfl) ?_
          rintro _ ZH ND
          refine aB (aj (ah (aP rfl (aU (bQ underlying202 rfl sizeOf202 rfl rfl (ND).get.2) (dD rfl func133 (wB ND.f2 (fun W HW => ((HW.f3).kR hkl).1) (fun W HW => ((HW.f3).kR hkl).2) (by omega) (by omega)) ?_)))))
          rintro _ Yd ⟨rfl, IX⟩
          have hadd : lU G1 ((AE.take i).map dw.says) (AE.getD i default).a (AE.getD i default).dl (AE.getD i default).il = 0 := by
            have hx3 : 0 < (AE.getD i default).dl.length + (AE.getD i default).il.length := hx.2.1
            have hx4 : 0 ≤ (AE.getD i default).a := hx.1
            have hx5 := o9 G1 ((AE.take i).map dw.says)
            rw [List.length_map, List.length_take] at hx5
            unfold lU
            rw [if_neg (by omega), if_neg (by omega)]
          have HA2 := IX
          rw [Dn hadd (by decide), Dp hadd (by decide)] at HA2
          refine aB (aH (aj (ah (aU (dR rfl rfl (by omega)) (aP rfl (aB ?_))))))
          refine bZ (i + 1) ?_ ?_ ?_ ?_
          · exact (Sub.cons rfl (Sub.nil _))
          · exact (Sub.cons rfl (Sub.cons rfl (Sub.cons rfl (Sub.cons rfl (Sub.nil _)))))
          · (try dsimp only)
            first | done | exact ⟨by omega, by rw [Bo hkl]; exact HA2.f2.right.f3.f3.f3⟩
          · (try dsimp only); omega
        · (try simp only [aG] at h3)
          refine dK (aV ?_)
          have hil : i = AE.length := by omega
          have HB := HL
          rw [hil, List.take_length] at HB
          subst aaZ
          refine aV (bD (aj (ay (ah (aP rfl (dD rfl func134 (wE HB) ?_))))))
          rintro _ Ye ⟨rfl, LU⟩
          obtain ⟨Y5, Y6, Y7⟩ := Io G1 (AE.map dw.says)
          have HC := LU
          rw [Y5, Y6, Y7, hAs, mQ (by intro hz; exact hp (List.append_eq_nil_iff.1 hz).2), ← hF3] at HC
          have WU := HC.f6
          have WV := aA.uX WU
          refine aB (aj (ah (aP rfl (bT rfl (bf 33 underlying69 rfl sizeOf67 rfl (aI (aS 33 (l' := [_, _, _, _, _, _, _, _, _, _, _, _, _, _, _, _, _, _, _, _, _, _, _, _, _, _, _, _, _, _, _, _, _, _]) WV.f6 sizeOf67 rfl rfl (by first | rfl | assumption) rfl rfl) ?_))))))
          rintro _ XD Lc
          refine aB ?_
          refine zu (.inr rfl) (Lc.f6) (fun w32 CW => ?_)
          refine ⟨_, VX results83, ?_⟩
          rw [lu hp]
          exact aA.EG (s := { s.oz (s.jW on) with put := [] }) (lu hp ▸ EM dL ⟨hF1, hF2, hF3⟩ hp hG1) rfl CW.f3.right.f3.right.f3.right.f9.right.f9.f9.f9.f5.f9.f7.f9.f9.f9
      · rintro D w H; exact absurd H.swap.fact.1 id
      · rintro id D33 ZJ LV
        refine Decidable.byCases (fun hid : id = 0 => ?_) (fun hid => by rw [if_neg hid] at LV; exact absurd LV.swap.fact.1 fun h => h)
        subst hid
        rw [if_pos rfl] at LV
        have Y8 := LV.ed
        try simp only [bF, ji, nO] at Y8
        have aa2 := Y8.I7
        subst ZO
        subst Y0
        refine bD (aj (ah (aP rfl (dD rfl func131 (yE aa2.f4) ?_))))
        rintro _ ZQ ⟨u34, acU, rfl, acb, N7⟩
        have aa3 := N7.right
        have aa4 := aa3.right
        have Xc := aa4.f3.right
        obtain ⟨h9a, h9b, h9c⟩ := Gs (s.c.un s.c.place)
        have HX := Xc
        rw [h9a, h9b, h9c] at HX
        obtain ⟨ov, uq, Xa, HO⟩ := (HX.f3).old
        have hF := J9 hp hn hO Xa
        have hG1 : ∀ g ∈ s.here.dropLast, ∀ x ∈ g, wF x := fun g hg => hO g (List.dropLast_subset _ hg)
        obtain ⟨G1, Xb⟩ : ∃ q, q = (s.c.un s.c.place).dropLast := ⟨_, rfl⟩
        rw [show s.here.dropLast = (s.c.un s.c.place).dropLast from rfl] at hF hG1
        have Y3 := HO
        rw [← Xb] at hF hG1 Y3
        refine aB (aj (ay ?_))
        obtain ⟨hF1, hF2, hF3⟩ := hF
        have hl1 : uq.length ≤ 16384 := by omega
        have hl2 : s.put.length ≤ 16384 := by omega
        refine ah (aP rfl (dD rfl func132 (sK Y3.f4 (by omega)) ?_))
        rintro _ ZR ⟨rfl, MJ⟩
        refine aB (aj (ay (ay ?_)))
        have SK := MJ.drew
        have yZ := aA.kp (SK.f16.f16.f16.f16.f16.f16.f16.f16.f16.f16.f16.f16.f16.f16.f16.f16)
        refine vJ [0, 4] yZ rfl (gG 0 rfl yZ (fun W hW => iF underlying67 rfl ((Kp.h hW).f2).get.2 rfl) (fU 1 rfl yZ rfl (iZ 2 rfl yZ rfl (dU 3 rfl yZ 33 underlying69 rfl sizeOf67 rfl (gG 4 rfl yZ (fun W hW => iF underlying67 rfl ((Kp.h hW).f7).get.2 rfl) (fU 7 rfl yZ rfl (jm 5 rfl (fK SK.f3 underlying67 (show (prog.info? 202).map (fun i => (i.zero, i.size, i.bytes)) = some (some (.agg #[.int .i64 0, .slice none 0 0, .slice none 0 0]), 3, 56) by kernel_rfl) rfl rfl rfl ((SK.f14).aJ) (by assumption) (by omega) (by omega)) ?_)))))))
        rintro l39 w39 H39
        have Ko := aA.kp (H39.f16.f16.f16.f16.f16.f16.f16.f16.f16.f16.f16.f16.f16.f16.f16.f16)
        refine dS Ko (by kernel_rfl) ?_
        have Xd := H39.f15.f5.f3
        have Kq := aA.Ik iC.symm Xd
        obtain ⟨AE, Og⟩ : ∃ q, q = uq ++ oL := ⟨_, rfl⟩
        have HA := Kq
        rw [← Og] at HA
        have hAl : AE.length = uq.length + s.put.length := by rw [Og, List.length_append, iC]
        have hAs : AE.map dw.says = uq.map dw.says ++ s.put := by rw [Og, List.map_append, bM]
        have Y4 : ∀ x ∈ AE, wF x.says := fun x hx => by
          rw [Og] at hx
          rcases List.mem_append.1 hx with hx | hx
          · exact hF2 x hx
          · exact hPO x hx
        refine gZ 6 rfl Ko (fun _ => eY ((HA).aJ) underlying67 rfl) (mD (aj (aY ?_)))
        obtain ⟨R42, aa5, aa6⟩ := aA.Dx (HA.f2.f2.f3)
        refine eP [(0, _), (4, _), (32, _), (33, _)] (fun (i : Nat) => [(34, .int .i64 (i : Int))]) (fun (i : Nat) W => i ≤ AE.length ∧ aA w0 W (eF lp2 G1 ((AE.take i).map dw.says) (0 + 1) • Row 202 3 l39 AE.length (AE.flatMap dw.enc) • jq AE • R42)) (fun (i : Nat) => AE.length - i) (0) (Sub.cons rfl (Sub.cons rfl (Sub.cons rfl (Sub.cons rfl (Sub.nil _))))) (Sub.cons rfl (Sub.nil _)) ⟨by omega, aa6⟩ ?_
        rintro i ZT ⟨hi, HL⟩
        dsimp only [List.cons_append, List.nil_append]
        refine ay (ah (aU (dV rfl rfl) (aB (aj (ay (aO rfl (fun h4 => ?_) (fun h4 => ?_)))))))
        · (try simp only [aG] at h4)
          refine aQ (aj (ay (aY (ay (ah ?_)))))
          obtain ⟨acV, acW, acX, aa7⟩ := Rd.kN ((HL.f2).aJ) (by omega)
          cases aa7
          refine aU (bV underlying67 sizeOf202 rfl rfl (by omega)) (aU (iG (ys := [_, _, _]) ((HL.f2).aJ) (by omega) underlying202 rfl sizeOf202 rfl (jw dw.zF (by omega) default) rfl) ?_)
          have hkl : i < AE.length := by omega
          have hx : wF (AE.getD i default).says := Y4 _ (by rw [List.getD_eq_getElem?_getD, List.getElem?_eq_getElem hkl]; exact List.getElem_mem hkl)
          have hx1 : (AE.getD i default).dl.length ≤ 1024 := hx.2.2.1
          have hx2 : (AE.getD i default).il.length ≤ 1024 := hx.2.2.2
          refine gB (bW (l := [_, _, _]) HL zeroValue202 rfl) ?_
          rintro _ w44 ⟨b44, rfl, VH⟩
          refine aI (bC 0 (l' := [_, _, _]) (us := [_, _, _]) VH sizeOf202 rfl rfl rfl (aC (by first | rfl | assumption) (aC (by first | rfl | exact Rd.one (((VH.f4).kR hkl).1)) (aC (by first | rfl | exact Rd.one (((VH.f4).kR hkl).2)) bg))) rfl rfl) ?_
          rintro _ ZU Ld
          refine aB (aj (ah (aP rfl (aU (bQ underlying202 rfl sizeOf202 rfl rfl (Ld).get.2) (dD rfl func133 (wB Ld.f2 (fun W HW => ((HW.f3).kR hkl).1) (fun W HW => ((HW.f3).kR hkl).2) (by omega) (by omega)) ?_)))))
          rintro _ w46 ⟨rfl, H46⟩
          have hadd : lU G1 ((AE.take i).map dw.says) (AE.getD i default).a (AE.getD i default).dl (AE.getD i default).il = 0 := by
            have hx3 : 0 < (AE.getD i default).dl.length + (AE.getD i default).il.length := hx.2.1
            have hx4 : 0 ≤ (AE.getD i default).a := hx.1
            have hx5 := o9 G1 ((AE.take i).map dw.says)
            rw [List.length_map, List.length_take] at hx5
            unfold lU
            rw [if_neg (by omega), if_neg (by omega)]
          have HA2 := H46
          rw [Dn hadd (by decide), Dp hadd (by decide)] at HA2
          refine aB (aH (aj (ah (aU (dR rfl rfl (by omega)) (aP rfl (aB ?_))))))
          refine bZ (i + 1) ?_ ?_ ?_ ?_
          · exact (Sub.cons rfl (Sub.nil _))
          · exact (Sub.cons rfl (Sub.cons rfl (Sub.cons rfl (Sub.cons rfl (Sub.nil _)))))
          · (try dsimp only)
            first | done | exact ⟨by omega, by rw [Bo hkl]; exact HA2.f2.right.f3.f3.f3⟩
          · (try dsimp only); omega
        · (try simp only [aG] at h4)
          refine dK (aV ?_)
          have hil : i = AE.length := by omega
          have HB := HL
          rw [hil, List.take_length] at HB
          subst aa5
          refine aV (bD (aj (ay (ah (aP rfl (dD rfl func134 (wE HB) ?_))))))
          rintro _ w47 ⟨rfl, Xf⟩
          obtain ⟨Y5, Y6, Y7⟩ := Io G1 (AE.map dw.says)
          have HC := Xf
          rw [Y5, Y6, Y7, hAs, mQ (by intro hz; exact hp (List.append_eq_nil_iff.1 hz).2), ← hF3] at HC
          have aa8 := HC.f6
          have aa9 := aA.uX aa8
          refine aB (aj (ah (aP rfl (bT rfl (bf 33 underlying69 rfl sizeOf67 rfl (aI (aS 33 (l' := [_, _, _, _, _, _, _, _, _, _, _, _, _, _, _, _, _, _, _, _, _, _, _, _, _, _, _, _, _, _, _, _, _, _]) aa9.f6 sizeOf67 rfl rfl (by first | rfl | assumption) rfl rfl) ?_))))))
          rintro _ w50 XF
          refine aB ?_
          refine zu (.inr rfl) (XF.f6) (fun w51 WW => ?_)
          refine ⟨_, VX results83, ?_⟩
          rw [lu hp]
          exact aA.EG (s := { s.oz (s.jW on) with put := [] }) (lu hp ▸ EM dL ⟨hF1, hF2, hF3⟩ hp hG1) rfl WW.f3.right.f3.right.f3.right.f9.right.f9.f9.f9.f5.f9.f7.f9.f9.f9
    · (try simp only [aG] at h2)
      have hn : on = false := h2
      obtain ⟨ov, uq, G1, hF, hG1, HF⟩ : ∃ ov uq G1, SG s on uq G1 ∧ (∀ g ∈ G1, ∀ x ∈ g, wF x) ∧ aA w0 w3 (cO b3 (.cells #[ov] 67 (0, 0)) • Row 202 3 ov uq.length (uq.flatMap dw.enc) • jq uq • eF lp2 G1 [] 0 • R4) :=
        ⟨.slice none 0 0, [], s.here, PE hp hn, hO, (aA.pI HR4.f2.f2 none).of_eq (by unfold Fv; ac_rfl)⟩
      subst Y0
      refine aQ (aj (ay ?_))
      obtain ⟨hF1, hF2, hF3⟩ := hF
      have hl1 : uq.length ≤ 16384 := by omega
      have hl2 : s.put.length ≤ 16384 := by omega
      refine ah (aP rfl (dD rfl func132 (sK HF.f4 (by omega)) ?_))
      rintro _ w52 ⟨rfl, VJ⟩
      refine aB (aj (ay (ay ?_)))
      have SL := VJ.drew
      have y5 := aA.kp (SL.f15.f15.f15.f15.f15.f15.f15.f15.f15.f15.f15.f15.f15.f15.f15)
      refine vJ [0, 4] y5 rfl (gG 0 rfl y5 (fun W hW => iF underlying67 rfl ((Kp.h hW).f2).get.2 rfl) (fU 1 rfl y5 rfl (iZ 2 rfl y5 rfl (dU 3 rfl y5 33 underlying69 rfl sizeOf67 rfl (gG 4 rfl y5 (fun W hW => iF underlying67 rfl ((Kp.h hW).f6).get.2 rfl) (fU 7 rfl y5 rfl (jm 5 rfl (fK SL.f3 underlying67 (show (prog.info? 202).map (fun i => (i.zero, i.size, i.bytes)) = some (some (.agg #[.int .i64 0, .slice none 0 0, .slice none 0 0]), 3, 56) by kernel_rfl) rfl rfl rfl ((SL.f13).aJ) (by assumption) (by omega) (by omega)) ?_)))))))
      rintro l53 w53 XG
      have VP := aA.kp (XG.f15.f15.f15.f15.f15.f15.f15.f15.f15.f15.f15.f15.f15.f15.f15)
      refine dS VP (by kernel_rfl) ?_
      have abb := XG.f14.f5.f3
      have abd := aA.Ik iC.symm abb
      obtain ⟨AE, Og⟩ : ∃ q, q = uq ++ oL := ⟨_, rfl⟩
      have HA := abd
      rw [← Og] at HA
      have hAl : AE.length = uq.length + s.put.length := by rw [Og, List.length_append, iC]
      have hAs : AE.map dw.says = uq.map dw.says ++ s.put := by rw [Og, List.map_append, bM]
      have Y4 : ∀ x ∈ AE, wF x.says := fun x hx => by
        rw [Og] at hx
        rcases List.mem_append.1 hx with hx | hx
        · exact hF2 x hx
        · exact hPO x hx
      refine gZ 6 rfl VP (fun _ => eY ((HA).aJ) underlying67 rfl) (mD (aj (aY ?_)))
      obtain ⟨R56, abe, abf⟩ := aA.Dx (HA.f2.f2.f3)
      refine eP [(0, _), (4, _), (32, _), (33, _)] (fun (i : Nat) => [(34, .int .i64 (i : Int))]) (fun (i : Nat) W => i ≤ AE.length ∧ aA w0 W (eF lp2 G1 ((AE.take i).map dw.says) (0 + 1) • Row 202 3 l53 AE.length (AE.flatMap dw.enc) • jq AE • R56)) (fun (i : Nat) => AE.length - i) (0) (Sub.cons rfl (Sub.cons rfl (Sub.cons rfl (Sub.cons rfl (Sub.nil _))))) (Sub.cons rfl (Sub.nil _)) ⟨by omega, abf⟩ ?_
      rintro i w57 ⟨hi, HL⟩
      dsimp only [List.cons_append, List.nil_append]
      refine ay (ah (aU (dV rfl rfl) (aB (aj (ay (aO rfl (fun h5 => ?_) (fun h5 => ?_)))))))
      · (try simp only [aG] at h5)
        refine aQ (aj (ay (aY (ay (ah ?_)))))
        obtain ⟨acY, acZ, ac0, abg⟩ := Rd.kN ((HL.f2).aJ) (by omega)
        cases abg
        refine aU (bV underlying67 sizeOf202 rfl rfl (by omega)) (aU (iG (ys := [_, _, _]) ((HL.f2).aJ) (by omega) underlying202 rfl sizeOf202 rfl (jw dw.zF (by omega) default) rfl) ?_)
        have hkl : i < AE.length := by omega
        have hx : wF (AE.getD i default).says := Y4 _ (by rw [List.getD_eq_getElem?_getD, List.getElem?_eq_getElem hkl]; exact List.getElem_mem hkl)
        have hx1 : (AE.getD i default).dl.length ≤ 1024 := hx.2.2.1
        have hx2 : (AE.getD i default).il.length ≤ 1024 := hx.2.2.2
        refine gB (bW (l := [_, _, _]) HL zeroValue202 rfl) ?_
        rintro _ w58 ⟨b58, rfl, UR⟩
        refine aI (bC 0 (l' := [_, _, _]) (us := [_, _, _]) UR sizeOf202 rfl rfl rfl (aC (by first | rfl | assumption) (aC (by first | rfl | exact Rd.one (((UR.f4).kR hkl).1)) (aC (by first | rfl | exact Rd.one (((UR.f4).kR hkl).2)) bg))) rfl rfl) ?_
        rintro _ w59 YQ
        refine aB (aj (ah (aP rfl (aU (bQ underlying202 rfl sizeOf202 rfl rfl (YQ).get.2) (dD rfl func133 (wB YQ.f2 (fun W HW => ((HW.f3).kR hkl).1) (fun W HW => ((HW.f3).kR hkl).2) (by omega) (by omega)) ?_)))))
        rintro _ w60 ⟨rfl, XH⟩
        have hadd : lU G1 ((AE.take i).map dw.says) (AE.getD i default).a (AE.getD i default).dl (AE.getD i default).il = 0 := by
          have hx3 : 0 < (AE.getD i default).dl.length + (AE.getD i default).il.length := hx.2.1
          have hx4 : 0 ≤ (AE.getD i default).a := hx.1
          have hx5 := o9 G1 ((AE.take i).map dw.says)
          rw [List.length_map, List.length_take] at hx5
          unfold lU
          rw [if_neg (by omega), if_neg (by omega)]
        have HA2 := XH
        rw [Dn hadd (by decide), Dp hadd (by decide)] at HA2
        refine aB (aH (aj (ah (aU (dR rfl rfl (by omega)) (aP rfl (aB ?_))))))
        refine bZ (i + 1) ?_ ?_ ?_ ?_
        · exact (Sub.cons rfl (Sub.nil _))
        · exact (Sub.cons rfl (Sub.cons rfl (Sub.cons rfl (Sub.cons rfl (Sub.nil _)))))
        · (try dsimp only)
          first | done | exact ⟨by omega, by rw [Bo hkl]; exact HA2.f2.right.f3.f3.f3⟩
        · (try dsimp only); omega
      · (try simp only [aG] at h5)
        refine dK (aV ?_)
        have hil : i = AE.length := by omega
        have HB := HL
        rw [hil, List.take_length] at HB
        subst abe
        refine aV (bD (aj (ay (ah (aP rfl (dD rfl func134 (wE HB) ?_))))))
        rintro _ w61 ⟨rfl, ZX⟩
        obtain ⟨Y5, Y6, Y7⟩ := Io G1 (AE.map dw.says)
        have HC := ZX
        rw [Y5, Y6, Y7, hAs, mQ (by intro hz; exact hp (List.append_eq_nil_iff.1 hz).2), ← hF3] at HC
        have abh := HC.f5
        have abj := aA.uX abh
        refine aB (aj (ah (aP rfl (bT rfl (bf 33 underlying69 rfl sizeOf67 rfl (aI (aS 33 (l' := [_, _, _, _, _, _, _, _, _, _, _, _, _, _, _, _, _, _, _, _, _, _, _, _, _, _, _, _, _, _, _, _, _, _]) abj.f5 sizeOf67 rfl rfl (by first | rfl | assumption) rfl rfl) ?_))))))
        rintro _ w64 YV
        refine aB (gq (.inr rfl) results83 ?_)
        rw [lu hp]
        exact aA.EG (s := { s.oz (s.jW on) with put := [] }) (lu hp ▸ EM dL ⟨hF1, hF2, hF3⟩ hp hG1) rfl YV.f3.right.f3.right.f3.right.f9.right.f9.f9.f9.f5.f9.f7.f9.f9.f9
end
end Go.Proofs.YtddekefihgejoaaGreatDoor
end
