import Derived.Test.YtgndbccogcofjaaGreatDoorZ2
import Derived.Test.YtgndbccogcofjaaGreatDoorZ14
import Derived.Test.YtgndbccogcofjaaGreatDoorZ6
import Derived.Test.YtgndbccogcofjaaGreatDoorZ7
import Derived.Test.YtgndbccogcofjaaGreatDoorZ13
set_option linter.unusedSimpArgs false
set_option linter.unusedVariables false
/- Texts of mine, joined, their names in short: EdR EdK EmC Atom2. -/
section
namespace Go.Proofs.YtgndbccogcofjaaGreatDoor
open Go.RowKit
open _root_.Go.Proofs.Tryz
theorem pW {L : List Int} {i j : Int} {l : List Int} (h : jw L i j l ≠ 0) : ku L i j l = [] ∧ kC L i j l = [] := by unfold ku kC; rw [if_neg h, if_neg h]; exact ⟨rfl, rfl⟩
theorem TV {L : List Int} {i j : Int} {l : List Int} (hL : L.length ≤ 1024) (h : 0 < (ku L i j l).length + (kC L i j l).length) : vW (pq L i j l, ku L i j l, kC L i j l) := by
  by_cases h0 : jw L i j l = 0
  · refine ⟨?_, h, ?_, ?_⟩
    · show 0 ≤ pq L i j l
      unfold pq; rw [if_pos h0]
      unfold jw at h0
      split at h0
      · cases h0
      · omega
    · show (ku L i j l).length ≤ 1024
      unfold ku; rw [if_pos h0]
      simp only [List.length_take, List.length_drop]; omega
    · show (kC L i j l).length ≤ 1024
      unfold kC; rw [if_pos h0]
      unfold jw at h0
      split at h0
      · cases h0
      · split at h0
        · cases h0
        · omega
  · rw [(pW h0).1, (pW h0).2] at h
    simp at h
theorem QU {L : List Int} {i j : Int} {l : List Int} (hL : L.length ≤ 1024) : (ku L i j l).length ≤ 1024 ∧ (kC L i j l).length ≤ 1024 := by
  by_cases h0 : jw L i j l = 0
  · refine ⟨?_, ?_⟩
    · unfold ku; rw [if_pos h0]
      simp only [List.length_take, List.length_drop]; omega
    · unfold kC; rw [if_pos h0]
      unfold jw at h0
      split at h0
      · cases h0
      · split at h0
        · cases h0
        · omega
  · rw [(pW h0).1, (pW h0).2]; simp
theorem zN {s : bC} {x : fB} (h : x.2.1.length + x.2.2.length = 0) : s.mQ x = s := by unfold bC.mQ; rw [if_pos h]
theorem Ar {s : bC} {x : fB} (h : 0 < x.2.1.length + x.2.2.length) (k : ¬ 16384 ≤ eY s.here s.put) : s.mQ x = { s with put := s.put ++ [x] } := by unfold bC.mQ; rw [if_neg (by omega), if_neg k]
theorem Au {s : bC} {x : fB} (h : 0 < x.2.1.length + x.2.2.length) (k : 16384 ≤ eY s.here s.put) : s.mQ x = { s.kW [] with put := [x], c := { (s.kW []).c with run := false } } := by unfold bC.mQ; rw [if_neg (by omega), if_pos k]
theorem pX (G : List (List fB)) (N : List fB) : eY G N = eY G [] + N.length := by unfold eY; simp
theorem NQ {s : bC} {x : fB} (h : kP s) (hx : 0 < x.2.1.length + x.2.2.length → vW x) : kP (s.mQ x) := by
  by_cases h0 : x.2.1.length + x.2.2.length = 0
  · rw [zN h0]; exact h
  · have hx' := hx (by omega)
    obtain ⟨h1, h2, h3, h4, h5, h6⟩ := h
    by_cases hf : 16384 ≤ eY s.here s.put
    · rw [Au (by omega) hf]
      refine ⟨h1, h2, h3, fun e he => by rw [List.mem_singleton.1 he]; exact hx', ?_, ?_⟩
      · show eY (xX s.c.un s.c.place [] s.c.place) [x] ≤ 16384
        rw [gq]; simp [eY]
      · intro k g hg
        have hg' : g ∈ xX s.c.un s.c.place [] k := hg
        by_cases hk : k = s.c.place
        · subst hk; rw [gq] at hg'; cases hg'
        · rw [uQ _ _ hk] at hg'; exact h6 k g hg'
    · rw [Ar (by omega) hf]
      refine ⟨h1, h2, h3, fun e he => ?_, ?_, h6⟩
      · rcases List.mem_append.1 he with he | he
        · exact h4 e he
        · rw [List.mem_singleton.1 he]; exact hx'
      · show eY s.here (s.put ++ [x]) ≤ 16384
        rw [Ie]; omega
section
variable {w0 w : World} {F : HP} {e p h pr : Nat} {s : bC} {i j x : Int} {b : Bool} {v : Value} {l : List Int}
theorem oq (H : aB w0 w (dA e s • F)) (hr : iI w0 F .i32 v l) : fG prog 127 #[.pointer (some ⟨e, 0, none⟩), .int .i64 i, .int .i64 j, v] w fun v' w' => v' = .int .i64 (s.jF i j l) ∧ aB w0 w' (dA e (s.iC i j l) • F) := by
 refine gG func127 ntmps127 ?_
 dsimp only [bf, Nat.reduceAdd]
 refine ay (ah (aV rfl (aA (aj (ay (ay (ah (aN rfl (bW rfl func94 (kD H) ?_)))))))))
 rintro _ _ ⟨rfl, rfl⟩
 refine aV rfl (aA (aj (ay (ah (aN rfl (aU (bY rfl rfl) (aA (aj (aP rfl (fun h1 => ?_) (fun h1 => ?_))))))))))
 ·(try simp only [aF] at h1)
  obtain ⟨hin, hpe⟩ := zK h1
  refine ay (ah (aN rfl (aV rfl (aA (aj (aI (aK (aH (.inl rfl) results127 rfl ?_))))))))
  rw [hpe]
  exact ⟨by simp [bC.jF, bC.iC, hin], by rw [show s.iC i j l = s from by simp [bC.jF, bC.iC, hin]]; exact H⟩
 ·(try simp only [aF] at h1)
  have hin := wZ h1
  refine aO (aj (ay ?_))
  obtain ⟨su, sD, sF, sG, sH, sJ, sK, sN, qI, oI, oJ, oK, oL, oM, oN, oO, oP, oQ, oU, oV, dK, bH, gZ, dO⟩ := (H).BQ
  have hL : s.c.L.length ≤ 1024 := by obtain ⟨a, c, xs, f, t, h1, h2, h3, h4, h5, h6, h7, hc1, hc2, hl, H1⟩ := (dO.f2).buf; exact h4
  have hE : s.jF i j l = jw s.c.L i j l := by unfold bC.jF; rw [if_pos hin]
  have hS : s.iC i j l = (s.iV (mP s.c.L i j l) (nH s.c.L s.c.pt i j l) (nV s.c.L s.c.mark i j l)).mQ (pq s.c.L i j l, ku s.c.L i j l, kC s.c.L i j l) := by unfold bC.iC; rw [if_pos hin]
  have hln := QU (i := i) (j := j) (l := l) hL
  have hput : eY s.here s.put ≤ 16384 := dK.2.2.2.2.1
  have hsp : eY s.here s.put = eY (s.c.un s.c.place) [] + s.put.length := pX _ _
  have hok := TV (i := i) (j := j) (l := l) hL
  have hno := pW (L := s.c.L) (i := i) (j := j) (l := l)
  refine ah (aN rfl (bM rfl (bG 0 underlying37 rfl sizeOf32 rfl (bG 0 underlying32 rfl sizeOf27 rfl (dX underlying27 rfl (dO).get.2 rfl (aN rfl (aN rfl (aN rfl (bW rfl func193 (BL dO.f2 (fun W HW => hr _ (HW.right.right.right.right.right.right.right.right.right.right))) ?_)))))))))
  rintro _ w3 ⟨d3, s3, rfl, H3⟩
  refine aN rfl (FP rfl rfl (FP rfl rfl (iy (gY (l := [_, _, _]) H3 zeroValue101 rfl) ?_)))
  rintro _ w4 ⟨b4, rfl, H4⟩
  refine aJ (dG 0 (l' := [_, _, _]) (us := [_, _, _]) H4 sizeOf101 rfl rfl rfl (aC (by first | rfl | assumption) (aC (by first | rfl | exact Rd.one ((H4.f2).aS)) (aC (by first | rfl | exact Rd.one ((H4.f3).aS)) cZ))) rfl rfl) ?_
  rintro _ w5 H5
  refine aV rfl (aA (aj (ay (ay (ah (aN rfl (aU (fE rfl rfl) (eP rfl (fun h2 => ?_) (fun h2 => ?_)))))))))
  ·(try simp only [aF] at h2)
   refine aX (bG 1 underlying101 rfl sizeOf22 rfl (aX (dX underlying22 rfl (H5).get.2 rfl (aX (aU (jC ((H5.f2).aS) underlying22 rfl) (aX (bG 2 underlying101 rfl sizeOf22 rfl (aX (dX underlying22 rfl (H5).get.2 rfl (aX (aU (jC ((H5.f3).aS) underlying22 rfl) (aX (aU (fC rfl rfl (by omega)) (aX (aU (dF rfl rfl) (fP rfl rfl (aA (aj (aP rfl (fun h3 => ?_) (fun h3 => ?_))))))))))))))))))))
   ·(try simp only [aF] at h3)
    have hlen : 0 < (ku s.c.L i j l).length + (kC s.c.L i j l).length := by omega
    refine ay (ay ?_)
    have Wx := H5.drew
    have Ed := aB.kp (Wx.f9.right.f13.f13.f13.f13.f13.f13.f13.f13.f13.f13.f13.f13.f13)
    refine yI [6] Ed rfl (iD 0 rfl Ed rfl (iD 3 rfl Ed rfl (jS 4 rfl Ed rfl (gV 5 rfl Ed 33 underlying37 rfl sizeOf35 rfl (jB 6 rfl Ed (fun W hW => jR underlying35 rfl ((Kp.h hW).f5).get.2 rfl) (jr 7 rfl Ed (fun _ => jg ((Wx.f12).aS) underlying35 rfl) (kQ 1 rfl (wJ rfl func160 (xg Wx.f9.f8.f7)) ?_)))))))
    rintro _ w6 ⟨lp6, rfl, H6⟩
    have JU := aB.kp (H6.right.f14.f14.f14.f14.f14.f14.f14.f14.f14.f14.f14.f14.f14.f14)
    refine dZ JU (fun W hW => (Kp.h hW).right.f13.f13.f13.f13.f13.f13.f8.f13.f9.f13.f13.f13.f13) ?_
    refine kQ 2 rfl (wJ rfl func194 (DL H6)) ?_
    rintro _ w7 ⟨rfl, H7⟩
    have Aj := aB.kp (H7.f15.f15.f15.f15.f15.f15.f15.f15.f15.f15.f15.f15.f15.f15.f15)
    refine dZ Aj (fun W hW => (Kp.h hW).right.f14.f14.f14.f14.f14.f14.f14.f14.f14.f14.f14.f14.f14.f14) ?_
    refine jr 8 rfl Aj (fun _ => fC rfl rfl (by omega)) (jr 9 rfl Aj (fun _ => jh rfl rfl) ?_)
    have Ho8 := H7.f2
    have Hc9 := aB.Ir Ho8
    refine qQ (aj (aP rfl (fun h4 => ?_) (fun h4 => ?_)))
    ·(try simp only [aF] at h4)
     have JW : 16384 ≤ eY (s.iV (mP s.c.L i j l) (nH s.c.L s.c.pt i j l) (nV s.c.L s.c.mark i j l)).here (s.iV (mP s.c.L i j l) (nH s.c.L s.c.pt i j l) (nV s.c.L s.c.mark i j l)).put := by show 16384 ≤ eY s.here s.put; omega
     refine ay (ah (aN rfl (bW rfl func160 (xg Hc9.f3.f3) ?_)))
     rintro _ w10 ⟨ab0, rfl, oZ⟩
     refine bW rfl func195 (DX oZ) ?_
     rintro _ KG yt
     have LY := yt.f2
     have LZ := aB.uX LY
     refine aA (aj (ah (aN rfl (aN rfl (bM rfl (bG 33 underlying37 rfl sizeOf35 rfl (aJ (aT 33 (l' := [_, _, _, _, _, _, _, _, _, _, _, _, _, _, _, _, _, _, _, _, _, _, _, _, _, _, _, _, _, _, _, _, _, _]) LZ.f2 sizeOf35 rfl rfl (by first | rfl | assumption) rfl rfl) ?_)))))))
     rintro _ MX yK
     refine bM rfl (bG 0 underlying37 rfl sizeOf32 rfl (bG 10 underlying32 rfl sizeOf4 rfl (aJ (aT 10 (l' := [_, _, _, _, _, _, _, _, _, _, _, _, _, _, _, _, _, _, _, _, _, _, _, _, _, _, _, _, _, _, _, _, _, _]) yK sizeOf4 rfl rfl (by first | rfl | assumption) rfl rfl) ?_)))
     rintro _ Pq yu
     refine aA (aj ?_)
     have U8 := yu.drew
     have yT := aB.kp (U8.f14.f14.f14.f14.f14.f14.f14.f14.f14.f14.f14.f14.f14.f14)
     refine yI [4, 5] yT rfl (iD 0 rfl yT rfl (iD 1 rfl yT rfl (jS 2 rfl yT rfl (gV 3 rfl yT 33 underlying37 rfl sizeOf35 rfl (jB 4 rfl yT (fun W hW => jR underlying35 rfl ((Kp.h hW)).get.2 rfl) (jB 5 rfl yT (fun W hW => dn underlying101 rfl sizeOf101 rfl rfl ((Kp.h hW).f4).get.2) (kQ 6 rfl (rF U8 underlying35 sizeOf101 zeroValue101 rfl rfl rfl (by decide) (by decide)) ?_)))))))
     rintro l16 w16 tX
     have JJ := aB.kp (tX.f15.f15.f15.f15.f15.f15.f15.f15.f15.f15.f15.f15.f15.f15.f15)
     refine dZ JJ (fun W hW => (Kp.h hW).right.f14.f14.f14.f14.f14.f14.f14.f14.f14.f14.f14.f14.f14.f14) ?_
     refine kQ 7 rfl (iR (tX.jf none) underlying35 (show (prog.info? 101).map (fun i => (i.zero, i.size, i.bytes)) = some (some (.agg #[.int .i64 0, .slice none 0 0, .slice none 0 0]), 3, 56) by kernel_rfl) rfl rfl rfl ((tX).aS) (aC (by first | rfl | assumption) (aC (by first | rfl | exact Rd.one ((tX.f6).aS)) (aC (by first | rfl | exact Rd.one ((tX.f7).aS)) cZ))) (by omega) (by omega)) ?_
     rintro l17 VF Hg
     have QV := Hg.f2.right
     have JD := aB.kp (QV.f15.f15.f15.f15.f15.f15.f15.f15.f15.f15.f15.f15.f15.f15.f15)
     refine gB JD (by kernel_rfl) ?_
     refine jS 8 rfl JD rfl (gV 9 rfl JD 33 underlying37 rfl sizeOf35 rfl ?_)
     refine gI 10 rfl (by kernel_rfl) (aT 33 (l' := [_, _, _, _, _, _, _, _, _, _, _, _, _, _, _, _, _, _, _, _, _, _, _, _, _, _, _, _, _, _, _, _, _, _]) QV.f2 sizeOf35 rfl rfl (by first | rfl | exact Rd.one ((QV).aS)) rfl rfl) ?_
     rintro _ Tc BJ
     have QH := aB.kp (BJ.f15.f15.f15.f15.f15.f15.f15.f15.f15.f15.f15.f15.f15.f15.f15)
     refine gB QH (by kernel_rfl) ?_
     refine qQ (aj (ay (ah (aN rfl (aV rfl (aA (aj (aI (aH (.inl rfl) results127 rfl ?_)))))))))
     have X := (BJ.f5.right.f12.right.f12.right.f12.f12.f12.f6.f12.f8.f12.f12.f9.f10.f12.f12).kF.swap.kF.swap
     have X2 := aB.uM (es := []) X.DF.f3.f3.f4
     exact ⟨by rw [hE]; rfl, by rw [hS, Au (x := (pq s.c.L i j l, ku s.c.L i j l, kC s.c.L i j l)) hlen JW]; exact aB.QS (s := { (s.iV (mP s.c.L i j l) (nH s.c.L s.c.pt i j l) (nV s.c.L s.c.mark i j l)).kW [] with put := [(pq s.c.L i j l, ku s.c.L i j l, kC s.c.L i j l)], c := { ((s.iV (mP s.c.L i j l) (nH s.c.L s.c.pt i j l) (nV s.c.L s.c.mark i j l)).kW []).c with run := false } }) (Au (x := (pq s.c.L i j l, ku s.c.L i j l, kC s.c.L i j l)) hlen JW ▸ NQ (uY dK _ _ _) hok) rfl X2⟩
    ·(try simp only [aF] at h4)
     have JW : ¬ 16384 ≤ eY (s.iV (mP s.c.L i j l) (nH s.c.L s.c.pt i j l) (nV s.c.L s.c.mark i j l)).here (s.iV (mP s.c.L i j l) (nH s.c.L s.c.pt i j l) (nV s.c.L s.c.mark i j l)).put := by show ¬ 16384 ≤ eY s.here s.put; omega
     refine aO (aj ?_)
     have Gn := Hc9.drew
     have ny := aB.kp (Gn.f14.f14.f14.f14.f14.f14.f14.f14.f14.f14.f14.f14.f14.f14)
     refine yI [4, 5] ny rfl (iD 0 rfl ny rfl (iD 1 rfl ny rfl (jS 2 rfl ny rfl (gV 3 rfl ny 33 underlying37 rfl sizeOf35 rfl (jB 4 rfl ny (fun W hW => jR underlying35 rfl ((Kp.h hW).f2).get.2 rfl) (jB 5 rfl ny (fun W hW => dn underlying101 rfl sizeOf101 rfl rfl ((Kp.h hW).f4).get.2) (kQ 6 rfl (rF Gn underlying35 sizeOf101 zeroValue101 rfl rfl rfl (by decide) (by decide)) ?_)))))))
     rintro Zc SN yh
     have Bv := aB.kp (yh.f15.f15.f15.f15.f15.f15.f15.f15.f15.f15.f15.f15.f15.f15.f15)
     refine dZ Bv (fun W hW => (Kp.h hW).right.f14.f14.f14.f14.f14.f14.f14.f14.f14.f14.f14.f14.f14.f14) ?_
     refine kQ 7 rfl (iR yh.f13 underlying35 (show (prog.info? 101).map (fun i => (i.zero, i.size, i.bytes)) = some (some (.agg #[.int .i64 0, .slice none 0 0, .slice none 0 0]), 3, 56) by kernel_rfl) rfl rfl rfl ((yh).aS) (aC (by first | rfl | assumption) (aC (by first | rfl | exact Rd.one ((yh.f6).aS)) (aC (by first | rfl | exact Rd.one ((yh.f7).aS)) cZ))) (by omega) (by omega)) ?_
     rintro l21 UG qF
     have Iq := qF.f2.right
     have D9 := aB.kp (Iq.f14.f14.f14.f14.f14.f14.f14.f14.f14.f14.f14.f14.f14.f14)
     refine gB D9 (by kernel_rfl) ?_
     refine jS 8 rfl D9 rfl (gV 9 rfl D9 33 underlying37 rfl sizeOf35 rfl ?_)
     refine gI 10 rfl (by kernel_rfl) (aT 33 (l' := [_, _, _, _, _, _, _, _, _, _, _, _, _, _, _, _, _, _, _, _, _, _, _, _, _, _, _, _, _, _, _, _, _, _]) Iq.f3 sizeOf35 rfl rfl (by first | rfl | exact Rd.one ((Iq).aS)) rfl rfl) ?_
     rintro _ Td y5
     have Gi := aB.kp (y5.f14.f14.f14.f14.f14.f14.f14.f14.f14.f14.f14.f14.f14.f14)
     refine gB Gi (by kernel_rfl) ?_
     refine qQ (aj (ay (ah (aN rfl (aV rfl (aA (aj (aI (aH (.inl rfl) results127 rfl ?_)))))))))
     have X := (y5.f5.right.f13.f12.f12.f6.f12.f8.f12.f12.f9.f13.f11.f13.f13).kF.swap.kF.swap
     rw [← gZ] at X
     have X2 := aB.uM X.f3
     exact ⟨by rw [hE]; rfl, by rw [hS, Ar (x := (pq s.c.L i j l, ku s.c.L i j l, kC s.c.L i j l)) hlen JW]; exact aB.QS (s := { s.iV (mP s.c.L i j l) (nH s.c.L s.c.pt i j l) (nV s.c.L s.c.mark i j l) with put := s.put ++ [(pq s.c.L i j l, ku s.c.L i j l, kC s.c.L i j l)] }) (Ar (x := (pq s.c.L i j l, ku s.c.L i j l, kC s.c.L i j l)) hlen JW ▸ NQ (uY dK _ _ _) hok) (by rw [List.map_append, bH]; rfl) X2⟩
   ·(try simp only [aF] at h3)
    have hlen : (ku s.c.L i j l).length + (kC s.c.L i j l).length = 0 := by omega
    refine aO (aj (ay (ah (aN rfl (aV rfl (aA (aj (aI (aH (.inl rfl) results127 rfl ?_)))))))))
    exact ⟨by rw [hE]; rfl, by rw [hS, zN (x := (pq s.c.L i j l, ku s.c.L i j l, kC s.c.L i j l)) hlen]; exact aB.dM (s := s.iV (mP s.c.L i j l) (nH s.c.L s.c.pt i j l) (nV s.c.L s.c.mark i j l)) (uY dK _ _ _) bH H5.right.right.right.f11.f11.f11.f11.f11.f11.f11.f11.f11.f10.f11⟩
  ·(try simp only [aF] at h2)
   have hlen : (ku s.c.L i j l).length + (kC s.c.L i j l).length = 0 := by rw [(hno h2).1, (hno h2).2]; rfl
   refine bD (bD (bD (bD (bD (bD (bD (bD (dL rfl rfl (aA (aj (mO (aO (aj (ay (ah (aN rfl (aV rfl (aA (aj (aI (aH (.inl rfl) results127 rfl ?_)))))))))))))))))))))
   exact ⟨by rw [hE]; rfl, by rw [hS, zN (x := (pq s.c.L i j l, ku s.c.L i j l, kC s.c.L i j l)) hlen]; exact aB.dM (s := s.iV (mP s.c.L i j l) (nH s.c.L s.c.pt i j l) (nV s.c.L s.c.mark i j l)) (uY dK _ _ _) bH H5.right.right.right.f11.f11.f11.f11.f11.f11.f11.f11.f11.f10.f11⟩
theorem Fq (H : aB w0 w (dA e s • F)) (hr : iI w0 F .i32 v l) : fG prog 206 #[.pointer (some ⟨e, 0, none⟩), v] w fun v' w' => v' = .int .i64 (s.LK l) ∧ aB w0 w' (dA e (s.zI l) • F) := by
 refine gG func206 ntmps206 ?_
 dsimp only [bf, Nat.reduceAdd]
 refine ay (ah (aV rfl (aA (aj (ay (ay (ah (aN rfl (bW rfl func94 (kD H) ?_)))))))))
 rintro _ _ ⟨rfl, rfl⟩
 refine aV rfl (aA (aj (ay (ah (aN rfl (aU (bY rfl rfl) (aA (aj (aP rfl (fun h1 => ?_) (fun h1 => ?_))))))))))
 ·(try simp only [aF] at h1)
  obtain ⟨hin, hpe⟩ := zK h1
  refine ay (ah (aN rfl (aV rfl (aA (aj (aI (aK (aH (.inl rfl) results206 rfl ?_))))))))
  rw [hpe]
  exact ⟨by simp [bC.LK, bC.zI, bC.jF, bC.iC, hin], by rw [show s.zI l = s from by simp [bC.LK, bC.zI, bC.jF, bC.iC, hin]]; exact H⟩
 ·(try simp only [aF] at h1)
  have hin := wZ h1
  refine aO (aj (ay ?_))
  obtain ⟨su, sD, sF, sG, sH, sJ, sK, sN, qI, oI, oJ, oK, oL, oM, oN, oO, oP, oQ, oU, oV, dK, bH, gZ, dO⟩ := (H).BQ
  have OU := dO.drew
  have uZ := aB.kp (OU.f11.f11.f11.f11.f11.f11.f11.f11.f11.f11.f11)
  refine yI [5, 11] uZ rfl (iD 0 rfl uZ rfl (iD 1 rfl uZ rfl (jS 2 rfl uZ rfl (gV 3 rfl uZ 0 underlying37 rfl sizeOf32 rfl (gV 4 rfl uZ 0 underlying32 rfl sizeOf27 rfl (jB 5 rfl uZ (fun W hW => jR underlying27 rfl ((Kp.h hW)).get.2 rfl) (iD 7 rfl uZ rfl (jS 8 rfl uZ rfl (gV 9 rfl uZ 0 underlying37 rfl sizeOf32 rfl (gV 10 rfl uZ 0 underlying32 rfl sizeOf27 rfl (jB 11 rfl uZ (fun W hW => jR underlying27 rfl ((Kp.h hW)).get.2 rfl) (iD 13 rfl uZ rfl (kQ 6 rfl (wJ rfl func113 (qj OU.f2)) ?_)))))))))))))
  rintro _ _ ⟨rfl, rfl⟩
  have Fg := aB.kp (OU.f11.f11.f11.f11.f11.f11.f11.f11.f11.f11.f11)
  refine dZ Fg (fun W hW => (Kp.h hW).f11.f11.f11.f11.f11.f11.f11.f11.f11.f11.f11) ?_
  refine kQ 12 rfl (wJ rfl func113 (qj OU.f2)) ?_
  rintro _ _ ⟨rfl, rfl⟩
  have xW := aB.kp (OU.f11.f11.f11.f11.f11.f11.f11.f11.f11.f11.f11)
  refine gB xW (by kernel_rfl) ?_
  have V5 := OU.f11.f11.f11.f11.f11.f11.f11.f11.f11.f11.f11
  have V6 := aB.dM (s := s) dK bH V5
  refine kQ 14 rfl (wJ rfl func127 (oq V6 (fun W HW => hr _ (HW)))) ?_
  rintro _ w8 ⟨rfl, H8⟩
  have OE := aB.kp (H8)
  refine gB OE (by kernel_rfl) ?_
  refine jr 15 rfl OE (fun _ => eH rfl) (qQ (aj (aI (aH (.inl rfl) results206 rfl ?_))))
  exact ⟨rfl, H8⟩
theorem Iy (H : aB w0 w (dA e s • F)) : fG prog 139 #[.pointer (some ⟨e, 0, none⟩), .int .i64 i, .int .i64 j] w fun v' w' => v' = .int .i64 (s.jF i j []) ∧ aB w0 w' (dA e (s.iC i j []) • F) := by
 refine gG func139 ntmps139 ?_
 dsimp only [bf, Nat.reduceAdd]
 refine ay (ah (aV rfl (aA (aj (ay (ah (aN rfl (aN rfl (aN rfl (bW rfl func127 (oq H (fun W _ => iw.nil W _ none 0 (by decide))) ?_))))))))))
 rintro _ w1 ⟨rfl, H1⟩
 refine aV rfl (aA (aj (aI (aH (.inl rfl) results139 rfl ?_))))
 exact ⟨rfl, H1⟩
end
end Go.Proofs.YtgndbccogcofjaaGreatDoor
end
section
namespace Go.Proofs.YtgndbccogcofjaaGreatDoor
open Go.RowKit
open _root_.Go.Proofs.Tryz
theorem OV {E : List (List Int)} {a : Nat} {way : Int} {l : List Int} (h : (wS E a way l).1 ≠ 0) : (wS E a way l).2 = (E, a) := by
  unfold wS at *
  repeat' split at h
  all_goals first | (simp at h; done) | skip
  all_goals (repeat' (first | rw [if_pos (by assumption)] | rw [if_neg (by assumption)])) <;> rfl
theorem OW {s : bC} {i j : Int} {back : Bool} (h : (s.kX i j back).1 ≠ 0) : (s.kX i j back).2 = (s.c.E, s.c.at_) := OV h
theorem JX (s : bC) : s.iV s.c.L s.c.pt s.c.mark = s := rfl
theorem OX {s : bC} {i j : Int} {l : List Int} (h : s.jF i j l ≠ 0) : s.iC i j l = s := by
  unfold bC.iC bC.jF at *
  split
  · rename_i hin
    rw [if_pos hin] at h
    rw [zN (by rw [(pW h).1, (pW h).2]; rfl)]
    unfold mP nH nV
    rw [if_neg h, if_neg h, if_neg h]
    exact JX s
  · rfl
theorem xI {s : bC} {i j : Int} {back : Bool} (h : s.lC i j back ≠ 0) : s.lZ i j back = s := by unfold bC.lZ; rw [if_neg h]
section
variable {w0 w : World} {F : HP} {e p h pr : Nat} {s : bC} {i j x : Int} {back : Bool} {v : Value} {l : List Int}
theorem JY (H : aB w0 w (dA e s • F)) : fG prog 204 #[.pointer (some ⟨e, 0, none⟩), .int .i64 i, .int .i64 j, .bool back] w fun v' w' => v' = .int .i64 (s.lC i j back) ∧ aB w0 w' (dA e (s.lZ i j back) • F) := by
 refine gG func204 ntmps204 ?_
 dsimp only [bf, Nat.reduceAdd]
 refine ay (ah (aV rfl (aA (aj (ay (ay (ah (aN rfl (bW rfl func94 (kD H) ?_)))))))))
 rintro _ _ ⟨rfl, rfl⟩
 refine aV rfl (aA (aj (ay (ah (aN rfl (aU (bY rfl rfl) (aA (aj (aP rfl (fun h1 => ?_) (fun h1 => ?_))))))))))
 ·(try simp only [aF] at h1)
  obtain ⟨hin, hpe⟩ := zK h1
  refine ay (ah (aN rfl (aV rfl (aA (aj (aI (aK (aH (.inl rfl) results204 rfl ?_))))))))
  rw [hpe]
  exact ⟨by simp [bC.lC, bC.lZ, hin], by rw [show s.lZ i j back = s from by simp [bC.lC, bC.lZ, hin]]; exact H⟩
 ·(try simp only [aF] at h1)
  have hin := wZ h1
  refine aO (aj (ay (ay ?_)))
  obtain ⟨su, sD, sF, sG, sH, sJ, sK, sN, qI, oI, oJ, oK, oL, oM, oN, oO, oP, oQ, oU, oV, dK, bH, gZ, dO⟩ := (H).BQ
  have hL : s.c.L.length ≤ 1024 := by obtain ⟨a, c, xs, f, t, h1, h2, h3, h4, h5, h6, h7, hc1, hc2, hl, H1⟩ := (dO.f2).buf; exact h4
  refine ah (aN rfl (aU (eF rfl rfl) (eP rfl (fun h2 => ?_) (fun h2 => ?_))))
  ·(try simp only [aF] at h2)
   refine bD (bD (bD (bD (bD (bD (bD (bD (fP rfl rfl (aN rfl (bD (bD (bD (fP rfl rfl (aN rfl (bD (bD (bD (bD (bD (bD (bD (bD (fP rfl rfl (aA (aj (wK (ay (ah (aV rfl (aA (aj (aI (aK (aH (.inl rfl) results204 rfl ?_))))))))))))))))))))))))))))))))))
   have hb : s.kJ i j := by unfold bC.kJ; omega
   have hc : s.lC i j back = 70 := by unfold bC.lC; rw [if_pos hin, if_pos hb]
   exact ⟨by rw [hc], by rw [xI (by rw [hc]; decide)]; exact aB.dM dK bH dO.f11.f11.f11.f11.f11.f11.f11.f11.f11.f11.f11⟩
  ·(try simp only [aF] at h2)
   refine aX (aN rfl (aX (aN rfl (aX (bM rfl (aX (bG 0 underlying37 rfl sizeOf32 rfl (aX (bG 0 underlying32 rfl sizeOf27 rfl (aX (dX underlying27 rfl (dO).get.2 rfl (aX (bW rfl func186 (lg dO.f2) ?_)))))))))))))
   rintro _ w3 ⟨rfl, hD3⟩
   have HD3 := dO.lW hD3
   refine aX (aU (dF rfl rfl) (dL rfl rfl (eP rfl (fun h3 => ?_) (fun h3 => ?_))))
   ·(try simp only [aF] at h3)
    refine bD (bD (bD (fP rfl rfl (aN rfl (bD (bD (bD (bD (bD (bD (bD (bD (fP rfl rfl (aA (aj (wK (ay (ah (aV rfl (aA (aj (aI (aK (aH (.inl rfl) results204 rfl ?_))))))))))))))))))))))))
    have hb : s.kJ i j := by unfold bC.kJ; omega
    have hc : s.lC i j back = 70 := by unfold bC.lC; rw [if_pos hin, if_pos hb]
    exact ⟨by rw [hc], by rw [xI (by rw [hc]; decide)]; exact aB.dM dK bH HD3.f11.f11.f11.f11.f11.f11.f11.f11.f11.f11.f11⟩
   ·(try simp only [aF] at h3)
    refine aX (aN rfl (aX (aN rfl (aX (aU (eF rfl rfl) (dL rfl rfl (eP rfl (fun h4 => ?_) (fun h4 => ?_))))))))
    ·(try simp only [aF] at h4)
     refine bD (bD (bD (bD (bD (bD (bD (bD (fP rfl rfl (aA (aj (wK (ay (ah (aV rfl (aA (aj (aI (aK (aH (.inl rfl) results204 rfl ?_)))))))))))))))))))
     have hb : s.kJ i j := by unfold bC.kJ; omega
     have hc : s.lC i j back = 70 := by unfold bC.lC; rw [if_pos hin, if_pos hb]
     exact ⟨by rw [hc], by rw [xI (by rw [hc]; decide)]; exact aB.dM dK bH HD3.f11.f11.f11.f11.f11.f11.f11.f11.f11.f11.f11⟩
    ·(try simp only [aF] at h4)
     refine aX (aN rfl (aX (aN rfl (aX (bM rfl (aX (bG 0 underlying37 rfl sizeOf32 rfl (aX (bG 0 underlying32 rfl sizeOf27 rfl (aX (dX underlying27 rfl (HD3).get.2 rfl (aX (bW rfl func186 (lg HD3.f2) ?_)))))))))))))
     rintro _ w4 ⟨rfl, hD4⟩
     have HD4 := HD3.lW hD4
     refine aX (aU (dF rfl rfl) (dL rfl rfl (aA (aj (aP rfl (fun h5 => ?_) (fun h5 => ?_))))))
     ·(try simp only [aF] at h5)
      refine ay (ah (aV rfl (aA (aj (aI (aK (aH (.inl rfl) results204 rfl ?_)))))))
      have hb : s.kJ i j := by unfold bC.kJ; omega
      have hc : s.lC i j back = 70 := by unfold bC.lC; rw [if_pos hin, if_pos hb]
      exact ⟨by rw [hc], by rw [xI (by rw [hc]; decide)]; exact aB.dM dK bH HD4.f11.f11.f11.f11.f11.f11.f11.f11.f11.f11.f11⟩
     ·(try simp only [aF] at h5)
      refine aO (aj (ay ?_))
      have hb : ¬ s.kJ i j := by unfold bC.kJ; omega
      have hc : s.lC i j back = (s.kX i j back).1 := by unfold bC.lC; rw [if_pos hin, if_neg hb]
      refine ah (aV rfl (aA (aj ?_)))
      refine MP [(0, _), (1, _), (2, _)] (fun (_ : Unit) => [(10, .int .i64 (s.way back))]) (fun (_ : Unit) W => W = w4) (Sub.cons rfl (Sub.cons rfl (Sub.cons rfl (Sub.nil _)))) ?_ ?_
      ·rintro _ w5 rfl
       dsimp only [List.cons_append, List.nil_append]
       refine ay (ay ?_)
       have U9 := HD4.drew
       have ou := aB.kp (U9.f11.f11.f11.f11.f11.f11.f11.f11.f11.f11.f11)
       refine yI [4, 10] ou rfl (iD 0 rfl ou rfl (jS 1 rfl ou rfl (gV 2 rfl ou 0 underlying37 rfl sizeOf32 rfl (gV 3 rfl ou 1 underlying32 rfl sizeOf28 rfl (jB 4 rfl ou (fun W hW => jR underlying28 rfl ((Kp.h hW)).get.2 rfl) (iD 5 rfl ou rfl (iD 6 rfl ou rfl (jS 7 rfl ou rfl (gV 8 rfl ou 0 underlying37 rfl sizeOf32 rfl (gV 9 rfl ou 0 underlying32 rfl sizeOf27 rfl (jB 10 rfl ou (fun W hW => jR underlying27 rfl ((Kp.h hW)).get.2 rfl) (iD 12 rfl ou rfl (iD 13 rfl ou rfl (kQ 11 rfl (wJ rfl func112 (qZ U9.f2)) ?_))))))))))))))
       rintro u6 w6 H6
       have JU := aB.kp (H6.f12.f12.f12.f12.f12.f12.f12.f12.f12.f12.f12.f12)
       refine dZ JU (fun W hW => (Kp.h hW).right.f11.f11.f11.f11.f11.f11.f11.f11.f11.f10.f11) ?_
       refine jr 14 rfl JU (fun _ => uF ((H6).aS) underlying22 sizeOf21 rfl rfl rfl (by omega)) (kQ 15 rfl (wJ rfl func233 (Fa H6.f4 (fun W HW => iw.cut ((HW).aS) (by omega) (by omega)))) ?_)
       rintro _ w7 ⟨rfl, H7⟩
       have Aj := aB.kp (H7.f12.f12.f12.f12.f12.f12.f12.f12.f12.f12.f12.f12)
       refine gB Aj (by kernel_rfl) ?_
       refine jr 16 rfl Aj (fun _ => eH rfl) (qQ (aj (ay (ah (aN rfl (aU (bY rfl rfl) (aA (aj (aP rfl (fun h6 => ?_) (fun h6 => ?_))))))))))
       ·(try simp only [aF] at h6)
        refine ay (ah (aN rfl (aV rfl (aA (aj (aI (aK (aH (.inl rfl) results204 rfl ?_))))))))
        exact ⟨by rw [hc]; rfl, by rw [xI (by rw [hc]; assumption)]; have HX := H7.f2.right.f11.f11.f11.f11.f11.f11.f11.f11.f9.f10.f11; rw [show wS s.c.E s.c.at_ (s.way back) ((s.c.L.drop i.toNat).take (j.toNat - i.toNat)) = s.kX i j back from rfl, OW (by assumption)] at HX; exact aB.dM dK bH HX⟩
       ·(try simp only [aF] at h6)
        refine aO (aj (ay (ah (aN rfl (aN rfl (bM rfl (bG 29 underlying37 rfl sizeOf4 rfl (aJ (aT 29 (l' := [_, _, _, _, _, _, _, _, _, _, _, _, _, _, _, _, _, _, _, _, _, _, _, _, _, _, _, _, _, _, _, _, _, _]) H7.f4 sizeOf4 rfl rfl (by first | rfl | assumption) rfl rfl) ?_))))))))
        rintro _ w8 H8
        refine bM rfl (bG 28 underlying37 rfl sizeOf3 rfl (aJ (aT 28 (l' := [_, _, _, _, _, _, _, _, _, _, _, _, _, _, _, _, _, _, _, _, _, _, _, _, _, _, _, _, _, _, _, _, _, _]) H8 sizeOf3 rfl rfl (by first | rfl | assumption) rfl rfl) ?_))
        rintro _ w9 H9
        refine aA (aj (ay (ah (aV rfl (aA (aj (aI (aH (.inl rfl) results204 rfl ?_))))))))
        have hc0 : s.lC i j back = 0 := by rw [hc]; assumption
        have hs : s.lZ i j back = { s.zJ (s.kX i j back).2.1 (s.kX i j back).2.2 with killed := true, cls := 1 } := by unfold bC.lZ; rw [if_pos hc0]
        exact ⟨by rw [hc0], by rw [hs]; exact aB.dM (s := { s.zJ (s.kX i j back).2.1 (s.kX i j back).2.2 with killed := true, cls := 1 }) dK bH H9.f3.right.f11.f11.f11.f11.f11.f11.f11.f11.f10.f11.f11⟩
      ·skip
       refine ay (ah (aN rfl (bM rfl (bG 0 underlying37 rfl sizeOf32 rfl (bG 6 underlying32 rfl sizeOf3 rfl (dX underlying3 rfl (HD4).get.2 rfl (aU (fE rfl rfl) (eP rfl (fun h7 => ?_) (fun h7 => ?_)))))))))
       ·(try simp only [aF] at h7)
        refine bD (bD (bD (bD (fP rfl rfl (aA (aj (wK (ay (ah (aV rfl (aA (aj (ay (ah (aN rfl (aA (aj (aP rfl (fun h8 => ?_) (fun h8 => ?_)))))))))))))))))))
        ·(try simp only [aF] at h8)
         refine ah (aV rfl (aA ?_))
         refine vC (()) ?_ ?_ ?_
         ·exact (Sub.yc rfl (by unfold bC.way; simp_all) (Sub.nil _))
         ·exact (Sub.cons rfl (Sub.cons rfl (Sub.cons rfl (Sub.nil _))))
         ·(try dsimp only)
          first | done | exact rfl
        ·(try simp only [aF] at h8)
         refine aO ?_
         refine vC (()) ?_ ?_ ?_
         ·exact (Sub.yc rfl (by unfold bC.way; simp_all) (Sub.nil _))
         ·exact (Sub.cons rfl (Sub.cons rfl (Sub.cons rfl (Sub.nil _))))
         ·(try dsimp only)
          first | done | exact rfl
       ·(try simp only [aF] at h7)
        refine aX (aN rfl (aX (bM rfl (aX (bG 29 underlying37 rfl sizeOf4 rfl (aX (dX underlying4 rfl (HD4).get.2 rfl (dL rfl rfl (aA (aj (aP rfl (fun h9 => ?_) (fun h9 => ?_))))))))))))
        ·(try simp only [aF] at h9)
         refine ay (ah (aV rfl (aA (aj (ay (ah (aN rfl (aA (aj (aP rfl (fun h10 => ?_) (fun h10 => ?_)))))))))))
         ·(try simp only [aF] at h10)
          refine ah (aV rfl (aA ?_))
          refine vC (()) ?_ ?_ ?_
          ·exact (Sub.yc rfl (by unfold bC.way; simp_all) (Sub.nil _))
          ·exact (Sub.cons rfl (Sub.cons rfl (Sub.cons rfl (Sub.nil _))))
          ·(try dsimp only)
           first | done | exact rfl
         ·(try simp only [aF] at h10)
          refine aO ?_
          refine vC (()) ?_ ?_ ?_
          ·exact (Sub.yc rfl (by unfold bC.way; simp_all) (Sub.nil _))
          ·exact (Sub.cons rfl (Sub.cons rfl (Sub.cons rfl (Sub.nil _))))
          ·(try dsimp only)
           first | done | exact rfl
        ·(try simp only [aF] at h9)
         refine aO ?_
         refine vC (()) ?_ ?_ ?_
         ·exact (Sub.yc rfl (by unfold bC.way; simp_all) (Sub.nil _))
         ·exact (Sub.cons rfl (Sub.cons rfl (Sub.cons rfl (Sub.nil _))))
         ·(try dsimp only)
          first | done | exact rfl
theorem JZ (H : aB w0 w (dA e s • F)) : fG prog 202 #[.pointer (some ⟨e, 0, none⟩), .int .i64 i, .int .i64 j, .bool back] w fun v' w' => v' = .int .i64 (s.Gh i j back) ∧ aB w0 w' (dA e (s.qV i j back) • F) := by
 refine gG func202 ntmps202 ?_
 dsimp only [bf, Nat.reduceAdd]
 refine ay (ah (aV rfl (aA (aj (ay (ay (ah (aN rfl (aN rfl (aN rfl (aN rfl (bW rfl func204 (JY H) ?_))))))))))))
 rintro _ w1 ⟨rfl, H1⟩
 refine aV rfl (aA (aj (ay (ah (aN rfl (aU (bY rfl rfl) (aA (aj (aP rfl (fun h1 => ?_) (fun h1 => ?_))))))))))
 ·(try simp only [aF] at h1)
  have hc := h1
  refine ay (ah (aN rfl (aV rfl (aA (aj (aI (aK (aH (.inl rfl) results202 rfl ?_))))))))
  exact ⟨by unfold bC.Gh; rw [if_neg hc], by unfold bC.qV; rw [if_neg hc]; have HX := H1; rw [xI hc] at HX; exact HX⟩
 ·(try simp only [aF] at h1)
  have hc := h1
  refine aO (aj (ay (ah (aN rfl (aN rfl (aN rfl (bW rfl func139 (Iy H1) ?_)))))))
  rintro _ w2 ⟨rfl, H2⟩
  refine aV rfl (aA (aj (aI (aH (.inl rfl) results202 rfl ?_))))
  exact ⟨by unfold bC.Gh; rw [if_pos hc], by unfold bC.qV; rw [if_pos hc]; exact H2⟩
theorem QW {E : List (List Int)} (h : ∀ x ∈ E, x.length ≤ 1024) (k : Nat) : (E.getD k []).length ≤ 1024 := by
  rw [List.getD_eq_getElem?_getD]
  cases hk : E[k]? with
  | none => simp
  | some x => exact h x (List.mem_of_getElem? hk)
theorem J3 (H : aB w0 w (dA e s • F)) : fG prog 146 #[.pointer (some ⟨e, 0, none⟩)] w fun v' w' => v' = .int .i64 s.yC ∧ aB w0 w' (dA e s.sZ • F) := by
 refine gG func146 ntmps146 ?_
 dsimp only [bf, Nat.reduceAdd]
 refine ay (ah (aV rfl (aA (aj (ay (ay (ah (aN rfl (bW rfl func94 (kD H) ?_)))))))))
 rintro _ _ ⟨rfl, rfl⟩
 refine aV rfl (aA (aj (ay (ah (aN rfl (aU (bY rfl rfl) (aA (aj (aP rfl (fun h1 => ?_) (fun h1 => ?_))))))))))
 ·(try simp only [aF] at h1)
  obtain ⟨hin, hpe⟩ := zK h1
  refine ay (ah (aN rfl (aV rfl (aA (aj (aI (aK (aH (.inl rfl) results146 rfl ?_))))))))
  rw [hpe]
  exact ⟨by simp [bC.yC, bC.sZ, hin], by rw [show s.sZ = s from by simp [bC.yC, bC.sZ, hin]]; exact H⟩
 ·(try simp only [aF] at h1)
  have hin := wZ h1
  refine aO (aj (ay ?_))
  obtain ⟨su, sD, sF, sG, sH, sJ, sK, sN, qI, oI, oJ, oK, oL, oM, oN, oO, oP, oQ, oU, oV, dK, bH, gZ, dO⟩ := (H).BQ
  have hL : s.c.L.length ≤ 1024 ∧ 0 ≤ s.c.pt ∧ s.c.pt ≤ s.c.L.length := by obtain ⟨a, c, xs, f, t, h1, h2, h3, h4, h5, h6, h7, hc1, hc2, hl, H1⟩ := (dO.f2).buf; exact ⟨h4, h6⟩
  have hR := QW (Ld (dO.f3)).2.2 s.c.at_
  have hY : s.yC = if s.c.E.length = 0 then 6 else s.LK s.top := by unfold bC.yC; rw [if_pos hin]
  refine ah (aN rfl (bM rfl (bG 0 underlying37 rfl sizeOf32 rfl (bG 1 underlying32 rfl sizeOf28 rfl (dX underlying28 rfl (dO).get.2 rfl (bW rfl func205 (Fe dO.f3) ?_))))))
  rintro _ w3 ⟨u3, rfl, H3⟩
  refine aN rfl (FP rfl rfl (FP rfl rfl (aV rfl (aV rfl (aA (aj (ay (ay (ah (aN rfl (aU (bY rfl rfl) (aA (aj (aP rfl (fun h2 => ?_) (fun h2 => ?_)))))))))))))))
  ·(try simp only [aF] at h2)
   have h6 : s.c.E.length = 0 := by by_cases hx : s.c.E.length = 0; exact hx; exact absurd (if_neg hx) h2
   rw [if_pos h6] at hY
   refine ay (ah (aN rfl (aV rfl (aA (aj (aI (aK (aH (.inl rfl) results146 rfl ?_))))))))
   exact ⟨by rw [hY]; show Value.int _ (if s.c.E.length = 0 then 6 else 0) = _; rw [if_pos h6], by rw [show s.sZ = s from by unfold bC.sZ; rw [if_neg (by rw [hY]; decide)]]; exact aB.dM dK bH H3.right.f11.f11.f11.f11.f11.f11.f11.f11.f9.f11.f11⟩
  ·(try simp only [aF] at h2)
   have h6 : ¬ s.c.E.length = 0 := fun hx => by rw [if_pos hx] at h2; exact absurd h2 (by decide)
   rw [if_neg h6] at hY
   refine aO (aj (ay (ah (aN rfl (bM rfl (bG 0 underlying37 rfl sizeOf32 rfl (bG 0 underlying32 rfl sizeOf27 rfl (dX underlying27 rfl (H3.f3).get.2 rfl (bW rfl func113 (qj H3.f4) ?_)))))))))
   rintro _ _ ⟨rfl, rfl⟩
   refine aV rfl ?_
   have V5 := H3.f12.f12.f12.f12.f12.f12.f12.f12.f10.f12.f12
   have V6 := aB.dM (s := s) dK bH V5
   refine aA (aj (ay (ay (ah (aN rfl (aN rfl (bW rfl func206 (Fq V6 (fun W HW => (HW).aS)) ?_)))))))
   rintro _ w8 ⟨rfl, H8⟩
   refine aV rfl (aA (aj (ay (ah (aN rfl (aU (bY rfl rfl) (aA (aj (aP rfl (fun h3 => ?_) (fun h3 => ?_))))))))))
   ·(try simp only [aF] at h3)
    have hI : s.LK s.top ≠ 0 := h3
    refine ay (ah (aN rfl (aV rfl (aA (aj (aI (aK (aH (.inl rfl) results146 rfl ?_))))))))
    exact ⟨by rw [hY]; rfl, by rw [show s.sZ = s from by unfold bC.sZ; rw [if_neg (by rw [hY]; exact hI)]]; have HX := H8.f2.right; rw [show s.zI (s.c.E.getD s.c.at_ []) = s from OX hI] at HX; exact HX⟩
   ·(try simp only [aF] at h3)
    have hI : s.LK s.top = 0 := h3
    obtain ⟨su, sD, sF, sG, sH, sJ, sK, sN, qI, oI, oJ, oK, oL, oM, oN, oO, oP, oQ, oU, oV, dK, bH, gZ, dO⟩ := (H8).BQ
    refine aO (aj (ay (ah (aN rfl (bM rfl (bG 0 underlying37 rfl sizeOf32 rfl (bG 0 underlying32 rfl sizeOf27 rfl (dX underlying27 rfl (dO).get.2 rfl (aN rfl (bW rfl func207 (BM dO.f2) ?_))))))))))
    rintro _ w10 ⟨rfl, oZ⟩
    refine aA (aj (ay (ah (aN rfl (aN rfl (bM rfl (bG 30 underlying37 rfl sizeOf4 rfl (aJ (aT 30 (l' := [_, _, _, _, _, _, _, _, _, _, _, _, _, _, _, _, _, _, _, _, _, _, _, _, _, _, _, _, _, _, _, _, _, _]) oZ.f2 sizeOf4 rfl rfl (by first | rfl | assumption) rfl rfl) ?_))))))))
    rintro _ KG yt
    refine bM rfl (bG 28 underlying37 rfl sizeOf3 rfl (aJ (aT 28 (l' := [_, _, _, _, _, _, _, _, _, _, _, _, _, _, _, _, _, _, _, _, _, _, _, _, _, _, _, _, _, _, _, _, _, _]) yt sizeOf3 rfl rfl (by first | rfl | assumption) rfl rfl) ?_))
    rintro _ w12 xR
    refine aA (aj (ay (ah (aN rfl (aN rfl (aN rfl (aN rfl (aN rfl (aU (jC ((xR.f12).aS) underlying22 rfl) (aU (fC rfl rfl (by omega)) (bM rfl (bG 0 underlying37 rfl sizeOf32 rfl (bG 7 underlying32 rfl sizeOf3 rfl (aJ (aT 7 (l' := [_, _, _, _, _, _, _, _, _, _, _, _, _, _, _, _, _, _, _, _, _, _, _, _, _, _, _, _, _, _, _, _, _, _]) xR sizeOf3 rfl rfl (by first | rfl | assumption) rfl rfl) ?_))))))))))))))
    rintro _ Po xE
    refine bM rfl (bG 0 underlying37 rfl sizeOf32 rfl (bG 8 underlying32 rfl sizeOf3 rfl (aJ (aT 8 (l' := [_, _, _, _, _, _, _, _, _, _, _, _, _, _, _, _, _, _, _, _, _, _, _, _, _, _, _, _, _, _, _, _, _, _]) xE sizeOf3 rfl rfl (by first | rfl | assumption) rfl rfl) ?_)))
    rintro _ MX yK
    refine aA (aj (ay (ah (aV rfl (aA (aj (aI (aH (.inl rfl) results146 rfl ?_))))))))
    have hs : s.sZ = { s.zI s.top with lu := true, cls := 2, c := { (s.zI s.top).c with mark := Xg (s.zI s.top).c.L (s.zI s.top).c.mark s.c.pt, fr := s.c.pt, to := s.c.pt + s.top.length } } := by unfold bC.sZ; rw [if_pos (hY.trans hI)]
    exact ⟨by rw [hY, hI], by rw [hs]; exact aB.dM (s := { s.zI s.top with lu := true, cls := 2, c := { (s.zI s.top).c with mark := Xg (s.zI s.top).c.L (s.zI s.top).c.mark s.c.pt, fr := s.c.pt, to := s.c.pt + s.top.length } }) dK bH yK.f12.right.f11.f11.f11.f11.f11.f11.f11.f11.f11.f11.f11⟩
end
end Go.Proofs.YtgndbccogcofjaaGreatDoor
end
section
namespace Go.Proofs.YtgndbccogcofjaaGreatDoor
open Go.RowKit
open _root_.Go.Proofs.Tryz
def qK (g : List Int → Int → Int) (l : List Int) : Nat → Int → Int
  | 0, x => x
  | n + 1, x => if g l x = x then x else qK g l n (g l x)
def BA (l : List Int) (x : Int) : Int := dV l x
def tu (l : List Int) (x : Int) : Int := jc l x
def bV (l : List Int) (p n : Int) : Int := if 0 ≤ n then qK BA l n.toNat p else qK tu l (-n).toNat p
def Ee (w0 : World) (fv : Value) (g : List Int → Int → Int) : Prop := fv.oneCell' = true ∧ ∀ (F : HP) (W : World) (v : Value) (l : List Int) (x : Int), aB w0 W F → iI w0 F .i32 v l → FU prog fv [v, .int .i64 x] W fun u W' => u = .int .i64 (g l x) ∧ aB w0 W' F
theorem OY {w0 : World} (hT : mD w0) : Ee w0 (.func (.func 129) #[] #[]) BA :=
  ⟨rfl, fun F W v l x H hr => ⟨129, [], [], _, _, rfl, func129, rfl, rfl, Hl H hT hr⟩⟩
theorem J4 {w0 : World} (hT : mD w0) : Ee w0 (.func (.func 130) #[] #[]) tu :=
  ⟨rfl, fun F W v l x H hr => ⟨130, [], [], _, _, rfl, func130, rfl, rfl, Dn H hT hr⟩⟩
theorem Ef {g : List Int → Int → Int} {l : List Int} {n : Nat} {x : Int} (h : g l x = x) : qK g l n x = x := by cases n with
  | zero => rfl
  | succ n => rw [qK, if_pos h]
theorem Mc {g : List Int → Int → Int} {l : List Int} {n : Nat} {x : Int} (hn : 0 < n) (h : ¬ g l x = x) : qK g l n x = qK g l (n - 1) (g l x) := by
  obtain ⟨m, rfl⟩ : ∃ m, n = m + 1 := ⟨n - 1, by omega⟩
  rw [qK, if_neg h]; rfl
section
variable {w0 w : World} {F : HP} {c e : Nat} {s : bC} {fv lv kv : Value} {l keys : List Int} {p m n nn x : Int} {g back : Bool} {gf : List Int → Int → Int}
theorem tC (H : aB w0 w (dH c (.cells #[.pointer (some ⟨e, 0, none⟩), lv, .int .i64 p, .int .i64 m, .int .i64 nn, .bool g, kv] 79 (0, 0)) • gW 21 .i32 lv l • F)) (hf : Ee w0 fv gf) (hn : n ≤ 1000000) :
  fG prog 125 #[.pointer (some ⟨c, 0, none⟩), fv, .int .i64 x, .int .i64 n] w fun v w' => v = .int .i64 (qK gf l n.toNat x) ∧ aB w0 w' (dH c (.cells #[.pointer (some ⟨e, 0, none⟩), lv, .int .i64 p, .int .i64 m, .int .i64 nn, .bool g, kv] 79 (0, 0)) • gW 21 .i32 lv l • F) := by
 refine gG func125 ntmps125 ?_
 dsimp only [bf, Nat.reduceAdd]
 refine ay (ah (aV rfl (aA (aj (ay (ay (ah (aN rfl (aN rfl (aA (aj (bF ?_))))))))))))
 refine gQ [(0, _), (1, _), (10, _)] (fun (⟨k, y⟩ : Nat × Int) => [(2, .int .i64 y), (11, .int .i64 (k : Int))]) (fun (⟨k, y⟩ : Nat × Int) W => ((k : Int) ≤ max n 0 ∧ qK gf l n.toNat x = qK gf l (n.toNat - k) y) ∧ aB w0 W (dH c (.cells #[.pointer (some ⟨e, 0, none⟩), lv, .int .i64 p, .int .i64 m, .int .i64 nn, .bool g, kv] 79 (0, 0)) • gW 21 .i32 lv l • F)) (fun (⟨k, y⟩ : Nat × Int) => n.toNat - k) ((0, x)) (Sub.cons rfl (Sub.cons rfl (Sub.cons rfl (Sub.nil _)))) (Sub.cons rfl (Sub.cons rfl (Sub.nil _))) ⟨⟨by omega, rfl⟩, H⟩ ?_
 rintro ⟨k, y⟩ w1 ⟨⟨hk, he⟩, HL⟩
 dsimp only [List.cons_append, List.nil_append]
 refine ay (ah (aU (eF rfl rfl) (aA (aj (ay (aP rfl (fun h1 => ?_) (fun h1 => ?_)))))))
 ·(try simp only [aF] at h1)
  refine aO (aj (ay (bF (ay (ah (aN rfl (aN rfl (bM rfl (bG 1 underlying79 rfl sizeOf22 rfl (dX underlying22 rfl (HL).get.2 rfl (aN rfl (iy (pI rfl rfl (hf.2 _ _ _ l y HL (fun W HW => HW.f2.aS))) ?_))))))))))))
  rintro _ w2 ⟨rfl, H2⟩
  refine aV rfl (aA (aj (ay (ay (ah (aN rfl (aN rfl (aU (fE rfl rfl) (aA (aj (aP rfl (fun h2 => ?_) (fun h2 => ?_))))))))))))
  ·(try simp only [aF] at h2)
   have heq : gf l y = y := h2
   refine eU (aZ ?_)
   refine mM (by decide) ?_
   refine aZ (aZ (bK (aj (ay (ah (aN rfl (aV rfl (aA (aj (aI (aH (.inl rfl) results125 rfl ?_)))))))))))
   exact ⟨by rw [he]; first | rw [Ef heq] | (rw [show n.toNat - k = 0 from by omega]; rfl), H2⟩
  ·(try simp only [aF] at h2)
   have hne : ¬ gf l y = y := by have h9 := h2; simpa using h9
   refine aO (aj (ah (aN rfl (aV rfl (aA (aQ (aj (ah (aU (fC rfl rfl (by omega)) (aN rfl (aA ?_)))))))))))
   refine eG ((k + 1, gf l y)) ?_ ?_ ?_ ?_
   ·exact (Sub.cons rfl (Sub.cons rfl (Sub.nil _)))
   ·exact (Sub.cons rfl (Sub.cons rfl (Sub.cons rfl (Sub.nil _))))
   ·(try dsimp only)
    first | done | exact ⟨⟨by omega, by rw [he, Mc (by omega) hne]; rfl⟩, H2⟩
   ·(try dsimp only); omega
 ·(try simp only [aF] at h1)
  refine eU (aZ (aZ (bK (aj (ay (ah (aN rfl (aV rfl (aA (aj (aI (aH (.inl rfl) results125 rfl ?_))))))))))))
  exact ⟨by rw [he]; first | rw [Ef heq] | (rw [show n.toNat - k = 0 from by omega]; rfl), HL⟩
end
end Go.Proofs.YtgndbccogcofjaaGreatDoor
end
section
namespace Go.Proofs.YtgndbccogcofjaaGreatDoor
open Go.RowKit Go.Lib
section
variable {P : Program} {L : List (Nat × Value)} {w0 w : World} {F : HP} {ty : TypeId} {b : Nat} {v d : Int} {t : TypeId}
theorem J5 {u : Value} (hc : w.cell? ⟨b, 0, none⟩ = some u) (hz : w.frozen? ⟨b, 0, none⟩ = false) : (Extern.Atomic.storeT #[.pointer (some ⟨b, 0, none⟩), .int .i64 d]).run P w = .ok Extern.Atomic.none_ (w.setCell ⟨b, 0, none⟩ (.int .i64 d)) := by
  change Sem.run P (do store (← asAddr (.pointer (some ⟨b, 0, none⟩))) (.int .i64 d) .atomic; pure Extern.Atomic.none_) w = _
  simp [asAddr, run_store _ _ _ _ _ (rfl : (Value.int .i64 d).oneCell' = true), hc, hz, Result.andThen]
theorem OZ {f : FuncId} {args : List Operand} {ts : Array TypeId} {fn : Func} (H : aB w0 w (dH b (.cells #[.int .i64 v] t (0, 0)) • F)) (ha : yZ L args = some [.pointer (some ⟨b, 0, none⟩), .int .i64 d])
    (hf : P.funcs[f]? = some fn) (hname : (fn.name == "runtime.NumGoroutine") = false) (hb : fn.body.isNone = true) (hn : Extern.findNext fn = none) (he : Extern.find fn = some Extern.Atomic.storeT) :
    rM P L (.call ⟨.value (.func f), args.toArray, ts⟩) ty w fun u w' => aB w0 w' (dH b (.cells #[.int .i64 d] t (0, 0)) • F) :=
  QM ha hf hname hb hn he (J5 (gK H.get.2 rfl) (wH H.get.2)) (H.setCell (i := 0) _)
theorem Eh (H : aB w0 w (dH b (.cells #[.int .i64 v] t (0, 0)) • F)) : fG Tryz.prog 47 #[.pointer (some ⟨b, 0, none⟩), .int .i64 d] w fun u w' => aB w0 w' (dH b (.cells #[.int .i64 d] t (0, 0)) • F) := by
 refine gG Tryz.func47 Tryz.ntmps47 ?_
 dsimp only [bf, Nat.reduceAdd]
 refine ah (aN rfl (bM rfl (bG 0 Tryz.underlying106 rfl Tryz.sizeOf2 rfl (aN rfl (iy (OZ H rfl Tryz.func119 rfl rfl (by kernel_rfl) (by kernel_rfl)) ?_)))))
 rintro _ w1 H1
 refine aA (gU (.inr rfl) Tryz.results47 ?_)
 exact H1
end
end Go.Proofs.YtgndbccogcofjaaGreatDoor
end
