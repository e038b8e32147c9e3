import Derived.Test.YtgndbccogcofjaaGreatDoorZ2
import Derived.Test.YtgndbccogcofjaaGreatDoorZ13
import Derived.Test.YtgndbccogcofjaaGreatDoorZ6
import Derived.Test.YtgndbccogcofjaaGreatDoorZ7
import Derived.Test.YtgndbccogcofjaaGreatDoorZ12
set_option linter.unusedSimpArgs false
set_option linter.unusedVariables false
/- Texts of mine, joined, their names in short: EdR EdK EmC Atom2. -/
section
namespace Go.Proofs.YtgndbccogcofjaaGreatDoor
open Go.RowKit
open _root_.Go.Proofs.Tryz
theorem mV {L : List Int} {i j : Int} {l : List Int} (h : iW L i j l ≠ 0) : iY L i j l = [] ∧ iZ L i j l = [] := by unfold iY iZ; rw [if_neg h, if_neg h]; exact ⟨rfl, rfl⟩
theorem PD {L : List Int} {i j : Int} {l : List Int} (hL : L.length ≤ 1024) (h : 0 < (iY L i j l).length + (iZ L i j l).length) : sD (mG L i j l, iY L i j l, iZ L i j l) := by
  by_cases h0 : iW L i j l = 0
  · refine ⟨?_, h, ?_, ?_⟩
    · show 0 ≤ mG L i j l
      unfold mG; rw [if_pos h0]
      unfold iW at h0
      split at h0
      · cases h0
      · omega
    · show (iY L i j l).length ≤ 1024
      unfold iY; rw [if_pos h0]
      simp only [List.length_take, List.length_drop]; omega
    · show (iZ L i j l).length ≤ 1024
      unfold iZ; rw [if_pos h0]
      unfold iW at h0
      split at h0
      · cases h0
      · split at h0
        · cases h0
        · omega
  · rw [(mV h0).1, (mV h0).2] at h
    simp at h
theorem NI {L : List Int} {i j : Int} {l : List Int} (hL : L.length ≤ 1024) : (iY L i j l).length ≤ 1024 ∧ (iZ L i j l).length ≤ 1024 := by
  by_cases h0 : iW L i j l = 0
  · refine ⟨?_, ?_⟩
    · unfold iY; rw [if_pos h0]
      simp only [List.length_take, List.length_drop]; omega
    · unfold iZ; rw [if_pos h0]
      unfold iW at h0
      split at h0
      · cases h0
      · split at h0
        · cases h0
        · omega
  · rw [(mV h0).1, (mV h0).2]; simp
theorem xA {s : bD} {x : dQ} (h : x.2.1.length + x.2.2.length = 0) : s.lJ x = s := by unfold bD.lJ; rw [if_pos h]
theorem yj {s : bD} {x : dQ} (h : 0 < x.2.1.length + x.2.2.length) (k : ¬ 16384 ≤ dO s.here s.put) : s.lJ x = { s with put := s.put ++ [x] } := by unfold bD.lJ; rw [if_neg (by omega), if_neg k]
theorem yt {s : bD} {x : dQ} (h : 0 < x.2.1.length + x.2.2.length) (k : 16384 ≤ dO s.here s.put) : s.lJ x = { s.jH [] with put := [x], c := { (s.jH []).c with run := false } } := by unfold bD.lJ; rw [if_neg (by omega), if_pos k]
theorem mW (G : List (List dQ)) (N : List dQ) : dO G N = dO G [] + N.length := by unfold dO; simp
theorem JU {s : bD} {x : dQ} (h : jq s) (hx : 0 < x.2.1.length + x.2.2.length → sD x) : jq (s.lJ x) := by
  by_cases h0 : x.2.1.length + x.2.2.length = 0
  · rw [xA h0]; exact h
  · have hx' := hx (by omega)
    obtain ⟨h1, h2, h3, h4, h5, h6⟩ := h
    by_cases hf : 16384 ≤ dO s.here s.put
    · rw [yt (by omega) hf]
      refine ⟨h1, h2, h3, fun e he => by rw [List.mem_singleton.1 he]; exact hx', ?_, ?_⟩
      · show dO (uO s.c.un s.c.place [] s.c.place) [x] ≤ 16384
        rw [fD]; simp [dO]
      · intro k g hg
        have hg' : g ∈ uO s.c.un s.c.place [] k := hg
        by_cases hk : k = s.c.place
        · subst hk; rw [fD] at hg'; cases hg'
        · rw [qW _ _ hk] at hg'; exact h6 k g hg'
    · rw [yj (by omega) hf]
      refine ⟨h1, h2, h3, fun e he => ?_, ?_, h6⟩
      · rcases List.mem_append.1 he with he | he
        · exact h4 e he
        · rw [List.mem_singleton.1 he]; exact hx'
      · show dO s.here (s.put ++ [x]) ≤ 16384
        rw [Ej]; omega
section
variable {w0 w : World} {F : HP} {e p h pr : Nat} {s : bD} {i j x : Int} {b : Bool} {v : Value} {l : List Int}
theorem uj (H : aB w0 w (dw e s • F)) (hr : iD w0 F .i32 v l) : eG prog 127 #[.pointer (some ⟨e, 0, none⟩), .int .i64 i, .int .i64 j, v] w fun v' w' => v' = .int .i64 (s.jZ i j l) ∧ aB w0 w' (dw e (s.jc i j l) • F) := by
 refine fP func127 ntmps127 ?_
 dsimp only [aX, Nat.reduceAdd]
 refine ay (ah (aV rfl (aA (aj (ay (ay (ah (aO rfl (dn rfl func94 (jd H) ?_)))))))))
 rintro _ _ ⟨rfl, rfl⟩
 refine aV rfl (aA (aj (ay (ah (aO rfl (aW (dU rfl rfl) (aA (aj (aQ rfl (fun h1 => ?_) (fun h1 => ?_))))))))))
 ·(try simp only [aI] at h1)
  obtain ⟨hin, hpe⟩ := xq h1
  refine ay (ah (aO rfl (aV rfl (aA (aj (aJ (aK (aH (.inl rfl) results127 rfl ?_))))))))
  rw [hpe]
  exact ⟨by simp [bD.jZ, bD.jc, hin], by rw [show s.jc i j l = s from by simp [bD.jZ, bD.jc, hin]]; exact H⟩
 ·(try simp only [aI] at h1)
  have hin := ug h1
  refine aS (aj (ay ?_))
  obtain ⟨oW, oZ, pq, pz, pF, pG, pI, pJ, nO, lQ, lS, lT, lU, lV, lW, lX, lY, lZ, mg, mD, dD, bF, fK, dG⟩ := (H).zy
  have hL : s.c.L.length ≤ 1024 := by obtain ⟨a, c, xs, f, t, h1, h2, h3, h4, h5, h6, h7, hc1, hc2, hl, H1⟩ := (dG.f2).buf; exact h4
  have hE : s.jZ i j l = iW s.c.L i j l := by unfold bD.jZ; rw [if_pos hin]
  have hS : s.jc i j l = (s.iI (kP s.c.L i j l) (kQ s.c.L s.c.pt i j l) (lC s.c.L s.c.mark i j l)).lJ (mG s.c.L i j l, iY s.c.L i j l, iZ s.c.L i j l) := by unfold bD.jc; rw [if_pos hin]
  have hln := NI (i := i) (j := j) (l := l) hL
  have hput : dO s.here s.put ≤ 16384 := dD.2.2.2.2.1
  have hsp : dO s.here s.put = dO (s.c.un s.c.place) [] + s.put.length := mW _ _
  have hok := PD (i := i) (j := j) (l := l) hL
  have hno := mV (L := s.c.L) (i := i) (j := j) (l := l)
  refine ah (aO rfl (bK rfl (aZ 0 underlying37 rfl sizeOf32 rfl (aZ 0 underlying32 rfl sizeOf27 rfl (dP underlying27 rfl (dG).get.2 rfl (aO rfl (aO rfl (aO rfl (dn rfl func193 (y5 dG.f2 (fun W HW => hr _ (HW.right.right.right.right.right.right.right.right.right.right))) ?_)))))))))
  rintro _ w3 ⟨d3, s3, rfl, H3⟩
  refine aO rfl (CW rfl rfl (CW rfl rfl (jo (fJ (l := [_, _, _]) H3 zeroValue101 rfl) ?_)))
  rintro _ w4 ⟨b4, rfl, H4⟩
  refine aG (cO 0 (l' := [_, _, _]) (us := [_, _, _]) H4 sizeOf101 rfl rfl rfl (aC (by first | rfl | assumption) (aC (by first | rfl | exact Rd.one ((H4.f2).aT)) (aC (by first | rfl | exact Rd.one ((H4.f3).aT)) bP))) rfl rfl) ?_
  rintro _ w5 H5
  refine aV rfl (aA (aj (ay (ay (ah (aO rfl (aW (gI rfl rfl) (fV rfl (fun h2 => ?_) (fun h2 => ?_)))))))))
  ·(try simp only [aI] at h2)
   refine bf (aZ 1 underlying101 rfl sizeOf22 rfl (bf (dP underlying22 rfl (H5).get.2 rfl (bf (aW (nX ((H5.f2).aT) underlying22 rfl) (bf (aZ 2 underlying101 rfl sizeOf22 rfl (bf (dP underlying22 rfl (H5).get.2 rfl (bf (aW (nX ((H5.f3).aT) underlying22 rfl) (bf (aW (fQ rfl rfl (by omega)) (bf (aW (dB rfl rfl) (fG rfl rfl (aA (aj (aQ rfl (fun h3 => ?_) (fun h3 => ?_))))))))))))))))))))
   ·(try simp only [aI] at h3)
    have hlen : 0 < (iY s.c.L i j l).length + (iZ s.c.L i j l).length := by omega
    refine ay (ay ?_)
    have Sl := H5.drew
    have Bl := aB.kp (Sl.f9.right.f13.f13.f13.f13.f13.f13.f13.f13.f13.f13.f13.f13.f13)
    refine xJ [6] Bl rfl (iq 0 rfl Bl rfl (iq 3 rfl Bl rfl (jv 4 rfl Bl rfl (fU 5 rfl Bl 33 underlying37 rfl sizeOf35 rfl (iV 6 rfl Bl (fun W hW => jr underlying35 rfl ((Kp.h hW).f5).get.2 rfl) (iU 7 rfl Bl (fun _ => gW ((Sl.f12).aT) underlying35 rfl) (jB 1 rfl (vK rfl func160 (uh Sl.f9.f8.f7)) ?_)))))))
    rintro _ w6 ⟨lp6, rfl, H6⟩
    have Gm := aB.kp (H6.right.f14.f14.f14.f14.f14.f14.f14.f14.f14.f14.f14.f14.f14.f14)
    refine dM Gm (fun W hW => (Kp.h hW).right.f13.f13.f13.f13.f13.f13.f8.f13.f9.f13.f13.f13.f13) ?_
    refine jB 2 rfl (vK rfl func194 (AA H6)) ?_
    rintro _ w7 ⟨rfl, H7⟩
    have xX := aB.kp (H7.f15.f15.f15.f15.f15.f15.f15.f15.f15.f15.f15.f15.f15.f15.f15)
    refine dM xX (fun W hW => (Kp.h hW).right.f14.f14.f14.f14.f14.f14.f14.f14.f14.f14.f14.f14.f14.f14) ?_
    refine iU 8 rfl xX (fun _ => fQ rfl rfl (by omega)) (iU 9 rfl xX (fun _ => jm rfl rfl) ?_)
    have Ho8 := H7.f2
    have Zn := aB.Ez Ho8
    refine oV (aj (aQ rfl (fun h4 => ?_) (fun h4 => ?_)))
    ·(try simp only [aI] at h4)
     have Gq : 16384 ≤ dO (s.iI (kP s.c.L i j l) (kQ s.c.L s.c.pt i j l) (lC s.c.L s.c.mark i j l)).here (s.iI (kP s.c.L i j l) (kQ s.c.L s.c.pt i j l) (lC s.c.L s.c.mark i j l)).put := by show 16384 ≤ dO s.here s.put; omega
     refine ay (ah (aO rfl (dn rfl func160 (uh Zn.f3.f3) ?_)))
     rintro _ w10 ⟨aai, rfl, ng⟩
     refine dn rfl func195 (AV ng) ?_
     rintro _ Ht wB
     have IK := wB.f2
     have IL := aB.rC IK
     refine aA (aj (ah (aO rfl (aO rfl (bK rfl (aZ 33 underlying37 rfl sizeOf35 rfl (aG (aN 33 (l' := [_, _, _, _, _, _, _, _, _, _, _, _, _, _, _, _, _, _, _, _, _, _, _, _, _, _, _, _, _, _, _, _, _, _]) IL.f2 sizeOf35 rfl rfl (by first | rfl | assumption) rfl rfl) ?_)))))))
     rintro _ Ky wM
     refine bK rfl (aZ 0 underlying37 rfl sizeOf32 rfl (aZ 10 underlying32 rfl sizeOf4 rfl (aG (aN 10 (l' := [_, _, _, _, _, _, _, _, _, _, _, _, _, _, _, _, _, _, _, _, _, _, _, _, _, _, _, _, _, _, _, _, _, _]) wM sizeOf4 rfl rfl (by first | rfl | assumption) rfl rfl) ?_)))
     rintro _ MB wC
     refine aA (aj ?_)
     have QA := wC.drew
     have vX := aB.kp (QA.f14.f14.f14.f14.f14.f14.f14.f14.f14.f14.f14.f14.f14.f14)
     refine xJ [4, 5] vX rfl (iq 0 rfl vX rfl (iq 1 rfl vX rfl (jv 2 rfl vX rfl (fU 3 rfl vX 33 underlying37 rfl sizeOf35 rfl (iV 4 rfl vX (fun W hW => jr underlying35 rfl ((Kp.h hW)).get.2 rfl) (iV 5 rfl vX (fun W hW => bW underlying101 rfl sizeOf101 rfl rfl ((Kp.h hW).f4).get.2) (jB 6 rfl (oI QA underlying35 sizeOf101 zeroValue101 rfl rfl rfl (by decide) (by decide)) ?_)))))))
     rintro Y6 w16 rP
     have F9 := aB.kp (rP.f15.f15.f15.f15.f15.f15.f15.f15.f15.f15.f15.f15.f15.f15.f15)
     refine dM F9 (fun W hW => (Kp.h hW).right.f14.f14.f14.f14.f14.f14.f14.f14.f14.f14.f14.f14.f14.f14) ?_
     refine jB 7 rfl (gK (rP.iP none) underlying35 (show (prog.info? 101).map (fun i => (i.zero, i.size, i.bytes)) = some (some (.agg #[.int .i64 0, .slice none 0 0, .slice none 0 0]), 3, 56) by kernel_rfl) rfl rfl rfl ((rP).aT) (aC (by first | rfl | assumption) (aC (by first | rfl | exact Rd.one ((rP.f6).aT)) (aC (by first | rfl | exact Rd.one ((rP.f7).aT)) bP))) (by omega) (by omega)) ?_
     rintro l17 Tc D7
     have NJ := D7.f2.right
     have FY := aB.kp (NJ.f15.f15.f15.f15.f15.f15.f15.f15.f15.f15.f15.f15.f15.f15.f15)
     refine eX FY (by kernel_rfl) ?_
     refine jv 8 rfl FY rfl (fU 9 rfl FY 33 underlying37 rfl sizeOf35 rfl ?_)
     refine eP 10 rfl (by kernel_rfl) (aN 33 (l' := [_, _, _, _, _, _, _, _, _, _, _, _, _, _, _, _, _, _, _, _, _, _, _, _, _, _, _, _, _, _, _, _, _, _]) NJ.f2 sizeOf35 rfl rfl (by first | rfl | exact Rd.one ((NJ).aT)) rfl rfl) ?_
     rintro _ Qh Aa
     have Nu := aB.kp (Aa.f15.f15.f15.f15.f15.f15.f15.f15.f15.f15.f15.f15.f15.f15.f15)
     refine eX Nu (by kernel_rfl) ?_
     refine oV (aj (ay (ah (aO rfl (aV rfl (aA (aj (aJ (aH (.inl rfl) results127 rfl ?_)))))))))
     have X := (Aa.f5.right.f12.right.f12.right.f12.f12.f12.f6.f12.f8.f12.f12.f9.f10.f12.f12).jf.swap.jf.swap
     have X2 := aB.qQ (es := []) X.Ar.f3.f3.f4
     exact ⟨by rw [hE]; rfl, by rw [hS, yt (x := (mG s.c.L i j l, iY s.c.L i j l, iZ s.c.L i j l)) hlen Gq]; exact aB.NG (s := { (s.iI (kP s.c.L i j l) (kQ s.c.L s.c.pt i j l) (lC s.c.L s.c.mark i j l)).jH [] with put := [(mG s.c.L i j l, iY s.c.L i j l, iZ s.c.L i j l)], c := { ((s.iI (kP s.c.L i j l) (kQ s.c.L s.c.pt i j l) (lC s.c.L s.c.mark i j l)).jH []).c with run := false } }) (yt (x := (mG s.c.L i j l, iY s.c.L i j l, iZ s.c.L i j l)) hlen Gq ▸ JU (rD dD _ _ _) hok) rfl X2⟩
    ·(try simp only [aI] at h4)
     have Gq : ¬ 16384 ≤ dO (s.iI (kP s.c.L i j l) (kQ s.c.L s.c.pt i j l) (lC s.c.L s.c.mark i j l)).here (s.iI (kP s.c.L i j l) (kQ s.c.L s.c.pt i j l) (lC s.c.L s.c.mark i j l)).put := by show ¬ 16384 ≤ dO s.here s.put; omega
     refine aS (aj ?_)
     have Dz := Zn.drew
     have kK := aB.kp (Dz.f14.f14.f14.f14.f14.f14.f14.f14.f14.f14.f14.f14.f14.f14)
     refine xJ [4, 5] kK rfl (iq 0 rfl kK rfl (iq 1 rfl kK rfl (jv 2 rfl kK rfl (fU 3 rfl kK 33 underlying37 rfl sizeOf35 rfl (iV 4 rfl kK (fun W hW => jr underlying35 rfl ((Kp.h hW).f2).get.2 rfl) (iV 5 rfl kK (fun W hW => bW underlying101 rfl sizeOf101 rfl rfl ((Kp.h hW).f4).get.2) (jB 6 rfl (oI Dz underlying35 sizeOf101 zeroValue101 rfl rfl rfl (by decide) (by decide)) ?_)))))))
     rintro Xl Qd wz
     have yP := aB.kp (wz.f15.f15.f15.f15.f15.f15.f15.f15.f15.f15.f15.f15.f15.f15.f15)
     refine dM yP (fun W hW => (Kp.h hW).right.f14.f14.f14.f14.f14.f14.f14.f14.f14.f14.f14.f14.f14.f14) ?_
     refine jB 7 rfl (gK wz.f13 underlying35 (show (prog.info? 101).map (fun i => (i.zero, i.size, i.bytes)) = some (some (.agg #[.int .i64 0, .slice none 0 0, .slice none 0 0]), 3, 56) by kernel_rfl) rfl rfl rfl ((wz).aT) (aC (by first | rfl | assumption) (aC (by first | rfl | exact Rd.one ((wz.f6).aT)) (aC (by first | rfl | exact Rd.one ((wz.f7).aT)) bP))) (by omega) (by omega)) ?_
     rintro l21 Rf nY
     have Ey := nY.f2.right
     have Bf := aB.kp (Ey.f14.f14.f14.f14.f14.f14.f14.f14.f14.f14.f14.f14.f14.f14)
     refine eX Bf (by kernel_rfl) ?_
     refine jv 8 rfl Bf rfl (fU 9 rfl Bf 33 underlying37 rfl sizeOf35 rfl ?_)
     refine eP 10 rfl (by kernel_rfl) (aN 33 (l' := [_, _, _, _, _, _, _, _, _, _, _, _, _, _, _, _, _, _, _, _, _, _, _, _, _, _, _, _, _, _, _, _, _, _]) Ey.f3 sizeOf35 rfl rfl (by first | rfl | exact Rd.one ((Ey).aT)) rfl rfl) ?_
     rintro _ Qi xC
     have Dv := aB.kp (xC.f14.f14.f14.f14.f14.f14.f14.f14.f14.f14.f14.f14.f14.f14)
     refine eX Dv (by kernel_rfl) ?_
     refine oV (aj (ay (ah (aO rfl (aV rfl (aA (aj (aJ (aH (.inl rfl) results127 rfl ?_)))))))))
     have X := (xC.f5.right.f13.f12.f12.f6.f12.f8.f12.f12.f9.f13.f11.f13.f13).jf.swap.jf.swap
     rw [← fK] at X
     have X2 := aB.qQ X.f3
     exact ⟨by rw [hE]; rfl, by rw [hS, yj (x := (mG s.c.L i j l, iY s.c.L i j l, iZ s.c.L i j l)) hlen Gq]; exact aB.NG (s := { s.iI (kP s.c.L i j l) (kQ s.c.L s.c.pt i j l) (lC s.c.L s.c.mark i j l) with put := s.put ++ [(mG s.c.L i j l, iY s.c.L i j l, iZ s.c.L i j l)] }) (yj (x := (mG s.c.L i j l, iY s.c.L i j l, iZ s.c.L i j l)) hlen Gq ▸ JU (rD dD _ _ _) hok) (by rw [List.map_append, bF]; rfl) X2⟩
   ·(try simp only [aI] at h3)
    have hlen : (iY s.c.L i j l).length + (iZ s.c.L i j l).length = 0 := by omega
    refine aS (aj (ay (ah (aO rfl (aV rfl (aA (aj (aJ (aH (.inl rfl) results127 rfl ?_)))))))))
    exact ⟨by rw [hE]; rfl, by rw [hS, xA (x := (mG s.c.L i j l, iY s.c.L i j l, iZ s.c.L i j l)) hlen]; exact aB.dF (s := s.iI (kP s.c.L i j l) (kQ s.c.L s.c.pt i j l) (lC s.c.L s.c.mark i j l)) (rD dD _ _ _) bF H5.right.right.right.f11.f11.f11.f11.f11.f11.f11.f11.f11.f10.f11⟩
  ·(try simp only [aI] at h2)
   have hlen : (iY s.c.L i j l).length + (iZ s.c.L i j l).length = 0 := by rw [(hno h2).1, (hno h2).2]; rfl
   refine bC (bC (bC (bC (bC (bC (bC (bC (eY rfl rfl (aA (aj (nV (aS (aj (ay (ah (aO rfl (aV rfl (aA (aj (aJ (aH (.inl rfl) results127 rfl ?_)))))))))))))))))))))
   exact ⟨by rw [hE]; rfl, by rw [hS, xA (x := (mG s.c.L i j l, iY s.c.L i j l, iZ s.c.L i j l)) hlen]; exact aB.dF (s := s.iI (kP s.c.L i j l) (kQ s.c.L s.c.pt i j l) (lC s.c.L s.c.mark i j l)) (rD dD _ _ _) bF H5.right.right.right.f11.f11.f11.f11.f11.f11.f11.f11.f11.f10.f11⟩
theorem CG (H : aB w0 w (dw e s • F)) (hr : iD w0 F .i32 v l) : eG prog 206 #[.pointer (some ⟨e, 0, none⟩), v] w fun v' w' => v' = .int .i64 (s.Iy l) ∧ aB w0 w' (dw e (s.xk l) • F) := by
 refine fP func206 ntmps206 ?_
 dsimp only [aX, Nat.reduceAdd]
 refine ay (ah (aV rfl (aA (aj (ay (ay (ah (aO rfl (dn rfl func94 (jd H) ?_)))))))))
 rintro _ _ ⟨rfl, rfl⟩
 refine aV rfl (aA (aj (ay (ah (aO rfl (aW (dU rfl rfl) (aA (aj (aQ rfl (fun h1 => ?_) (fun h1 => ?_))))))))))
 ·(try simp only [aI] at h1)
  obtain ⟨hin, hpe⟩ := xq h1
  refine ay (ah (aO rfl (aV rfl (aA (aj (aJ (aK (aH (.inl rfl) results206 rfl ?_))))))))
  rw [hpe]
  exact ⟨by simp [bD.Iy, bD.xk, bD.jZ, bD.jc, hin], by rw [show s.xk l = s from by simp [bD.Iy, bD.xk, bD.jZ, bD.jc, hin]]; exact H⟩
 ·(try simp only [aI] at h1)
  have hin := ug h1
  refine aS (aj (ay ?_))
  obtain ⟨oW, oZ, pq, pz, pF, pG, pI, pJ, nO, lQ, lS, lT, lU, lV, lW, lX, lY, lZ, mg, mD, dD, bF, fK, dG⟩ := (H).zy
  have KW := dG.drew
  have rE := aB.kp (KW.f11.f11.f11.f11.f11.f11.f11.f11.f11.f11.f11)
  refine xJ [5, 11] rE rfl (iq 0 rfl rE rfl (iq 1 rfl rE rfl (jv 2 rfl rE rfl (fU 3 rfl rE 0 underlying37 rfl sizeOf32 rfl (fU 4 rfl rE 0 underlying32 rfl sizeOf27 rfl (iV 5 rfl rE (fun W hW => jr underlying27 rfl ((Kp.h hW)).get.2 rfl) (iq 7 rfl rE rfl (jv 8 rfl rE rfl (fU 9 rfl rE 0 underlying37 rfl sizeOf32 rfl (fU 10 rfl rE 0 underlying32 rfl sizeOf27 rfl (iV 11 rfl rE (fun W hW => jr underlying27 rfl ((Kp.h hW)).get.2 rfl) (iq 13 rfl rE rfl (jB 6 rfl (vK rfl func113 (ny KW.f2)) ?_)))))))))))))
  rintro _ _ ⟨rfl, rfl⟩
  have Cj := aB.kp (KW.f11.f11.f11.f11.f11.f11.f11.f11.f11.f11.f11)
  refine dM Cj (fun W hW => (Kp.h hW).f11.f11.f11.f11.f11.f11.f11.f11.f11.f11.f11) ?_
  refine jB 12 rfl (vK rfl func113 (ny KW.f2)) ?_
  rintro _ _ ⟨rfl, rfl⟩
  have uN := aB.kp (KW.f11.f11.f11.f11.f11.f11.f11.f11.f11.f11.f11)
  refine eX uN (by kernel_rfl) ?_
  have RN := KW.f11.f11.f11.f11.f11.f11.f11.f11.f11.f11.f11
  have RP := aB.dF (s := s) dD bF RN
  refine jB 14 rfl (vK rfl func127 (uj RP (fun W HW => hr _ (HW)))) ?_
  rintro _ w8 ⟨rfl, H8⟩
  have KJ := aB.kp (H8)
  refine eX KJ (by kernel_rfl) ?_
  refine iU 15 rfl KJ (fun _ => fZ rfl) (oV (aj (aJ (aH (.inl rfl) results206 rfl ?_))))
  exact ⟨rfl, H8⟩
theorem EF (H : aB w0 w (dw e s • F)) : eG prog 139 #[.pointer (some ⟨e, 0, none⟩), .int .i64 i, .int .i64 j] w fun v' w' => v' = .int .i64 (s.jZ i j []) ∧ aB w0 w' (dw e (s.jc i j []) • F) := by
 refine fP func139 ntmps139 ?_
 dsimp only [aX, Nat.reduceAdd]
 refine ay (ah (aV rfl (aA (aj (ay (ah (aO rfl (aO rfl (aO rfl (dn rfl func127 (uj H (fun W _ => jV.nil W _ none 0 (by decide))) ?_))))))))))
 rintro _ w1 ⟨rfl, H1⟩
 refine aV rfl (aA (aj (aJ (aH (.inl rfl) results139 rfl ?_))))
 exact ⟨rfl, H1⟩
end
end Go.Proofs.YtgndbccogcofjaaGreatDoor
end
section
namespace Go.Proofs.YtgndbccogcofjaaGreatDoor
open Go.RowKit
open _root_.Go.Proofs.Tryz
theorem KX {E : List (List Int)} {a : Nat} {way : Int} {l : List Int} (h : (tK E a way l).1 ≠ 0) : (tK E a way l).2 = (E, a) := by
  unfold tK at *
  repeat' split at h
  all_goals first | (simp at h; done) | skip
  all_goals (repeat' (first | rw [if_pos (by assumption)] | rw [if_neg (by assumption)])) <;> rfl
theorem KY {s : bD} {i j : Int} {back : Bool} (h : (s.kD i j back).1 ≠ 0) : (s.kD i j back).2 = (s.c.E, s.c.at_) := KX h
theorem Gs (s : bD) : s.iI s.c.L s.c.pt s.c.mark = s := rfl
theorem KZ {s : bD} {i j : Int} {l : List Int} (h : s.jZ i j l ≠ 0) : s.jc i j l = s := by
  unfold bD.jc bD.jZ at *
  split
  · rename_i hin
    rw [if_pos hin] at h
    rw [xA (by rw [(mV h).1, (mV h).2]; rfl)]
    unfold kP kQ lC
    rw [if_neg h, if_neg h, if_neg h]
    exact Gs s
  · rfl
theorem uF {s : bD} {i j : Int} {back : Bool} (h : s.kE i j back ≠ 0) : s.oh i j back = s := by unfold bD.oh; rw [if_neg h]
section
variable {w0 w : World} {F : HP} {e p h pr : Nat} {s : bD} {i j x : Int} {back : Bool} {v : Value} {l : List Int}
theorem Gt (H : aB w0 w (dw e s • F)) : eG prog 204 #[.pointer (some ⟨e, 0, none⟩), .int .i64 i, .int .i64 j, .bool back] w fun v' w' => v' = .int .i64 (s.kE i j back) ∧ aB w0 w' (dw e (s.oh i j back) • F) := by
 refine fP func204 ntmps204 ?_
 dsimp only [aX, Nat.reduceAdd]
 refine ay (ah (aV rfl (aA (aj (ay (ay (ah (aO rfl (dn rfl func94 (jd H) ?_)))))))))
 rintro _ _ ⟨rfl, rfl⟩
 refine aV rfl (aA (aj (ay (ah (aO rfl (aW (dU rfl rfl) (aA (aj (aQ rfl (fun h1 => ?_) (fun h1 => ?_))))))))))
 ·(try simp only [aI] at h1)
  obtain ⟨hin, hpe⟩ := xq h1
  refine ay (ah (aO rfl (aV rfl (aA (aj (aJ (aK (aH (.inl rfl) results204 rfl ?_))))))))
  rw [hpe]
  exact ⟨by simp [bD.kE, bD.oh, hin], by rw [show s.oh i j back = s from by simp [bD.kE, bD.oh, hin]]; exact H⟩
 ·(try simp only [aI] at h1)
  have hin := ug h1
  refine aS (aj (ay (ay ?_)))
  obtain ⟨oW, oZ, pq, pz, pF, pG, pI, pJ, nO, lQ, lS, lT, lU, lV, lW, lX, lY, lZ, mg, mD, dD, bF, fK, dG⟩ := (H).zy
  have hL : s.c.L.length ≤ 1024 := by obtain ⟨a, c, xs, f, t, h1, h2, h3, h4, h5, h6, h7, hc1, hc2, hl, H1⟩ := (dG.f2).buf; exact h4
  refine ah (aO rfl (aW (eU rfl rfl) (fV rfl (fun h2 => ?_) (fun h2 => ?_))))
  ·(try simp only [aI] at h2)
   refine bC (bC (bC (bC (bC (bC (bC (bC (fG rfl rfl (aO rfl (bC (bC (bC (fG rfl rfl (aO rfl (bC (bC (bC (bC (bC (bC (bC (bC (fG rfl rfl (aA (aj (uI (ay (ah (aV rfl (aA (aj (aJ (aK (aH (.inl rfl) results204 rfl ?_))))))))))))))))))))))))))))))))))
   have hb : s.jy i j := by unfold bD.jy; omega
   have hc : s.kE i j back = 70 := by unfold bD.kE; rw [if_pos hin, if_pos hb]
   exact ⟨by rw [hc], by rw [uF (by rw [hc]; decide)]; exact aB.dF dD bF dG.f11.f11.f11.f11.f11.f11.f11.f11.f11.f11.f11⟩
  ·(try simp only [aI] at h2)
   refine bf (aO rfl (bf (aO rfl (bf (bK rfl (bf (aZ 0 underlying37 rfl sizeOf32 rfl (bf (aZ 0 underlying32 rfl sizeOf27 rfl (bf (dP underlying27 rfl (dG).get.2 rfl (bf (dn rfl func186 (jF dG.f2) ?_)))))))))))))
   rintro _ w3 ⟨rfl, hD3⟩
   have HD3 := dG.pK hD3
   refine bf (aW (dB rfl rfl) (eY rfl rfl (fV rfl (fun h3 => ?_) (fun h3 => ?_))))
   ·(try simp only [aI] at h3)
    refine bC (bC (bC (fG rfl rfl (aO rfl (bC (bC (bC (bC (bC (bC (bC (bC (fG rfl rfl (aA (aj (uI (ay (ah (aV rfl (aA (aj (aJ (aK (aH (.inl rfl) results204 rfl ?_))))))))))))))))))))))))
    have hb : s.jy i j := by unfold bD.jy; omega
    have hc : s.kE i j back = 70 := by unfold bD.kE; rw [if_pos hin, if_pos hb]
    exact ⟨by rw [hc], by rw [uF (by rw [hc]; decide)]; exact aB.dF dD bF HD3.f11.f11.f11.f11.f11.f11.f11.f11.f11.f11.f11⟩
   ·(try simp only [aI] at h3)
    refine bf (aO rfl (bf (aO rfl (bf (aW (eU rfl rfl) (eY rfl rfl (fV rfl (fun h4 => ?_) (fun h4 => ?_))))))))
    ·(try simp only [aI] at h4)
     refine bC (bC (bC (bC (bC (bC (bC (bC (fG rfl rfl (aA (aj (uI (ay (ah (aV rfl (aA (aj (aJ (aK (aH (.inl rfl) results204 rfl ?_)))))))))))))))))))
     have hb : s.jy i j := by unfold bD.jy; omega
     have hc : s.kE i j back = 70 := by unfold bD.kE; rw [if_pos hin, if_pos hb]
     exact ⟨by rw [hc], by rw [uF (by rw [hc]; decide)]; exact aB.dF dD bF HD3.f11.f11.f11.f11.f11.f11.f11.f11.f11.f11.f11⟩
    ·(try simp only [aI] at h4)
     refine bf (aO rfl (bf (aO rfl (bf (bK rfl (bf (aZ 0 underlying37 rfl sizeOf32 rfl (bf (aZ 0 underlying32 rfl sizeOf27 rfl (bf (dP underlying27 rfl (HD3).get.2 rfl (bf (dn rfl func186 (jF HD3.f2) ?_)))))))))))))
     rintro _ w4 ⟨rfl, hD4⟩
     have HD4 := HD3.pK hD4
     refine bf (aW (dB rfl rfl) (eY rfl rfl (aA (aj (aQ rfl (fun h5 => ?_) (fun h5 => ?_))))))
     ·(try simp only [aI] at h5)
      refine ay (ah (aV rfl (aA (aj (aJ (aK (aH (.inl rfl) results204 rfl ?_)))))))
      have hb : s.jy i j := by unfold bD.jy; omega
      have hc : s.kE i j back = 70 := by unfold bD.kE; rw [if_pos hin, if_pos hb]
      exact ⟨by rw [hc], by rw [uF (by rw [hc]; decide)]; exact aB.dF dD bF HD4.f11.f11.f11.f11.f11.f11.f11.f11.f11.f11.f11⟩
     ·(try simp only [aI] at h5)
      refine aS (aj (ay ?_))
      have hb : ¬ s.jy i j := by unfold bD.jy; omega
      have hc : s.kE i j back = (s.kD i j back).1 := by unfold bD.kE; rw [if_pos hin, if_neg hb]
      refine ah (aV rfl (aA (aj ?_)))
      refine Ji [(0, _), (1, _), (2, _)] (fun (_ : Unit) => [(10, .int .i64 (s.way back))]) (fun (_ : Unit) W => W = w4) (Sub.cons rfl (Sub.cons rfl (Sub.cons rfl (Sub.nil _)))) ?_ ?_
      ·rintro _ w5 rfl
       dsimp only [List.cons_append, List.nil_append]
       refine ay (ay ?_)
       have QB := HD4.drew
       have lK := aB.kp (QB.f11.f11.f11.f11.f11.f11.f11.f11.f11.f11.f11)
       refine xJ [4, 10] lK rfl (iq 0 rfl lK rfl (jv 1 rfl lK rfl (fU 2 rfl lK 0 underlying37 rfl sizeOf32 rfl (fU 3 rfl lK 1 underlying32 rfl sizeOf28 rfl (iV 4 rfl lK (fun W hW => jr underlying28 rfl ((Kp.h hW)).get.2 rfl) (iq 5 rfl lK rfl (iq 6 rfl lK rfl (jv 7 rfl lK rfl (fU 8 rfl lK 0 underlying37 rfl sizeOf32 rfl (fU 9 rfl lK 0 underlying32 rfl sizeOf27 rfl (iV 10 rfl lK (fun W hW => jr underlying27 rfl ((Kp.h hW)).get.2 rfl) (iq 12 rfl lK rfl (iq 13 rfl lK rfl (jB 11 rfl (vK rfl func112 (oD QB.f2)) ?_))))))))))))))
       rintro u6 w6 H6
       have Gm := aB.kp (H6.f12.f12.f12.f12.f12.f12.f12.f12.f12.f12.f12.f12)
       refine dM Gm (fun W hW => (Kp.h hW).right.f11.f11.f11.f11.f11.f11.f11.f11.f11.f10.f11) ?_
       refine iU 14 rfl Gm (fun _ => zS ((H6).aT) underlying22 sizeOf21 rfl rfl rfl (by omega)) (jB 15 rfl (vK rfl func233 (Cc H6.f4 (fun W HW => jV.cut ((HW).aT) (by omega) (by omega)))) ?_)
       rintro _ w7 ⟨rfl, H7⟩
       have xX := aB.kp (H7.f12.f12.f12.f12.f12.f12.f12.f12.f12.f12.f12.f12)
       refine eX xX (by kernel_rfl) ?_
       refine iU 16 rfl xX (fun _ => fZ rfl) (oV (aj (ay (ah (aO rfl (aW (dU rfl rfl) (aA (aj (aQ rfl (fun h6 => ?_) (fun h6 => ?_))))))))))
       ·(try simp only [aI] at h6)
        refine ay (ah (aO rfl (aV rfl (aA (aj (aJ (aK (aH (.inl rfl) results204 rfl ?_))))))))
        exact ⟨by rw [hc]; rfl, by rw [uF (by rw [hc]; assumption)]; have HX := H7.f2.right.f11.f11.f11.f11.f11.f11.f11.f11.f9.f10.f11; rw [show tK s.c.E s.c.at_ (s.way back) ((s.c.L.drop i.toNat).take (j.toNat - i.toNat)) = s.kD i j back from rfl, KY (by assumption)] at HX; exact aB.dF dD bF HX⟩
       ·(try simp only [aI] at h6)
        refine aS (aj (ay (ah (aO rfl (aO rfl (bK rfl (aZ 29 underlying37 rfl sizeOf4 rfl (aG (aN 29 (l' := [_, _, _, _, _, _, _, _, _, _, _, _, _, _, _, _, _, _, _, _, _, _, _, _, _, _, _, _, _, _, _, _, _, _]) H7.f4 sizeOf4 rfl rfl (by first | rfl | assumption) rfl rfl) ?_))))))))
        rintro _ w8 H8
        refine bK rfl (aZ 28 underlying37 rfl sizeOf3 rfl (aG (aN 28 (l' := [_, _, _, _, _, _, _, _, _, _, _, _, _, _, _, _, _, _, _, _, _, _, _, _, _, _, _, _, _, _, _, _, _, _]) H8 sizeOf3 rfl rfl (by first | rfl | assumption) rfl rfl) ?_))
        rintro _ w9 H9
        refine aA (aj (ay (ah (aV rfl (aA (aj (aJ (aH (.inl rfl) results204 rfl ?_))))))))
        have hc0 : s.kE i j back = 0 := by rw [hc]; assumption
        have hs : s.oh i j back = { s.zu (s.kD i j back).2.1 (s.kD i j back).2.2 with killed := true, cls := 1 } := by unfold bD.oh; rw [if_pos hc0]
        exact ⟨by rw [hc0], by rw [hs]; exact aB.dF (s := { s.zu (s.kD i j back).2.1 (s.kD i j back).2.2 with killed := true, cls := 1 }) dD bF H9.f3.right.f11.f11.f11.f11.f11.f11.f11.f11.f10.f11.f11⟩
      ·skip
       refine ay (ah (aO rfl (bK rfl (aZ 0 underlying37 rfl sizeOf32 rfl (aZ 6 underlying32 rfl sizeOf3 rfl (dP underlying3 rfl (HD4).get.2 rfl (aW (gI rfl rfl) (fV rfl (fun h7 => ?_) (fun h7 => ?_)))))))))
       ·(try simp only [aI] at h7)
        refine bC (bC (bC (bC (fG rfl rfl (aA (aj (uI (ay (ah (aV rfl (aA (aj (ay (ah (aO rfl (aA (aj (aQ rfl (fun h8 => ?_) (fun h8 => ?_)))))))))))))))))))
        ·(try simp only [aI] at h8)
         refine ah (aV rfl (aA ?_))
         refine rG (()) ?_ ?_ ?_
         ·exact (Sub.wE rfl (by unfold bD.way; simp_all) (Sub.nil _))
         ·exact (Sub.cons rfl (Sub.cons rfl (Sub.cons rfl (Sub.nil _))))
         ·(try dsimp only)
          first | done | exact rfl
        ·(try simp only [aI] at h8)
         refine aS ?_
         refine rG (()) ?_ ?_ ?_
         ·exact (Sub.wE rfl (by unfold bD.way; simp_all) (Sub.nil _))
         ·exact (Sub.cons rfl (Sub.cons rfl (Sub.cons rfl (Sub.nil _))))
         ·(try dsimp only)
          first | done | exact rfl
       ·(try simp only [aI] at h7)
        refine bf (aO rfl (bf (bK rfl (bf (aZ 29 underlying37 rfl sizeOf4 rfl (bf (dP underlying4 rfl (HD4).get.2 rfl (eY rfl rfl (aA (aj (aQ rfl (fun h9 => ?_) (fun h9 => ?_))))))))))))
        ·(try simp only [aI] at h9)
         refine ay (ah (aV rfl (aA (aj (ay (ah (aO rfl (aA (aj (aQ rfl (fun h10 => ?_) (fun h10 => ?_)))))))))))
         ·(try simp only [aI] at h10)
          refine ah (aV rfl (aA ?_))
          refine rG (()) ?_ ?_ ?_
          ·exact (Sub.wE rfl (by unfold bD.way; simp_all) (Sub.nil _))
          ·exact (Sub.cons rfl (Sub.cons rfl (Sub.cons rfl (Sub.nil _))))
          ·(try dsimp only)
           first | done | exact rfl
         ·(try simp only [aI] at h10)
          refine aS ?_
          refine rG (()) ?_ ?_ ?_
          ·exact (Sub.wE rfl (by unfold bD.way; simp_all) (Sub.nil _))
          ·exact (Sub.cons rfl (Sub.cons rfl (Sub.cons rfl (Sub.nil _))))
          ·(try dsimp only)
           first | done | exact rfl
        ·(try simp only [aI] at h9)
         refine aS ?_
         refine rG (()) ?_ ?_ ?_
         ·exact (Sub.wE rfl (by unfold bD.way; simp_all) (Sub.nil _))
         ·exact (Sub.cons rfl (Sub.cons rfl (Sub.cons rfl (Sub.nil _))))
         ·(try dsimp only)
          first | done | exact rfl
theorem Gu (H : aB w0 w (dw e s • F)) : eG prog 202 #[.pointer (some ⟨e, 0, none⟩), .int .i64 i, .int .i64 j, .bool back] w fun v' w' => v' = .int .i64 (s.JF i j back) ∧ aB w0 w' (dw e (s.qY i j back) • F) := by
 refine fP func202 ntmps202 ?_
 dsimp only [aX, Nat.reduceAdd]
 refine ay (ah (aV rfl (aA (aj (ay (ay (ah (aO rfl (aO rfl (aO rfl (aO rfl (dn rfl func204 (Gt H) ?_))))))))))))
 rintro _ w1 ⟨rfl, H1⟩
 refine aV rfl (aA (aj (ay (ah (aO rfl (aW (dU rfl rfl) (aA (aj (aQ rfl (fun h1 => ?_) (fun h1 => ?_))))))))))
 ·(try simp only [aI] at h1)
  have hc := h1
  refine ay (ah (aO rfl (aV rfl (aA (aj (aJ (aK (aH (.inl rfl) results202 rfl ?_))))))))
  exact ⟨by unfold bD.JF; rw [if_neg hc], by unfold bD.qY; rw [if_neg hc]; have HX := H1; rw [uF hc] at HX; exact HX⟩
 ·(try simp only [aI] at h1)
  have hc := h1
  refine aS (aj (ay (ah (aO rfl (aO rfl (aO rfl (dn rfl func139 (EF H1) ?_)))))))
  rintro _ w2 ⟨rfl, H2⟩
  refine aV rfl (aA (aj (aJ (aH (.inl rfl) results202 rfl ?_))))
  exact ⟨by unfold bD.JF; rw [if_pos hc], by unfold bD.qY; rw [if_pos hc]; exact H2⟩
theorem NK {E : List (List Int)} (h : ∀ x ∈ E, x.length ≤ 1024) (k : Nat) : (E.getD k []).length ≤ 1024 := by
  rw [List.getD_eq_getElem?_getD]
  cases hk : E[k]? with
  | none => simp
  | some x => exact h x (List.mem_of_getElem? hk)
theorem Gv (H : aB w0 w (dw e s • F)) : eG prog 146 #[.pointer (some ⟨e, 0, none⟩)] w fun v' w' => v' = .int .i64 s.vC ∧ aB w0 w' (dw e s.pY • F) := by
 refine fP func146 ntmps146 ?_
 dsimp only [aX, Nat.reduceAdd]
 refine ay (ah (aV rfl (aA (aj (ay (ay (ah (aO rfl (dn rfl func94 (jd H) ?_)))))))))
 rintro _ _ ⟨rfl, rfl⟩
 refine aV rfl (aA (aj (ay (ah (aO rfl (aW (dU rfl rfl) (aA (aj (aQ rfl (fun h1 => ?_) (fun h1 => ?_))))))))))
 ·(try simp only [aI] at h1)
  obtain ⟨hin, hpe⟩ := xq h1
  refine ay (ah (aO rfl (aV rfl (aA (aj (aJ (aK (aH (.inl rfl) results146 rfl ?_))))))))
  rw [hpe]
  exact ⟨by simp [bD.vC, bD.pY, hin], by rw [show s.pY = s from by simp [bD.vC, bD.pY, hin]]; exact H⟩
 ·(try simp only [aI] at h1)
  have hin := ug h1
  refine aS (aj (ay ?_))
  obtain ⟨oW, oZ, pq, pz, pF, pG, pI, pJ, nO, lQ, lS, lT, lU, lV, lW, lX, lY, lZ, mg, mD, dD, bF, fK, dG⟩ := (H).zy
  have hL : s.c.L.length ≤ 1024 ∧ 0 ≤ s.c.pt ∧ s.c.pt ≤ s.c.L.length := by obtain ⟨a, c, xs, f, t, h1, h2, h3, h4, h5, h6, h7, hc1, hc2, hl, H1⟩ := (dG.f2).buf; exact ⟨h4, h6⟩
  have hR := NK (Ib (dG.f3)).2.2 s.c.at_
  have hY : s.vC = if s.c.E.length = 0 then 6 else s.Iy s.top := by unfold bD.vC; rw [if_pos hin]
  refine ah (aO rfl (bK rfl (aZ 0 underlying37 rfl sizeOf32 rfl (aZ 1 underlying32 rfl sizeOf28 rfl (dP underlying28 rfl (dG).get.2 rfl (dn rfl func205 (Ci dG.f3) ?_))))))
  rintro _ w3 ⟨u3, rfl, H3⟩
  refine aO rfl (CW rfl rfl (CW rfl rfl (aV rfl (aV rfl (aA (aj (ay (ay (ah (aO rfl (aW (dU rfl rfl) (aA (aj (aQ rfl (fun h2 => ?_) (fun h2 => ?_)))))))))))))))
  ·(try simp only [aI] at h2)
   have h6 : s.c.E.length = 0 := by by_cases hx : s.c.E.length = 0; exact hx; exact absurd (if_neg hx) h2
   rw [if_pos h6] at hY
   refine ay (ah (aO rfl (aV rfl (aA (aj (aJ (aK (aH (.inl rfl) results146 rfl ?_))))))))
   exact ⟨by rw [hY]; show Value.int _ (if s.c.E.length = 0 then 6 else 0) = _; rw [if_pos h6], by rw [show s.pY = s from by unfold bD.pY; rw [if_neg (by rw [hY]; decide)]]; exact aB.dF dD bF H3.right.f11.f11.f11.f11.f11.f11.f11.f11.f9.f11.f11⟩
  ·(try simp only [aI] at h2)
   have h6 : ¬ s.c.E.length = 0 := fun hx => by rw [if_pos hx] at h2; exact absurd h2 (by decide)
   rw [if_neg h6] at hY
   refine aS (aj (ay (ah (aO rfl (bK rfl (aZ 0 underlying37 rfl sizeOf32 rfl (aZ 0 underlying32 rfl sizeOf27 rfl (dP underlying27 rfl (H3.f3).get.2 rfl (dn rfl func113 (ny H3.f4) ?_)))))))))
   rintro _ _ ⟨rfl, rfl⟩
   refine aV rfl ?_
   have RN := H3.f12.f12.f12.f12.f12.f12.f12.f12.f10.f12.f12
   have RP := aB.dF (s := s) dD bF RN
   refine aA (aj (ay (ay (ah (aO rfl (aO rfl (dn rfl func206 (CG RP (fun W HW => (HW).aT)) ?_)))))))
   rintro _ w8 ⟨rfl, H8⟩
   refine aV rfl (aA (aj (ay (ah (aO rfl (aW (dU rfl rfl) (aA (aj (aQ rfl (fun h3 => ?_) (fun h3 => ?_))))))))))
   ·(try simp only [aI] at h3)
    have hI : s.Iy s.top ≠ 0 := h3
    refine ay (ah (aO rfl (aV rfl (aA (aj (aJ (aK (aH (.inl rfl) results146 rfl ?_))))))))
    exact ⟨by rw [hY]; rfl, by rw [show s.pY = s from by unfold bD.pY; rw [if_neg (by rw [hY]; exact hI)]]; have HX := H8.f2.right; rw [show s.xk (s.c.E.getD s.c.at_ []) = s from KZ hI] at HX; exact HX⟩
   ·(try simp only [aI] at h3)
    have hI : s.Iy s.top = 0 := h3
    obtain ⟨oW, oZ, pq, pz, pF, pG, pI, pJ, nO, lQ, lS, lT, lU, lV, lW, lX, lY, lZ, mg, mD, dD, bF, fK, dG⟩ := (H8).zy
    refine aS (aj (ay (ah (aO rfl (bK rfl (aZ 0 underlying37 rfl sizeOf32 rfl (aZ 0 underlying32 rfl sizeOf27 rfl (dP underlying27 rfl (dG).get.2 rfl (aO rfl (dn rfl func207 (y7 dG.f2) ?_))))))))))
    rintro _ w10 ⟨rfl, ng⟩
    refine aA (aj (ay (ah (aO rfl (aO rfl (bK rfl (aZ 30 underlying37 rfl sizeOf4 rfl (aG (aN 30 (l' := [_, _, _, _, _, _, _, _, _, _, _, _, _, _, _, _, _, _, _, _, _, _, _, _, _, _, _, _, _, _, _, _, _, _]) ng.f2 sizeOf4 rfl rfl (by first | rfl | assumption) rfl rfl) ?_))))))))
    rintro _ Ht wB
    refine bK rfl (aZ 28 underlying37 rfl sizeOf3 rfl (aG (aN 28 (l' := [_, _, _, _, _, _, _, _, _, _, _, _, _, _, _, _, _, _, _, _, _, _, _, _, _, _, _, _, _, _, _, _, _, _]) wB sizeOf3 rfl rfl (by first | rfl | assumption) rfl rfl) ?_))
    rintro _ w12 vM
    refine aA (aj (ay (ah (aO rfl (aO rfl (aO rfl (aO rfl (aO rfl (aW (nX ((vM.f12).aT) underlying22 rfl) (aW (fQ rfl rfl (by omega)) (bK rfl (aZ 0 underlying37 rfl sizeOf32 rfl (aZ 7 underlying32 rfl sizeOf3 rfl (aG (aN 7 (l' := [_, _, _, _, _, _, _, _, _, _, _, _, _, _, _, _, _, _, _, _, _, _, _, _, _, _, _, _, _, _, _, _, _, _]) vM sizeOf3 rfl rfl (by first | rfl | assumption) rfl rfl) ?_))))))))))))))
    rintro _ Me uX
    refine bK rfl (aZ 0 underlying37 rfl sizeOf32 rfl (aZ 8 underlying32 rfl sizeOf3 rfl (aG (aN 8 (l' := [_, _, _, _, _, _, _, _, _, _, _, _, _, _, _, _, _, _, _, _, _, _, _, _, _, _, _, _, _, _, _, _, _, _]) uX sizeOf3 rfl rfl (by first | rfl | assumption) rfl rfl) ?_)))
    rintro _ Ky wM
    refine aA (aj (ay (ah (aV rfl (aA (aj (aJ (aH (.inl rfl) results146 rfl ?_))))))))
    have hs : s.pY = { s.xk s.top with jY := true, cls := 2, c := { (s.xk s.top).c with mark := Tn (s.xk s.top).c.L (s.xk s.top).c.mark s.c.pt, fr := s.c.pt, to := s.c.pt + s.top.length } } := by unfold bD.pY; rw [if_pos (hY.trans hI)]
    exact ⟨by rw [hY, hI], by rw [hs]; exact aB.dF (s := { s.xk s.top with jY := true, cls := 2, c := { (s.xk s.top).c with mark := Tn (s.xk s.top).c.L (s.xk s.top).c.mark s.c.pt, fr := s.c.pt, to := s.c.pt + s.top.length } }) dD bF wM.f12.right.f11.f11.f11.f11.f11.f11.f11.f11.f11.f11.f11⟩
end
end Go.Proofs.YtgndbccogcofjaaGreatDoor
end
section
namespace Go.Proofs.YtgndbccogcofjaaGreatDoor
open Go.RowKit
open _root_.Go.Proofs.Tryz
def um (g : List Int → Int → Int) (l : List Int) : Nat → Int → Int
  | 0, x => x
  | n + 1, x => if g l x = x then x else um g l n (g l x)
def QC (l : List Int) (x : Int) : Int := FD l x
def JV (l : List Int) (x : Int) : Int := Ae l x
def vY (l : List Int) (p n : Int) : Int := if 0 ≤ n then um QC l n.toNat p else um JV l (-n).toNat p
def IW (w0 : World) (fv : Value) (g : List Int → Int → Int) : Prop := fv.oneCell' = true ∧ ∀ (F : HP) (W : World) (v : Value) (l : List Int) (x : Int), aB w0 W F → iD w0 F .i32 v l → Fe prog fv [v, .int .i64 x] W fun u W' => u = .int .i64 (g l x) ∧ aB w0 W' F
theorem La {w0 : World} (hT : wL w0) : IW w0 (.func (.func 129) #[] #[]) QC :=
  ⟨rfl, fun F W v l x H hr => ⟨129, [], [], _, _, rfl, func129, rfl, rfl, D8 H hT hr⟩⟩
theorem Gw {w0 : World} (hT : wL w0) : IW w0 (.func (.func 130) #[] #[]) JV :=
  ⟨rfl, fun F W v l x H hr => ⟨130, [], [], _, _, rfl, func130, rfl, rfl, Af H hT hr⟩⟩
theorem Bo {g : List Int → Int → Int} {l : List Int} {n : Nat} {x : Int} (h : g l x = x) : um g l n x = x := by cases n with
  | zero => rfl
  | succ n => rw [um, if_pos h]
theorem IX {g : List Int → Int → Int} {l : List Int} {n : Nat} {x : Int} (hn : 0 < n) (h : ¬ g l x = x) : um g l n x = um g l (n - 1) (g l x) := by
  obtain ⟨m, rfl⟩ : ∃ m, n = m + 1 := ⟨n - 1, by omega⟩
  rw [um, if_neg h]; rfl
section
variable {w0 w : World} {F : HP} {c e : Nat} {s : bD} {fv lv kv : Value} {l keys : List Int} {p m n nn x : Int} {g back : Bool} {gf : List Int → Int → Int}
theorem yR (H : aB w0 w (dh c (.cells #[.pointer (some ⟨e, 0, none⟩), lv, .int .i64 p, .int .i64 m, .int .i64 nn, .bool g, kv] 79 (0, 0)) • iE 21 .i32 lv l • F)) (hf : IW w0 fv gf) (hn : n ≤ 1000000) :
  eG prog 125 #[.pointer (some ⟨c, 0, none⟩), fv, .int .i64 x, .int .i64 n] w fun v w' => v = .int .i64 (um gf l n.toNat x) ∧ aB w0 w' (dh c (.cells #[.pointer (some ⟨e, 0, none⟩), lv, .int .i64 p, .int .i64 m, .int .i64 nn, .bool g, kv] 79 (0, 0)) • iE 21 .i32 lv l • F) := by
 refine fP func125 ntmps125 ?_
 dsimp only [aX, Nat.reduceAdd]
 refine ay (ah (aV rfl (aA (aj (ay (ay (ah (aO rfl (aO rfl (aA (aj (bg ?_))))))))))))
 refine ig [(0, _), (1, _), (10, _)] (fun (⟨k, y⟩ : Nat × Int) => [(2, .int .i64 y), (11, .int .i64 (k : Int))]) (fun (⟨k, y⟩ : Nat × Int) W => ((k : Int) ≤ max n 0 ∧ um gf l n.toNat x = um gf l (n.toNat - k) y) ∧ aB w0 W (dh c (.cells #[.pointer (some ⟨e, 0, none⟩), lv, .int .i64 p, .int .i64 m, .int .i64 nn, .bool g, kv] 79 (0, 0)) • iE 21 .i32 lv l • F)) (fun (⟨k, y⟩ : Nat × Int) => n.toNat - k) ((0, x)) (Sub.cons rfl (Sub.cons rfl (Sub.cons rfl (Sub.nil _)))) (Sub.cons rfl (Sub.cons rfl (Sub.nil _))) ⟨⟨by omega, rfl⟩, H⟩ ?_
 rintro ⟨k, y⟩ w1 ⟨⟨hk, he⟩, HL⟩
 dsimp only [List.cons_append, List.nil_append]
 refine ay (ah (aW (eU rfl rfl) (aA (aj (ay (aQ rfl (fun h1 => ?_) (fun h1 => ?_)))))))
 ·(try simp only [aI] at h1)
  refine aS (aj (ay (bg (ay (ah (aO rfl (aO rfl (bK rfl (aZ 1 underlying79 rfl sizeOf22 rfl (dP underlying22 rfl (HL).get.2 rfl (aO rfl (jo (qI rfl rfl (hf.2 _ _ _ l y HL (fun W HW => HW.f2.aT))) ?_))))))))))))
  rintro _ w2 ⟨rfl, H2⟩
  refine aV rfl (aA (aj (ay (ay (ah (aO rfl (aO rfl (aW (gI rfl rfl) (aA (aj (aQ rfl (fun h2 => ?_) (fun h2 => ?_))))))))))))
  ·(try simp only [aI] at h2)
   have heq : gf l y = y := h2
   refine fH (aY ?_)
   refine uQ (by decide) ?_
   refine aY (aY (bV (aj (ay (ah (aO rfl (aV rfl (aA (aj (aJ (aH (.inl rfl) results125 rfl ?_)))))))))))
   exact ⟨by rw [he]; first | rw [Bo heq] | (rw [show n.toNat - k = 0 from by omega]; rfl), H2⟩
  ·(try simp only [aI] at h2)
   have hne : ¬ gf l y = y := by have h9 := h2; simpa using h9
   refine aS (aj (ah (aO rfl (aV rfl (aA (aP (aj (ah (aW (fQ rfl rfl (by omega)) (aO rfl (aA ?_)))))))))))
   refine fA ((k + 1, gf l y)) ?_ ?_ ?_ ?_
   ·exact (Sub.cons rfl (Sub.cons rfl (Sub.nil _)))
   ·exact (Sub.cons rfl (Sub.cons rfl (Sub.cons rfl (Sub.nil _))))
   ·(try dsimp only)
    first | done | exact ⟨⟨by omega, by rw [he, IX (by omega) hne]; rfl⟩, H2⟩
   ·(try dsimp only); omega
 ·(try simp only [aI] at h1)
  refine fH (aY (aY (bV (aj (ay (ah (aO rfl (aV rfl (aA (aj (aJ (aH (.inl rfl) results125 rfl ?_))))))))))))
  exact ⟨by rw [he]; first | rw [Bo heq] | (rw [show n.toNat - k = 0 from by omega]; rfl), HL⟩
end
end Go.Proofs.YtgndbccogcofjaaGreatDoor
end
section
namespace Go.Proofs.YtgndbccogcofjaaGreatDoor
open Go.RowKit Go.Lib
section
variable {P : Program} {L : List (Nat × Value)} {w0 w : World} {F : HP} {ty : TypeId} {b : Nat} {v d : Int} {t : TypeId}
theorem Gx {u : Value} (hc : w.cell? ⟨b, 0, none⟩ = some u) (hz : w.frozen? ⟨b, 0, none⟩ = false) : (Extern.Atomic.storeT #[.pointer (some ⟨b, 0, none⟩), .int .i64 d]).run P w = .ok Extern.Atomic.none_ (w.setCell ⟨b, 0, none⟩ (.int .i64 d)) := by
  change Sem.run P (do store (← asAddr (.pointer (some ⟨b, 0, none⟩))) (.int .i64 d) .atomic; pure Extern.Atomic.none_) w = _
  simp [asAddr, run_store _ _ _ _ _ (rfl : (Value.int .i64 d).oneCell' = true), hc, hz, Result.andThen]
theorem Lc {f : FuncId} {args : List Operand} {ts : Array TypeId} {fn : Func} (H : aB w0 w (dh b (.cells #[.int .i64 v] t (0, 0)) • F)) (ha : wu L args = some [.pointer (some ⟨b, 0, none⟩), .int .i64 d])
    (hf : P.funcs[f]? = some fn) (hname : (fn.name == "runtime.NumGoroutine") = false) (hb : fn.body.isNone = true) (hn : Extern.findNext fn = none) (he : Extern.find fn = some Extern.Atomic.storeT) :
    oK P L (.call ⟨.value (.func f), args.toArray, ts⟩) ty w fun u w' => aB w0 w' (dh b (.cells #[.int .i64 d] t (0, 0)) • F) :=
  NC ha hf hname hb hn he (Gx (fC H.get.2 rfl) (sW H.get.2)) (H.setCell (i := 0) _)
theorem Bq (H : aB w0 w (dh b (.cells #[.int .i64 v] t (0, 0)) • F)) : eG Tryz.prog 47 #[.pointer (some ⟨b, 0, none⟩), .int .i64 d] w fun u w' => aB w0 w' (dh b (.cells #[.int .i64 d] t (0, 0)) • F) := by
 refine fP Tryz.func47 Tryz.ntmps47 ?_
 dsimp only [aX, Nat.reduceAdd]
 refine ah (aO rfl (bK rfl (aZ 0 Tryz.underlying106 rfl Tryz.sizeOf2 rfl (aO rfl (jo (Lc H rfl Tryz.func119 rfl rfl (by kernel_rfl) (by kernel_rfl)) ?_)))))
 rintro _ w1 H1
 refine aA (fF (.inr rfl) Tryz.results47 ?_)
 exact H1
end
end Go.Proofs.YtgndbccogcofjaaGreatDoor
end
