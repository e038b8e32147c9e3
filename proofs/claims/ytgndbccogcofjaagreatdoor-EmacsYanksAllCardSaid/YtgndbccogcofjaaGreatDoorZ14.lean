import Derived.Test.YtgndbccogcofjaaGreatDoorZ2
import Derived.Test.YtgndbccogcofjaaGreatDoorZ13
import Derived.Test.YtgndbccogcofjaaGreatDoorZ6
import Derived.Test.YtgndbccogcofjaaGreatDoorZ7
set_option linter.unusedSimpArgs false
set_option linter.unusedVariables false
/- Texts of mine, joined, their names in short: EdC EdMv EdR EdK EmC Atom2. -/
section
namespace Go.Proofs.YtgndbccogcofjaaGreatDoor
open Go.RowKit
open _root_.Go.Proofs.Tryz
section
variable {w0 w : World} {F : HP} {e p h pr : Nat} {s : bg} {hl : List oQ} {base most m : Int} {v : Value} {l : List Int}
theorem tq (h : s.dP = false) : s.aU = { s with dP := true, was := s.c, cls := 0, killed := false, jX := false, argues := false, whole := true, put := [] } := by unfold bg.aU; rw [if_neg (by simp [h])]
theorem Kq (h : s.dP = true) : s.aU = s := by unfold bg.aU; rw [if_pos h]
theorem LH {G : List (List dX)} {N : List dX} (h : dS G N ≤ 16384) : dS G [] ≤ 16384 := by unfold dS at *; simp at *; omega
theorem Pm (h : jV s) (hi : s.dP = false) : jV s.aU := by
  rw [tq hi]
  obtain ⟨h1, h2, h3, h4, h5, h6⟩ := h
  exact ⟨h1, fun _ => ⟨h1, LH h5, h6⟩, h3, by simp, LH h5, h6⟩
theorem yQ (H : aB w0 w (dw e s • F)) : fO prog 26 #[.pointer (some ⟨e, 0, none⟩)] w fun v w' => v = .int .i64 s.zC ∧ aB w0 w' (dw e s.aU • F) := by
 refine gB func26 ntmps26 ?_
 dsimp only [bf, Nat.reduceAdd]
 refine ay (ah (aV rfl (aA (aj (ay (bC (ay (ah (aN rfl (bZ rfl func32 (kL H) ?_))))))))))
 rintro _ _ ⟨rfl, rfl⟩
 refine aV rfl (aA (aj (nN (ay ?_))))
 obtain ⟨qG, qH, qI, qJ, qK, qL, qM, qN, oU, mZ, ng, ni, ny, nC, nD, nG, nH, nI, nJ, nK, dF, bG, gK, dH⟩ := (H).Bf
 refine ah (aN rfl (bP rfl (bF 16 underlying37 rfl sizeOf4 rfl (dV underlying4 rfl (dH).get.2 rfl (aV rfl (aA (aj (aO rfl (fun h1 => ?_) (fun h1 => ?_)))))))))
 ·(try simp only [aH] at h1)
  try (exfalso; first | contradiction | omega)
  all_goals
   have hin := h1
   refine ay (ah (aV rfl (aA (aj (aJ (aW (aK (aI (.inl rfl) results26 rfl ?_))))))))
   exact ⟨by unfold bg.zC; rw [if_pos hin], by rw [Kq hin]; exact aB.dG dF bG dH.f11.f11.f11.f11.f11.f11.f11.f11.f11.f11.f11⟩
 ·(try simp only [aH] at h1)
  try (exfalso; first | contradiction | omega)
  all_goals
   have hin := h1
   refine aP (aQ (aj (ay (ah (aN rfl (aN rfl (aN rfl (bP rfl (bF 0 underlying37 rfl sizeOf32 rfl (aX (qQ 0 (xs := [_, _, _, _, _, _, _, _, _, _, _]) underlying32 rfl sizeOf32 rfl rfl (dH).get.2 rfl) (bZ rfl func44 (IQ dH.f6.f6.f6.f6.f6) ?_)))))))))))
   rintro _ w3 ⟨qb3, qr3, qw3, qt3, qm3, rfl, H3⟩
   refine bP rfl (bF 16 underlying37 rfl sizeOf4 rfl (aG (aS 16 (l' := [_, _, _, _, _, _, _, _, _, _, _, _, _, _, _, _, _, _, _, _, _, _, _, _, _, _, _, _, _, _, _, _, _, _]) H3.f11 sizeOf4 rfl rfl (by first | rfl | assumption) rfl rfl) ?_))
   rintro _ w4 H4
   refine bP rfl (bF 17 underlying37 rfl sizeOf32 rfl (aG (cZ 17 (l' := [_, _, _, _, _, _, _, _, _, _, _, _, _, _, _, _, _, _, _, _, _, _, _, _, _, _, _, _, _, _, _, _, _, _]) (us := [_, _, _, _, _, _, _, _, _, _, _]) H4 sizeOf32 rfl rfl rfl (aC (by first | rfl | assumption) (aC (by first | rfl | assumption) (aC (by first | rfl | assumption) (aC (by first | rfl | assumption) (aC (by first | rfl | assumption) (aC (by first | rfl | assumption) (aC (by first | rfl | assumption) (aC (by first | rfl | assumption) (aC (by first | rfl | assumption) (aC (by first | rfl | assumption) (aC (by first | rfl | assumption) bV))))))))))) rfl rfl) ?_))
   rintro _ w5 H5
   refine aA (aj (ay (ah (aN rfl (aN rfl (aN rfl (aN rfl (aN rfl (aN rfl (bP rfl (bF 28 underlying37 rfl sizeOf3 rfl (aG (aS 28 (l' := [_, _, _, _, _, _, _, _, _, _, _, _, _, _, _, _, _, _, _, _, _, _, _, _, _, _, _, _, _, _, _, _, _, _]) H5 sizeOf3 rfl rfl (by first | rfl | assumption) rfl rfl) ?_))))))))))))
   rintro _ w6 H6
   refine bP rfl (bF 29 underlying37 rfl sizeOf4 rfl (aG (aS 29 (l' := [_, _, _, _, _, _, _, _, _, _, _, _, _, _, _, _, _, _, _, _, _, _, _, _, _, _, _, _, _, _, _, _, _, _]) H6 sizeOf4 rfl rfl (by first | rfl | assumption) rfl rfl) ?_))
   rintro _ w7 H7
   refine bP rfl (bF 30 underlying37 rfl sizeOf4 rfl (aG (aS 30 (l' := [_, _, _, _, _, _, _, _, _, _, _, _, _, _, _, _, _, _, _, _, _, _, _, _, _, _, _, _, _, _, _, _, _, _]) H7 sizeOf4 rfl rfl (by first | rfl | assumption) rfl rfl) ?_))
   rintro _ w8 H8
   refine bP rfl (bF 31 underlying37 rfl sizeOf4 rfl (aG (aS 31 (l' := [_, _, _, _, _, _, _, _, _, _, _, _, _, _, _, _, _, _, _, _, _, _, _, _, _, _, _, _, _, _, _, _, _, _]) H8 sizeOf4 rfl rfl (by first | rfl | assumption) rfl rfl) ?_))
   rintro _ w9 H9
   refine bP rfl (bF 32 underlying37 rfl sizeOf4 rfl (aG (aS 32 (l' := [_, _, _, _, _, _, _, _, _, _, _, _, _, _, _, _, _, _, _, _, _, _, _, _, _, _, _, _, _, _, _, _, _, _]) H9 sizeOf4 rfl rfl (by first | rfl | assumption) rfl rfl) ?_))
   rintro _ w10 nO
   refine bP rfl (bF 33 underlying37 rfl sizeOf35 rfl (aG (aS 33 (l' := [_, _, _, _, _, _, _, _, _, _, _, _, _, _, _, _, _, _, _, _, _, _, _, _, _, _, _, _, _, _, _, _, _, _]) nO sizeOf35 rfl rfl (by first | rfl | assumption) rfl rfl) ?_))
   rintro _ Hz vk
   refine aA (aj (ay (ah (aV rfl (aA (aj (aJ (aI (.inl rfl) results26 rfl ?_))))))))
   have J8 := vk.f6.f6.f6.f6.f6
   have J9 := aB.Uo (c := s.c) J8
   exact ⟨by unfold bg.zC; rw [if_neg (by simp [hin])], by rw [tq hin]; exact aB.Dv (tq hin ▸ Pm dF hin) rfl J9.f10.right.f10.right.f10.right.f9.f9.f9.f9.f9.f9.f9.f9⟩
end
end Go.Proofs.YtgndbccogcofjaaGreatDoor
end
section
namespace Go.Proofs.YtgndbccogcofjaaGreatDoor
open Go.RowKit
open _root_.Go.Proofs.Tryz
section
variable {w0 w : World} {F : HP} {e p h pr : Nat} {s : bg} {x : Int} {b : Bool}
theorem tu (h : jV s) (L : List Int) (pt mk : Int) : jV (s.iJ L pt mk) := h
theorem Ai (H : aB w0 w (dw e s • F)) : fO prog 42 #[.pointer (some ⟨e, 0, none⟩), .int .i64 x] w fun v w' => v = .int .i64 (s.qx x) ∧ aB w0 w' (dw e (s.kZ x) • F) := by
 refine gB func42 ntmps42 ?_
 dsimp only [bf, Nat.reduceAdd]
 refine ay (ah (aV rfl (aA (aj (ay (ay (ah (aN rfl (bZ rfl func94 (jE H) ?_)))))))))
 rintro _ _ ⟨rfl, rfl⟩
 refine aV rfl (aA (aj (ay (ah (aN rfl (aX (dU rfl rfl) (aA (aj (aO rfl (fun h1 => ?_) (fun h1 => ?_))))))))))
 ·(try simp only [aH] at h1)
  obtain ⟨hin, hpe⟩ := yO h1
  refine ay (ah (aN rfl (aV rfl (aA (aj (aJ (aK (aI (.inl rfl) results42 rfl ?_))))))))
  rw [hpe]
  exact ⟨by simp [bg.qx, bg.kZ, hin], by rw [show s.kZ x = s from by simp [bg.qx, bg.kZ, hin]]; exact H⟩
 ·(try simp only [aH] at h1)
  have hin := vV h1
  refine aP (aj (ay ?_))
  obtain ⟨qG, qH, qI, qJ, qK, qL, qM, qN, oU, mZ, ng, ni, ny, nC, nD, nG, nH, nI, nJ, nK, dF, bG, gK, dH⟩ := (H).Bf
  refine ah (aN rfl (bP rfl (bF 0 underlying37 rfl sizeOf32 rfl (bF 0 underlying32 rfl sizeOf27 rfl (dV underlying27 rfl (dH).get.2 rfl (aN rfl (bZ rfl func111 (FY dH.f2) ?_)))))))
  rintro _ w3 ⟨rfl, H3⟩
  refine aV rfl (aA (aj (aJ (aI (.inl rfl) results42 rfl ?_))))
  exact ⟨by simp [bg.qx, hin], by rw [show s.kZ x = s.iJ s.c.L (QF s.c.L.length s.c.pt x) s.c.mark from by simp [bg.kZ, hin]]; exact aB.dG (tu dF _ _ _) bG H3.f11.f11.f11.f11.f11.f11.f11.f11.f11.f10.f11⟩
theorem Gt (H : aB w0 w (dw e s • F)) : fO prog 28 #[.pointer (some ⟨e, 0, none⟩)] w fun v w' => v = .int .i64 s.count ∧ aB w0 w' (dw e s • F) := by
 refine gB func28 ntmps28 ?_
 dsimp only [bf, Nat.reduceAdd]
 refine ay (ah (aV rfl (aA (aj (ay (bC (ay (ah (aN rfl (bZ rfl func32 (kL H) ?_))))))))))
 rintro _ _ ⟨rfl, rfl⟩
 refine aV rfl (aA (aj (nN (ay ?_))))
 obtain ⟨qG, qH, qI, qJ, qK, qL, qM, qN, oU, mZ, ng, ni, ny, nC, nD, nG, nH, nI, nJ, nK, dF, bG, gK, dH⟩ := (H).Bf
 have harg := dF.2.2.1
 refine ah (aN rfl (bP rfl (bF 13 underlying37 rfl sizeOf4 rfl (dV underlying4 rfl (dH).get.2 rfl (aX (kF rfl) (aV rfl (aA (aj (aO rfl (fun h1 => ?_) (fun h1 => ?_))))))))))
 ·(try simp only [aH] at h1)
  have hg := h1
  refine ay (ah (aV rfl (aA (aj (aJ (aW (aK (aI (.inl rfl) results28 rfl ?_))))))))
  have OC := dH.f11.f11.f11.f11.f11.f11.f11.f11.f11.f11.f11
  have OD := aB.dG (s := s) dF bG OC
  exact ⟨by unfold bg.count; simp only [*]; first | rfl | (split <;> simp_all <;> omega) | simp_all, OD⟩
 ·(try simp only [aH] at h1)
  have hg := h1
  refine aP (aQ (aj (ay (ah (aN rfl (bP rfl (bF 15 underlying37 rfl sizeOf3 rfl (dV underlying3 rfl (dH).get.2 rfl (aV rfl (aA (aj (ay (ay (ah (aN rfl (aX (eu rfl rfl) (aA (aj (aO rfl (fun h2 => ?_) (fun h2 => ?_))))))))))))))))))))
  ·(try simp only [aH] at h2)
   refine ah (aV rfl (aA (aj (ay (ay (ah (aN rfl (bP rfl (bF 14 underlying37 rfl sizeOf4 rfl (dV underlying4 rfl (dH).get.2 rfl (aA (aj (aO rfl (fun h3 => ?_) (fun h3 => ?_))))))))))))))
   ·(try simp only [aH] at h3)
    refine ay (ah (aN rfl (aX (KI rfl (by omega)) (aV rfl (aA (aj (aJ (aK (aI (.inl rfl) results28 rfl ?_)))))))))
    have TW := dH.f11.f11.f11.f11.f11.f11.f11.f11.f11.f11.f11
    have TY := aB.dG (s := s) dF bG TW
    exact ⟨by unfold bg.count; simp only [*]; first | rfl | (split <;> simp_all <;> omega) | simp_all, TY⟩
   ·(try simp only [aH] at h3)
    refine aP (aj (ay (ah (aN rfl (aV rfl (aA (aj (aJ (aI (.inl rfl) results28 rfl ?_)))))))))
    have Uc := dH.f11.f11.f11.f11.f11.f11.f11.f11.f11.f11.f11
    have Ud := aB.dG (s := s) dF bG Uc
    exact ⟨by unfold bg.count; simp only [*]; first | rfl | (split <;> simp_all <;> omega) | simp_all, Ud⟩
  ·(try simp only [aH] at h2)
   refine aP (aj (ay (ay (ah (aN rfl (bP rfl (bF 14 underlying37 rfl sizeOf4 rfl (dV underlying4 rfl (dH).get.2 rfl (aA (aj (aO rfl (fun h4 => ?_) (fun h4 => ?_))))))))))))
   ·(try simp only [aH] at h4)
    refine ay (ah (aN rfl (aX (KI rfl (by omega)) (aV rfl (aA (aj (aJ (aK (aI (.inl rfl) results28 rfl ?_)))))))))
    have Y0 := dH.f11.f11.f11.f11.f11.f11.f11.f11.f11.f11.f11
    have Y1 := aB.dG (s := s) dF bG Y0
    exact ⟨by unfold bg.count; simp only [*]; first | rfl | (split <;> simp_all <;> omega) | simp_all, Y1⟩
   ·(try simp only [aH] at h4)
    refine aP (aj (ay (ah (aN rfl (aV rfl (aA (aj (aJ (aI (.inl rfl) results28 rfl ?_)))))))))
    have Y2 := dH.f11.f11.f11.f11.f11.f11.f11.f11.f11.f11.f11
    have Y3 := aB.dG (s := s) dF bG Y2
    exact ⟨by unfold bg.count; simp only [*]; first | rfl | (split <;> simp_all <;> omega) | simp_all, Y3⟩
theorem Gu (H : aB w0 w (dw e s • F)) : fO prog 29 #[.pointer (some ⟨e, 0, none⟩)] w fun v w' => v = .bool s.given ∧ aB w0 w' (dw e s • F) := by
 refine gB func29 ntmps29 ?_
 dsimp only [bf, Nat.reduceAdd]
 refine ay (ah (aV rfl (aA (aj (ay (ah (aN rfl (bZ rfl func32 (kL H) ?_))))))))
 rintro _ _ ⟨rfl, rfl⟩
 refine aX (kF rfl) ?_
 obtain ⟨qG, qH, qI, qJ, qK, qL, qM, qN, oU, mZ, ng, ni, ny, nC, nD, nG, nH, nI, nJ, nK, dF, bG, gK, dH⟩ := (H).Bf
 refine fK rfl (fun h1 => ?_) (fun h => by exfalso; (try simp only [aH] at h); simp at h)
 (try simp only [aH] at h1)
 refine aZ (aN rfl (aZ (bP rfl (aZ (bF 13 underlying37 rfl sizeOf4 rfl (aZ (dV underlying4 rfl (dH).get.2 rfl (fG rfl rfl (aV rfl (aA (aj (aJ (aI (.inl rfl) results29 rfl ?_)))))))))))))
 have OC := dH.f11.f11.f11.f11.f11.f11.f11.f11.f11.f11.f11
 have OD := aB.dG (s := s) dF bG OC
 exact ⟨rfl, OD⟩
theorem dW (H : aB w0 w (dw e s • F)) : fO prog 21 #[.pointer (some ⟨e, 0, none⟩)] w fun v w' => ∃ u, v = .agg (pR u s.c.pt s.c.mark) ∧ aB w0 w' (iU 21 .i32 u s.c.L • dw e s • F) := by
 refine gB func21 ntmps21 ?_
 dsimp only [bf, Nat.reduceAdd]
 refine ay (ah (jh (gJ (l := [_, _, _]) H zeroValue53 rfl) ?_))
 rintro _ w1 ⟨b1, rfl, H1⟩
 refine aA (aj (ay (ay (ah (aN rfl (bZ rfl func32 (kL H1.f2) ?_))))))
 rintro _ _ ⟨rfl, rfl⟩
 refine aA (aj (nN (aP (aj (ay ?_)))))
 obtain ⟨qG, qH, qI, qJ, qK, qL, qM, qN, oU, mZ, ng, ni, ny, nC, nD, nG, nH, nI, nJ, nK, dF, bG, gK, dH⟩ := (H1.f2).Bf
 refine ah (aN rfl (bP rfl (bF 0 underlying37 rfl sizeOf32 rfl (bF 0 underlying32 rfl sizeOf27 rfl (dV underlying27 rfl (dH).get.2 rfl (bZ rfl func43 (FZ dH.f2) ?_))))))
 rintro _ w4 ⟨u4, rfl, H4⟩
 refine aG (cZ 0 (l' := [_, _, _]) (us := [_, _, _]) H4.f13 sizeOf53 rfl rfl rfl (aC (by first | rfl | exact Rd.one ((H4).aT)) (aC (by first | rfl | assumption) (aC (by first | rfl | assumption) bV))) rfl rfl) ?_
 rintro _ w5 H5
 refine aA (aj (aJ ?_))
 refine tK (.inl rfl) (Ob results21 rfl underlying53 rfl (by rw [show (prog.info? 53).map (·.size) = some 3 from by kernel_rfl]; rfl) (H5).get.2) ?_
 have TW := H5.f13.f13.f13.f13.f13.f13.f13.f13.f13.f12.f13
 have TY := aB.dG (s := s) dF bG TW
 exact ⟨_, rfl, TY.f2.right.f2⟩
end
end Go.Proofs.YtgndbccogcofjaaGreatDoor
end
section
namespace Go.Proofs.YtgndbccogcofjaaGreatDoor
open Go.RowKit
open _root_.Go.Proofs.Tryz
theorem og {L : List Int} {i j : Int} {l : List Int} (h : iY L i j l ≠ 0) : jB L i j l = [] ∧ jC L i j l = [] := by unfold jB jC; rw [if_neg h, if_neg h]; exact ⟨rfl, rfl⟩
theorem Rh {L : List Int} {i j : Int} {l : List Int} (hL : L.length ≤ 1024) (h : 0 < (jB L i j l).length + (jC L i j l).length) : uD (nP L i j l, jB L i j l, jC L i j l) := by
  by_cases h0 : iY L i j l = 0
  · refine ⟨?_, h, ?_, ?_⟩
    · show 0 ≤ nP L i j l
      unfold nP; rw [if_pos h0]
      unfold iY at h0
      split at h0
      · cases h0
      · omega
    · show (jB L i j l).length ≤ 1024
      unfold jB; rw [if_pos h0]
      simp only [List.length_take, List.length_drop]; omega
    · show (jC L i j l).length ≤ 1024
      unfold jC; rw [if_pos h0]
      unfold iY at h0
      split at h0
      · cases h0
      · split at h0
        · cases h0
        · omega
  · rw [(og h0).1, (og h0).2] at h
    simp at h
theorem Pn {L : List Int} {i j : Int} {l : List Int} (hL : L.length ≤ 1024) : (jB L i j l).length ≤ 1024 ∧ (jC L i j l).length ≤ 1024 := by
  by_cases h0 : iY L i j l = 0
  · refine ⟨?_, ?_⟩
    · unfold jB; rw [if_pos h0]
      simp only [List.length_take, List.length_drop]; omega
    · unfold jC; rw [if_pos h0]
      unfold iY at h0
      split at h0
      · cases h0
      · split at h0
        · cases h0
        · omega
  · rw [(og h0).1, (og h0).2]; simp
theorem yR {s : bg} {x : dX} (h : x.2.1.length + x.2.2.length = 0) : s.lD x = s := by unfold bg.lD; rw [if_pos h]
theorem zF {s : bg} {x : dX} (h : 0 < x.2.1.length + x.2.2.length) (k : ¬ 16384 ≤ dS s.here s.put) : s.lD x = { s with put := s.put ++ [x] } := by unfold bg.lD; rw [if_neg (by omega), if_neg k]
theorem zG {s : bg} {x : dX} (h : 0 < x.2.1.length + x.2.2.length) (k : 16384 ≤ dS s.here s.put) : s.lD x = { s.jU [] with put := [x], c := { (s.jU []).c with run := false } } := by unfold bg.lD; rw [if_neg (by omega), if_pos k]
theorem oh (G : List (List dX)) (N : List dX) : dS G N = dS G [] + N.length := by unfold dS; simp
theorem LJ {s : bg} {x : dX} (h : jV s) (hx : 0 < x.2.1.length + x.2.2.length → uD x) : jV (s.lD x) := by
  by_cases h0 : x.2.1.length + x.2.2.length = 0
  · rw [yR h0]; exact h
  · have hx' := hx (by omega)
    obtain ⟨h1, h2, h3, h4, h5, h6⟩ := h
    by_cases hf : 16384 ≤ dS s.here s.put
    · rw [zG (by omega) hf]
      refine ⟨h1, h2, h3, fun e he => by rw [List.mem_singleton.1 he]; exact hx', ?_, ?_⟩
      · show dS (wS s.c.un s.c.place [] s.c.place) [x] ≤ 16384
        rw [fD]; simp [dS]
      · intro k g hg
        have hg' : g ∈ wS s.c.un s.c.place [] k := hg
        by_cases hk : k = s.c.place
        · subst hk; rw [fD] at hg'; cases hg'
        · rw [sS _ _ hk] at hg'; exact h6 k g hg'
    · rw [zF (by omega) hf]
      refine ⟨h1, h2, h3, fun e he => ?_, ?_, h6⟩
      · rcases List.mem_append.1 he with he | he
        · exact h4 e he
        · rw [List.mem_singleton.1 he]; exact hx'
      · show dS s.here (s.put ++ [x]) ≤ 16384
        rw [Gf]; omega
section
variable {w0 w : World} {F : HP} {e p h pr : Nat} {s : bg} {i j x : Int} {b : Bool} {v : Value} {l : List Int}
theorem vX (H : aB w0 w (dw e s • F)) (hr : gW w0 F .i32 v l) : fO prog 127 #[.pointer (some ⟨e, 0, none⟩), .int .i64 i, .int .i64 j, v] w fun v' w' => v' = .int .i64 (s.jY i j l) ∧ aB w0 w' (dw e (s.jf i j l) • F) := by
 refine gB func127 ntmps127 ?_
 dsimp only [bf, Nat.reduceAdd]
 refine ay (ah (aV rfl (aA (aj (ay (ay (ah (aN rfl (bZ rfl func94 (jE H) ?_)))))))))
 rintro _ _ ⟨rfl, rfl⟩
 refine aV rfl (aA (aj (ay (ah (aN rfl (aX (dU rfl rfl) (aA (aj (aO rfl (fun h1 => ?_) (fun h1 => ?_))))))))))
 ·(try simp only [aH] at h1)
  obtain ⟨hin, hpe⟩ := yO h1
  refine ay (ah (aN rfl (aV rfl (aA (aj (aJ (aK (aI (.inl rfl) results127 rfl ?_))))))))
  rw [hpe]
  exact ⟨by simp [bg.jY, bg.jf, hin], by rw [show s.jf i j l = s from by simp [bg.jY, bg.jf, hin]]; exact H⟩
 ·(try simp only [aH] at h1)
  have hin := vV h1
  refine aP (aj (ay ?_))
  obtain ⟨qG, qH, qI, qJ, qK, qL, qM, qN, oU, mZ, ng, ni, ny, nC, nD, nG, nH, nI, nJ, nK, dF, bG, gK, dH⟩ := (H).Bf
  have hL : s.c.L.length ≤ 1024 := by obtain ⟨a, c, xs, f, t, h1, h2, h3, h4, h5, h6, h7, hc1, hc2, hl, H1⟩ := (dH.f2).buf; exact h4
  have hE : s.jY i j l = iY s.c.L i j l := by unfold bg.jY; rw [if_pos hin]
  have hS : s.jf i j l = (s.iJ (kW s.c.L i j l) (kX s.c.L s.c.pt i j l) (mG s.c.L s.c.mark i j l)).lD (nP s.c.L i j l, jB s.c.L i j l, jC s.c.L i j l) := by unfold bg.jf; rw [if_pos hin]
  have hln := Pn (i := i) (j := j) (l := l) hL
  have hput : dS s.here s.put ≤ 16384 := dF.2.2.2.2.1
  have hsp : dS s.here s.put = dS (s.c.un s.c.place) [] + s.put.length := oh _ _
  have hok := Rh (i := i) (j := j) (l := l) hL
  have hno := og (L := s.c.L) (i := i) (j := j) (l := l)
  refine ah (aN rfl (bP rfl (bF 0 underlying37 rfl sizeOf32 rfl (bF 0 underlying32 rfl sizeOf27 rfl (dV underlying27 rfl (dH).get.2 rfl (aN rfl (aN rfl (aN rfl (bZ rfl func193 (Az dH.f2 (fun W HW => hr _ (HW.right.right.right.right.right.right.right.right.right.right))) ?_)))))))))
  rintro _ w3 ⟨d3, s3, rfl, H3⟩
  refine aN rfl (AZ rfl rfl (AZ rfl rfl (jh (gJ (l := [_, _, _]) H3 zeroValue101 rfl) ?_)))
  rintro _ w4 ⟨b4, rfl, H4⟩
  refine aG (cZ 0 (l' := [_, _, _]) (us := [_, _, _]) H4 sizeOf101 rfl rfl rfl (aC (by first | rfl | assumption) (aC (by first | rfl | exact Rd.one ((H4.f2).aT)) (aC (by first | rfl | exact Rd.one ((H4.f3).aT)) bV))) rfl rfl) ?_
  rintro _ w5 H5
  refine aV rfl (aA (aj (ay (ay (ah (aN rfl (aX (dO rfl rfl) (fK rfl (fun h2 => ?_) (fun h2 => ?_)))))))))
  ·(try simp only [aH] at h2)
   refine aZ (bF 1 underlying101 rfl sizeOf22 rfl (aZ (dV underlying22 rfl (H5).get.2 rfl (aZ (aX (jr ((H5.f2).aT) underlying22 rfl) (aZ (bF 2 underlying101 rfl sizeOf22 rfl (aZ (dV underlying22 rfl (H5).get.2 rfl (aZ (aX (jr ((H5.f3).aT) underlying22 rfl) (aZ (aX (gy rfl rfl (by omega)) (aZ (aX (dn rfl rfl) (fG rfl rfl (aA (aj (aO rfl (fun h3 => ?_) (fun h3 => ?_))))))))))))))))))))
   ·(try simp only [aH] at h3)
    have hlen : 0 < (jB s.c.L i j l).length + (jC s.c.L i j l).length := by omega
    refine ay (ay ?_)
    have Us := H5.drew
    have Dx := aB.kp (Us.f9.right.f13.f13.f13.f13.f13.f13.f13.f13.f13.f13.f13.f13.f13)
    refine yZ [6] Dx rfl (iF 0 rfl Dx rfl (iF 3 rfl Dx rfl (jQ 4 rfl Dx rfl (gV 5 rfl Dx 33 underlying37 rfl sizeOf35 rfl (jk 6 rfl Dx (fun W hW => jP underlying35 rfl ((Kp.h hW).f5).get.2 rfl) (jg 7 rfl Dx (fun _ => iM ((Us.f12).aT) underlying35 rfl) (kE 1 rfl (wW rfl func160 (vW Us.f9.f8.f7)) ?_)))))))
    rintro _ w6 ⟨lp6, rfl, H6⟩
    have IU := aB.kp (H6.right.f14.f14.f14.f14.f14.f14.f14.f14.f14.f14.f14.f14.f14.f14)
    refine dQ IU (fun W hW => (Kp.h hW).right.f13.f13.f13.f13.f13.f13.f8.f13.f9.f13.f13.f13.f13) ?_
    refine kE 2 rfl (wW rfl func194 (CW H6)) ?_
    rintro _ w7 ⟨rfl, H7⟩
    have zy := aB.kp (H7.f15.f15.f15.f15.f15.f15.f15.f15.f15.f15.f15.f15.f15.f15.f15)
    refine dQ zy (fun W hW => (Kp.h hW).right.f14.f14.f14.f14.f14.f14.f14.f14.f14.f14.f14.f14.f14.f14) ?_
    refine jg 8 rfl zy (fun _ => gy rfl rfl (by omega)) (jg 9 rfl zy (fun _ => jS rfl rfl) ?_)
    have Ho8 := H7.f2
    have Hc9 := aB.Gs Ho8
    refine pO (aj (aO rfl (fun h4 => ?_) (fun h4 => ?_)))
    ·(try simp only [aH] at h4)
     have IW : 16384 ≤ dS (s.iJ (kW s.c.L i j l) (kX s.c.L s.c.pt i j l) (mG s.c.L s.c.mark i j l)).here (s.iJ (kW s.c.L i j l) (kX s.c.L s.c.pt i j l) (mG s.c.L s.c.mark i j l)).put := by show 16384 ≤ dS s.here s.put; omega
     refine ay (ah (aN rfl (bZ rfl func160 (vW Hc9.f3.f3) ?_)))
     rintro _ w10 ⟨aaD, rfl, nO⟩
     refine bZ rfl func195 (Dh nO) ?_
     rintro _ Hz vk
     have J8 := vk.f2
     have J9 := aB.sZ J8
     refine aA (aj (ah (aN rfl (aN rfl (bP rfl (bF 33 underlying37 rfl sizeOf35 rfl (aG (aS 33 (l' := [_, _, _, _, _, _, _, _, _, _, _, _, _, _, _, _, _, _, _, _, _, _, _, _, _, _, _, _, _, _, _, _, _, _]) J9.f2 sizeOf35 rfl rfl (by first | rfl | assumption) rfl rfl) ?_)))))))
     rintro _ Jw xE
     refine bP rfl (bF 0 underlying37 rfl sizeOf32 rfl (bF 10 underlying32 rfl sizeOf4 rfl (aG (aS 10 (l' := [_, _, _, _, _, _, _, _, _, _, _, _, _, _, _, _, _, _, _, _, _, _, _, _, _, _, _, _, _, _, _, _, _, _]) xE sizeOf4 rfl rfl (by first | rfl | assumption) rfl rfl) ?_)))
     rintro _ MO uf
     refine aA (aj ?_)
     have SK := uf.drew
     have xP := aB.kp (SK.f14.f14.f14.f14.f14.f14.f14.f14.f14.f14.f14.f14.f14.f14)
     refine yZ [4, 5] xP rfl (iF 0 rfl xP rfl (iF 1 rfl xP rfl (jQ 2 rfl xP rfl (gV 3 rfl xP 33 underlying37 rfl sizeOf35 rfl (jk 4 rfl xP (fun W hW => jP underlying35 rfl ((Kp.h hW)).get.2 rfl) (jk 5 rfl xP (fun W hW => bW underlying101 rfl sizeOf101 rfl rfl ((Kp.h hW).f4).get.2) (kE 6 rfl (pU SK underlying35 sizeOf101 zeroValue101 rfl rfl rfl (by decide) (by decide)) ?_)))))))
     rintro X7 w16 rZ
     have IC := aB.kp (rZ.f15.f15.f15.f15.f15.f15.f15.f15.f15.f15.f15.f15.f15.f15.f15)
     refine dQ IC (fun W hW => (Kp.h hW).right.f14.f14.f14.f14.f14.f14.f14.f14.f14.f14.f14.f14.f14.f14) ?_
     refine kE 7 rfl (iC (rZ.jo none) underlying35 (show (prog.info? 101).map (fun i => (i.zero, i.size, i.bytes)) = some (some (.agg #[.int .i64 0, .slice none 0 0, .slice none 0 0]), 3, 56) by kernel_rfl) rfl rfl rfl ((rZ).aT) (aC (by first | rfl | assumption) (aC (by first | rfl | exact Rd.one ((rZ.f6).aT)) (aC (by first | rfl | exact Rd.one ((rZ.f7).aT)) bV))) (by omega) (by omega)) ?_
     rintro l17 RX Ac
     have Po := Ac.f2.right
     have Ir := aB.kp (Po.f15.f15.f15.f15.f15.f15.f15.f15.f15.f15.f15.f15.f15.f15.f15)
     refine fQ Ir (by kernel_rfl) ?_
     refine jQ 8 rfl Ir rfl (gV 9 rfl Ir 33 underlying37 rfl sizeOf35 rfl ?_)
     refine fU 10 rfl (by kernel_rfl) (aS 33 (l' := [_, _, _, _, _, _, _, _, _, _, _, _, _, _, _, _, _, _, _, _, _, _, _, _, _, _, _, _, _, _, _, _, _, _]) Po.f2 sizeOf35 rfl rfl (by first | rfl | exact Rd.one ((Po).aT)) rfl rfl) ?_
     rintro _ Qe Au
     have O6 := aB.kp (Au.f15.f15.f15.f15.f15.f15.f15.f15.f15.f15.f15.f15.f15.f15.f15)
     refine fQ O6 (by kernel_rfl) ?_
     refine pO (aj (ay (ah (aN rfl (aV rfl (aA (aj (aJ (aI (.inl rfl) results127 rfl ?_)))))))))
     have X := (Au.f5.right.f12.right.f12.right.f12.f12.f12.f6.f12.f8.f12.f12.f9.f10.f12.f12).jG.swap.jG.swap
     have X2 := aB.sK (es := []) X.CQ.f3.f3.f4
     exact ⟨by rw [hE]; rfl, by rw [hS, zG (x := (nP s.c.L i j l, jB s.c.L i j l, jC s.c.L i j l)) hlen IW]; exact aB.Pj (s := { (s.iJ (kW s.c.L i j l) (kX s.c.L s.c.pt i j l) (mG s.c.L s.c.mark i j l)).jU [] with put := [(nP s.c.L i j l, jB s.c.L i j l, jC s.c.L i j l)], c := { ((s.iJ (kW s.c.L i j l) (kX s.c.L s.c.pt i j l) (mG s.c.L s.c.mark i j l)).jU []).c with run := false } }) (zG (x := (nP s.c.L i j l, jB s.c.L i j l, jC s.c.L i j l)) hlen IW ▸ LJ (tu dF _ _ _) hok) rfl X2⟩
    ·(try simp only [aH] at h4)
     have IW : ¬ 16384 ≤ dS (s.iJ (kW s.c.L i j l) (kX s.c.L s.c.pt i j l) (mG s.c.L s.c.mark i j l)).here (s.iJ (kW s.c.L i j l) (kX s.c.L s.c.pt i j l) (mG s.c.L s.c.mark i j l)).put := by show ¬ 16384 ≤ dS s.here s.put; omega
     refine aP (aj ?_)
     have EY := Hc9.drew
     have lN := aB.kp (EY.f14.f14.f14.f14.f14.f14.f14.f14.f14.f14.f14.f14.f14.f14)
     refine yZ [4, 5] lN rfl (iF 0 rfl lN rfl (iF 1 rfl lN rfl (jQ 2 rfl lN rfl (gV 3 rfl lN 33 underlying37 rfl sizeOf35 rfl (jk 4 rfl lN (fun W hW => jP underlying35 rfl ((Kp.h hW).f2).get.2 rfl) (jk 5 rfl lN (fun W hW => bW underlying101 rfl sizeOf101 rfl rfl ((Kp.h hW).f4).get.2) (kE 6 rfl (pU EY underlying35 sizeOf101 zeroValue101 rfl rfl rfl (by decide) (by decide)) ?_)))))))
     rintro Xm Qd uZ
     have Ag := aB.kp (uZ.f15.f15.f15.f15.f15.f15.f15.f15.f15.f15.f15.f15.f15.f15.f15)
     refine dQ Ag (fun W hW => (Kp.h hW).right.f14.f14.f14.f14.f14.f14.f14.f14.f14.f14.f14.f14.f14.f14) ?_
     refine kE 7 rfl (iC uZ.f13 underlying35 (show (prog.info? 101).map (fun i => (i.zero, i.size, i.bytes)) = some (some (.agg #[.int .i64 0, .slice none 0 0, .slice none 0 0]), 3, 56) by kernel_rfl) rfl rfl rfl ((uZ).aT) (aC (by first | rfl | assumption) (aC (by first | rfl | exact Rd.one ((uZ.f6).aT)) (aC (by first | rfl | exact Rd.one ((uZ.f7).aT)) bV))) (by omega) (by omega)) ?_
     rintro l21 QC oN
     have Gq := oN.f2.right
     have Dq := aB.kp (Gq.f14.f14.f14.f14.f14.f14.f14.f14.f14.f14.f14.f14.f14.f14)
     refine fQ Dq (by kernel_rfl) ?_
     refine jQ 8 rfl Dq rfl (gV 9 rfl Dq 33 underlying37 rfl sizeOf35 rfl ?_)
     refine fU 10 rfl (by kernel_rfl) (aS 33 (l' := [_, _, _, _, _, _, _, _, _, _, _, _, _, _, _, _, _, _, _, _, _, _, _, _, _, _, _, _, _, _, _, _, _, _]) Gq.f3 sizeOf35 rfl rfl (by first | rfl | exact Rd.one ((Gq).aT)) rfl rfl) ?_
     rintro _ Qg yc
     have ET := aB.kp (yc.f14.f14.f14.f14.f14.f14.f14.f14.f14.f14.f14.f14.f14.f14)
     refine fQ ET (by kernel_rfl) ?_
     refine pO (aj (ay (ah (aN rfl (aV rfl (aA (aj (aJ (aI (.inl rfl) results127 rfl ?_)))))))))
     have X := (yc.f5.right.f13.f12.f12.f6.f12.f8.f12.f12.f9.f13.f11.f13.f13).jG.swap.jG.swap
     rw [← gK] at X
     have X2 := aB.sK X.f3
     exact ⟨by rw [hE]; rfl, by rw [hS, zF (x := (nP s.c.L i j l, jB s.c.L i j l, jC s.c.L i j l)) hlen IW]; exact aB.Pj (s := { s.iJ (kW s.c.L i j l) (kX s.c.L s.c.pt i j l) (mG s.c.L s.c.mark i j l) with put := s.put ++ [(nP s.c.L i j l, jB s.c.L i j l, jC s.c.L i j l)] }) (zF (x := (nP s.c.L i j l, jB s.c.L i j l, jC s.c.L i j l)) hlen IW ▸ LJ (tu dF _ _ _) hok) (by rw [List.map_append, bG]; rfl) X2⟩
   ·(try simp only [aH] at h3)
    have hlen : (jB s.c.L i j l).length + (jC s.c.L i j l).length = 0 := by omega
    refine aP (aj (ay (ah (aN rfl (aV rfl (aA (aj (aJ (aI (.inl rfl) results127 rfl ?_)))))))))
    exact ⟨by rw [hE]; rfl, by rw [hS, yR (x := (nP s.c.L i j l, jB s.c.L i j l, jC s.c.L i j l)) hlen]; exact aB.dG (s := s.iJ (kW s.c.L i j l) (kX s.c.L s.c.pt i j l) (mG s.c.L s.c.mark i j l)) (tu dF _ _ _) bG H5.right.right.right.f11.f11.f11.f11.f11.f11.f11.f11.f11.f10.f11⟩
  ·(try simp only [aH] at h2)
   have hlen : (jB s.c.L i j l).length + (jC s.c.L i j l).length = 0 := by rw [(hno h2).1, (hno h2).2]; rfl
   refine bD (bD (bD (bD (bD (bD (bD (bD (eG rfl rfl (aA (aj (nN (aP (aj (ay (ah (aN rfl (aV rfl (aA (aj (aJ (aI (.inl rfl) results127 rfl ?_)))))))))))))))))))))
   exact ⟨by rw [hE]; rfl, by rw [hS, yR (x := (nP s.c.L i j l, jB s.c.L i j l, jC s.c.L i j l)) hlen]; exact aB.dG (s := s.iJ (kW s.c.L i j l) (kX s.c.L s.c.pt i j l) (mG s.c.L s.c.mark i j l)) (tu dF _ _ _) bG H5.right.right.right.f11.f11.f11.f11.f11.f11.f11.f11.f11.f10.f11⟩
theorem Ej (H : aB w0 w (dw e s • F)) (hr : gW w0 F .i32 v l) : fO prog 206 #[.pointer (some ⟨e, 0, none⟩), v] w fun v' w' => v' = .int .i64 (s.IE l) ∧ aB w0 w' (dw e (s.qp l) • F) := by
 refine gB func206 ntmps206 ?_
 dsimp only [bf, Nat.reduceAdd]
 refine ay (ah (aV rfl (aA (aj (ay (ay (ah (aN rfl (bZ rfl func94 (jE H) ?_)))))))))
 rintro _ _ ⟨rfl, rfl⟩
 refine aV rfl (aA (aj (ay (ah (aN rfl (aX (dU rfl rfl) (aA (aj (aO rfl (fun h1 => ?_) (fun h1 => ?_))))))))))
 ·(try simp only [aH] at h1)
  obtain ⟨hin, hpe⟩ := yO h1
  refine ay (ah (aN rfl (aV rfl (aA (aj (aJ (aK (aI (.inl rfl) results206 rfl ?_))))))))
  rw [hpe]
  exact ⟨by simp [bg.IE, bg.qp, bg.jY, bg.jf, hin], by rw [show s.qp l = s from by simp [bg.IE, bg.qp, bg.jY, bg.jf, hin]]; exact H⟩
 ·(try simp only [aH] at h1)
  have hin := vV h1
  refine aP (aj (ay ?_))
  obtain ⟨qG, qH, qI, qJ, qK, qL, qM, qN, oU, mZ, ng, ni, ny, nC, nD, nG, nH, nI, nJ, nK, dF, bG, gK, dH⟩ := (H).Bf
  have Nq := dH.drew
  have tC := aB.kp (Nq.f11.f11.f11.f11.f11.f11.f11.f11.f11.f11.f11)
  refine yZ [5, 11] tC rfl (iF 0 rfl tC rfl (iF 1 rfl tC rfl (jQ 2 rfl tC rfl (gV 3 rfl tC 0 underlying37 rfl sizeOf32 rfl (gV 4 rfl tC 0 underlying32 rfl sizeOf27 rfl (jk 5 rfl tC (fun W hW => jP underlying27 rfl ((Kp.h hW)).get.2 rfl) (iF 7 rfl tC rfl (jQ 8 rfl tC rfl (gV 9 rfl tC 0 underlying37 rfl sizeOf32 rfl (gV 10 rfl tC 0 underlying32 rfl sizeOf27 rfl (jk 11 rfl tC (fun W hW => jP underlying27 rfl ((Kp.h hW)).get.2 rfl) (iF 13 rfl tC rfl (kE 6 rfl (wW rfl func113 (oD Nq.f2)) ?_)))))))))))))
  rintro _ _ ⟨rfl, rfl⟩
  have Ef := aB.kp (Nq.f11.f11.f11.f11.f11.f11.f11.f11.f11.f11.f11)
  refine dQ Ef (fun W hW => (Kp.h hW).f11.f11.f11.f11.f11.f11.f11.f11.f11.f11.f11) ?_
  refine kE 12 rfl (wW rfl func113 (oD Nq.f2)) ?_
  rintro _ _ ⟨rfl, rfl⟩
  have wR := aB.kp (Nq.f11.f11.f11.f11.f11.f11.f11.f11.f11.f11.f11)
  refine fQ wR (by kernel_rfl) ?_
  have Ug := Nq.f11.f11.f11.f11.f11.f11.f11.f11.f11.f11.f11
  have Uh := aB.dG (s := s) dF bG Ug
  refine kE 14 rfl (wW rfl func127 (vX Uh (fun W HW => hr _ (HW)))) ?_
  rintro _ w8 ⟨rfl, H8⟩
  have MZ := aB.kp (H8)
  refine fQ MZ (by kernel_rfl) ?_
  refine jg 15 rfl MZ (fun _ => gG rfl) (pO (aj (aJ (aI (.inl rfl) results206 rfl ?_))))
  exact ⟨rfl, H8⟩
theorem Gv (H : aB w0 w (dw e s • F)) : fO prog 139 #[.pointer (some ⟨e, 0, none⟩), .int .i64 i, .int .i64 j] w fun v' w' => v' = .int .i64 (s.jY i j []) ∧ aB w0 w' (dw e (s.jf i j []) • F) := by
 refine gB func139 ntmps139 ?_
 dsimp only [bf, Nat.reduceAdd]
 refine ay (ah (aV rfl (aA (aj (ay (ah (aN rfl (aN rfl (aN rfl (bZ rfl func127 (vX H (fun W _ => kD.nil W _ none 0 (by decide))) ?_))))))))))
 rintro _ w1 ⟨rfl, H1⟩
 refine aV rfl (aA (aj (aJ (aI (.inl rfl) results139 rfl ?_))))
 exact ⟨rfl, H1⟩
end
end Go.Proofs.YtgndbccogcofjaaGreatDoor
end
section
namespace Go.Proofs.YtgndbccogcofjaaGreatDoor
open Go.RowKit
open _root_.Go.Proofs.Tryz
theorem Nr {E : List (List Int)} {a : Nat} {way : Int} {l : List Int} (h : (vN E a way l).1 ≠ 0) : (vN E a way l).2 = (E, a) := by
  unfold vN at *
  repeat' split at h
  all_goals first | (simp at h; done) | skip
  all_goals (repeat' (first | rw [if_pos (by assumption)] | rw [if_neg (by assumption)])) <;> rfl
theorem Ns {s : bg} {i j : Int} {back : Bool} (h : (s.ku i j back).1 ≠ 0) : (s.ku i j back).2 = (s.c.E, s.c.at_) := Nr h
theorem IX (s : bg) : s.iJ s.c.L s.c.pt s.c.mark = s := rfl
theorem Nu {s : bg} {i j : Int} {l : List Int} (h : s.jY i j l ≠ 0) : s.jf i j l = s := by
  unfold bg.jf bg.jY at *
  split
  · rename_i hin
    rw [if_pos hin] at h
    rw [yR (by rw [(og h).1, (og h).2]; rfl)]
    unfold kW kX mG
    rw [if_neg h, if_neg h, if_neg h]
    exact IX s
  · rfl
theorem wK {s : bg} {i j : Int} {back : Bool} (h : s.kK i j back ≠ 0) : s.kC i j back = s := by unfold bg.kC; rw [if_neg h]
section
variable {w0 w : World} {F : HP} {e p h pr : Nat} {s : bg} {i j x : Int} {back : Bool} {v : Value} {l : List Int}
theorem IY (H : aB w0 w (dw e s • F)) : fO prog 204 #[.pointer (some ⟨e, 0, none⟩), .int .i64 i, .int .i64 j, .bool back] w fun v' w' => v' = .int .i64 (s.kK i j back) ∧ aB w0 w' (dw e (s.kC i j back) • F) := by
 refine gB func204 ntmps204 ?_
 dsimp only [bf, Nat.reduceAdd]
 refine ay (ah (aV rfl (aA (aj (ay (ay (ah (aN rfl (bZ rfl func94 (jE H) ?_)))))))))
 rintro _ _ ⟨rfl, rfl⟩
 refine aV rfl (aA (aj (ay (ah (aN rfl (aX (dU rfl rfl) (aA (aj (aO rfl (fun h1 => ?_) (fun h1 => ?_))))))))))
 ·(try simp only [aH] at h1)
  obtain ⟨hin, hpe⟩ := yO h1
  refine ay (ah (aN rfl (aV rfl (aA (aj (aJ (aK (aI (.inl rfl) results204 rfl ?_))))))))
  rw [hpe]
  exact ⟨by simp [bg.kK, bg.kC, hin], by rw [show s.kC i j back = s from by simp [bg.kK, bg.kC, hin]]; exact H⟩
 ·(try simp only [aH] at h1)
  have hin := vV h1
  refine aP (aj (ay (ay ?_)))
  obtain ⟨qG, qH, qI, qJ, qK, qL, qM, qN, oU, mZ, ng, ni, ny, nC, nD, nG, nH, nI, nJ, nK, dF, bG, gK, dH⟩ := (H).Bf
  have hL : s.c.L.length ≤ 1024 := by obtain ⟨a, c, xs, f, t, h1, h2, h3, h4, h5, h6, h7, hc1, hc2, hl, H1⟩ := (dH.f2).buf; exact h4
  refine ah (aN rfl (aX (eu rfl rfl) (fK rfl (fun h2 => ?_) (fun h2 => ?_))))
  ·(try simp only [aH] at h2)
   refine bD (bD (bD (bD (bD (bD (bD (bD (fG rfl rfl (aN rfl (bD (bD (bD (fG rfl rfl (aN rfl (bD (bD (bD (bD (bD (bD (bD (bD (fG rfl rfl (aA (aj (uX (ay (ah (aV rfl (aA (aj (aJ (aK (aI (.inl rfl) results204 rfl ?_))))))))))))))))))))))))))))))))))
   have hb : s.jL i j := by unfold bg.jL; omega
   have hc : s.kK i j back = 70 := by unfold bg.kK; rw [if_pos hin, if_pos hb]
   exact ⟨by rw [hc], by rw [wK (by rw [hc]; decide)]; exact aB.dG dF bG dH.f11.f11.f11.f11.f11.f11.f11.f11.f11.f11.f11⟩
  ·(try simp only [aH] at h2)
   refine aZ (aN rfl (aZ (aN rfl (aZ (bP rfl (aZ (bF 0 underlying37 rfl sizeOf32 rfl (aZ (bF 0 underlying32 rfl sizeOf27 rfl (aZ (dV underlying27 rfl (dH).get.2 rfl (aZ (bZ rfl func186 (kH dH.f2) ?_)))))))))))))
   rintro _ w3 ⟨rfl, hD3⟩
   have HD3 := dH.kV hD3
   refine aZ (aX (dn rfl rfl) (eG rfl rfl (fK rfl (fun h3 => ?_) (fun h3 => ?_))))
   ·(try simp only [aH] at h3)
    refine bD (bD (bD (fG rfl rfl (aN rfl (bD (bD (bD (bD (bD (bD (bD (bD (fG rfl rfl (aA (aj (uX (ay (ah (aV rfl (aA (aj (aJ (aK (aI (.inl rfl) results204 rfl ?_))))))))))))))))))))))))
    have hb : s.jL i j := by unfold bg.jL; omega
    have hc : s.kK i j back = 70 := by unfold bg.kK; rw [if_pos hin, if_pos hb]
    exact ⟨by rw [hc], by rw [wK (by rw [hc]; decide)]; exact aB.dG dF bG HD3.f11.f11.f11.f11.f11.f11.f11.f11.f11.f11.f11⟩
   ·(try simp only [aH] at h3)
    refine aZ (aN rfl (aZ (aN rfl (aZ (aX (eu rfl rfl) (eG rfl rfl (fK rfl (fun h4 => ?_) (fun h4 => ?_))))))))
    ·(try simp only [aH] at h4)
     refine bD (bD (bD (bD (bD (bD (bD (bD (fG rfl rfl (aA (aj (uX (ay (ah (aV rfl (aA (aj (aJ (aK (aI (.inl rfl) results204 rfl ?_)))))))))))))))))))
     have hb : s.jL i j := by unfold bg.jL; omega
     have hc : s.kK i j back = 70 := by unfold bg.kK; rw [if_pos hin, if_pos hb]
     exact ⟨by rw [hc], by rw [wK (by rw [hc]; decide)]; exact aB.dG dF bG HD3.f11.f11.f11.f11.f11.f11.f11.f11.f11.f11.f11⟩
    ·(try simp only [aH] at h4)
     refine aZ (aN rfl (aZ (aN rfl (aZ (bP rfl (aZ (bF 0 underlying37 rfl sizeOf32 rfl (aZ (bF 0 underlying32 rfl sizeOf27 rfl (aZ (dV underlying27 rfl (HD3).get.2 rfl (aZ (bZ rfl func186 (kH HD3.f2) ?_)))))))))))))
     rintro _ w4 ⟨rfl, hD4⟩
     have HD4 := HD3.kV hD4
     refine aZ (aX (dn rfl rfl) (eG rfl rfl (aA (aj (aO rfl (fun h5 => ?_) (fun h5 => ?_))))))
     ·(try simp only [aH] at h5)
      refine ay (ah (aV rfl (aA (aj (aJ (aK (aI (.inl rfl) results204 rfl ?_)))))))
      have hb : s.jL i j := by unfold bg.jL; omega
      have hc : s.kK i j back = 70 := by unfold bg.kK; rw [if_pos hin, if_pos hb]
      exact ⟨by rw [hc], by rw [wK (by rw [hc]; decide)]; exact aB.dG dF bG HD4.f11.f11.f11.f11.f11.f11.f11.f11.f11.f11.f11⟩
     ·(try simp only [aH] at h5)
      refine aP (aj (ay ?_))
      have hb : ¬ s.jL i j := by unfold bg.jL; omega
      have hc : s.kK i j back = (s.ku i j back).1 := by unfold bg.kK; rw [if_pos hin, if_neg hb]
      refine ah (aV rfl (aA (aj ?_)))
      refine KG [(0, _), (1, _), (2, _)] (fun (_ : Unit) => [(10, .int .i64 (s.way back))]) (fun (_ : Unit) W => W = w4) (Sub.cons rfl (Sub.cons rfl (Sub.cons rfl (Sub.nil _)))) ?_ ?_
      ·rintro _ w5 rfl
       dsimp only [List.cons_append, List.nil_append]
       refine ay (ay ?_)
       have SL := HD4.drew
       have mW := aB.kp (SL.f11.f11.f11.f11.f11.f11.f11.f11.f11.f11.f11)
       refine yZ [4, 10] mW rfl (iF 0 rfl mW rfl (jQ 1 rfl mW rfl (gV 2 rfl mW 0 underlying37 rfl sizeOf32 rfl (gV 3 rfl mW 1 underlying32 rfl sizeOf28 rfl (jk 4 rfl mW (fun W hW => jP underlying28 rfl ((Kp.h hW)).get.2 rfl) (iF 5 rfl mW rfl (iF 6 rfl mW rfl (jQ 7 rfl mW rfl (gV 8 rfl mW 0 underlying37 rfl sizeOf32 rfl (gV 9 rfl mW 0 underlying32 rfl sizeOf27 rfl (jk 10 rfl mW (fun W hW => jP underlying27 rfl ((Kp.h hW)).get.2 rfl) (iF 12 rfl mW rfl (iF 13 rfl mW rfl (kE 11 rfl (wW rfl func112 (pJ SL.f2)) ?_))))))))))))))
       rintro u6 w6 H6
       have IU := aB.kp (H6.f12.f12.f12.f12.f12.f12.f12.f12.f12.f12.f12.f12)
       refine dQ IU (fun W hW => (Kp.h hW).right.f11.f11.f11.f11.f11.f11.f11.f11.f11.f10.f11) ?_
       refine jg 14 rfl IU (fun _ => BM ((H6).aT) underlying22 sizeOf21 rfl rfl rfl (by omega)) (kE 15 rfl (wW rfl func233 (Ec H6.f4 (fun W HW => kD.cut ((HW).aT) (by omega) (by omega)))) ?_)
       rintro _ w7 ⟨rfl, H7⟩
       have zy := aB.kp (H7.f12.f12.f12.f12.f12.f12.f12.f12.f12.f12.f12.f12)
       refine fQ zy (by kernel_rfl) ?_
       refine jg 16 rfl zy (fun _ => gG rfl) (pO (aj (ay (ah (aN rfl (aX (dU rfl rfl) (aA (aj (aO rfl (fun h6 => ?_) (fun h6 => ?_))))))))))
       ·(try simp only [aH] at h6)
        refine ay (ah (aN rfl (aV rfl (aA (aj (aJ (aK (aI (.inl rfl) results204 rfl ?_))))))))
        exact ⟨by rw [hc]; rfl, by rw [wK (by rw [hc]; assumption)]; have HX := H7.f2.right.f11.f11.f11.f11.f11.f11.f11.f11.f9.f10.f11; rw [show vN s.c.E s.c.at_ (s.way back) ((s.c.L.drop i.toNat).take (j.toNat - i.toNat)) = s.ku i j back from rfl, Ns (by assumption)] at HX; exact aB.dG dF bG HX⟩
       ·(try simp only [aH] at h6)
        refine aP (aj (ay (ah (aN rfl (aN rfl (bP rfl (bF 29 underlying37 rfl sizeOf4 rfl (aG (aS 29 (l' := [_, _, _, _, _, _, _, _, _, _, _, _, _, _, _, _, _, _, _, _, _, _, _, _, _, _, _, _, _, _, _, _, _, _]) H7.f4 sizeOf4 rfl rfl (by first | rfl | assumption) rfl rfl) ?_))))))))
        rintro _ w8 H8
        refine bP rfl (bF 28 underlying37 rfl sizeOf3 rfl (aG (aS 28 (l' := [_, _, _, _, _, _, _, _, _, _, _, _, _, _, _, _, _, _, _, _, _, _, _, _, _, _, _, _, _, _, _, _, _, _]) H8 sizeOf3 rfl rfl (by first | rfl | assumption) rfl rfl) ?_))
        rintro _ w9 H9
        refine aA (aj (ay (ah (aV rfl (aA (aj (aJ (aI (.inl rfl) results204 rfl ?_))))))))
        have hc0 : s.kK i j back = 0 := by rw [hc]; assumption
        have hs : s.kC i j back = { s.yN (s.ku i j back).2.1 (s.ku i j back).2.2 with killed := true, cls := 1 } := by unfold bg.kC; rw [if_pos hc0]
        exact ⟨by rw [hc0], by rw [hs]; exact aB.dG (s := { s.yN (s.ku i j back).2.1 (s.ku i j back).2.2 with killed := true, cls := 1 }) dF bG H9.f3.right.f11.f11.f11.f11.f11.f11.f11.f11.f10.f11.f11⟩
      ·skip
       refine ay (ah (aN rfl (bP rfl (bF 0 underlying37 rfl sizeOf32 rfl (bF 6 underlying32 rfl sizeOf3 rfl (dV underlying3 rfl (HD4).get.2 rfl (aX (dO rfl rfl) (fK rfl (fun h7 => ?_) (fun h7 => ?_)))))))))
       ·(try simp only [aH] at h7)
        refine bD (bD (bD (bD (fG rfl rfl (aA (aj (uX (ay (ah (aV rfl (aA (aj (ay (ah (aN rfl (aA (aj (aO rfl (fun h8 => ?_) (fun h8 => ?_)))))))))))))))))))
        ·(try simp only [aH] at h8)
         refine ah (aV rfl (aA ?_))
         refine tJ (()) ?_ ?_ ?_
         ·exact (Sub.yg rfl (by unfold bg.way; simp_all) (Sub.nil _))
         ·exact (Sub.cons rfl (Sub.cons rfl (Sub.cons rfl (Sub.nil _))))
         ·(try dsimp only)
          first | done | exact rfl
        ·(try simp only [aH] at h8)
         refine aP ?_
         refine tJ (()) ?_ ?_ ?_
         ·exact (Sub.yg rfl (by unfold bg.way; simp_all) (Sub.nil _))
         ·exact (Sub.cons rfl (Sub.cons rfl (Sub.cons rfl (Sub.nil _))))
         ·(try dsimp only)
          first | done | exact rfl
       ·(try simp only [aH] at h7)
        refine aZ (aN rfl (aZ (bP rfl (aZ (bF 29 underlying37 rfl sizeOf4 rfl (aZ (dV underlying4 rfl (HD4).get.2 rfl (eG rfl rfl (aA (aj (aO rfl (fun h9 => ?_) (fun h9 => ?_))))))))))))
        ·(try simp only [aH] at h9)
         refine ay (ah (aV rfl (aA (aj (ay (ah (aN rfl (aA (aj (aO rfl (fun h10 => ?_) (fun h10 => ?_)))))))))))
         ·(try simp only [aH] at h10)
          refine ah (aV rfl (aA ?_))
          refine tJ (()) ?_ ?_ ?_
          ·exact (Sub.yg rfl (by unfold bg.way; simp_all) (Sub.nil _))
          ·exact (Sub.cons rfl (Sub.cons rfl (Sub.cons rfl (Sub.nil _))))
          ·(try dsimp only)
           first | done | exact rfl
         ·(try simp only [aH] at h10)
          refine aP ?_
          refine tJ (()) ?_ ?_ ?_
          ·exact (Sub.yg rfl (by unfold bg.way; simp_all) (Sub.nil _))
          ·exact (Sub.cons rfl (Sub.cons rfl (Sub.cons rfl (Sub.nil _))))
          ·(try dsimp only)
           first | done | exact rfl
        ·(try simp only [aH] at h9)
         refine aP ?_
         refine tJ (()) ?_ ?_ ?_
         ·exact (Sub.yg rfl (by unfold bg.way; simp_all) (Sub.nil _))
         ·exact (Sub.cons rfl (Sub.cons rfl (Sub.cons rfl (Sub.nil _))))
         ·(try dsimp only)
          first | done | exact rfl
theorem IZ (H : aB w0 w (dw e s • F)) : fO prog 202 #[.pointer (some ⟨e, 0, none⟩), .int .i64 i, .int .i64 j, .bool back] w fun v' w' => v' = .int .i64 (s.ES i j back) ∧ aB w0 w' (dw e (s.nR i j back) • F) := by
 refine gB func202 ntmps202 ?_
 dsimp only [bf, Nat.reduceAdd]
 refine ay (ah (aV rfl (aA (aj (ay (ay (ah (aN rfl (aN rfl (aN rfl (aN rfl (bZ rfl func204 (IY H) ?_))))))))))))
 rintro _ w1 ⟨rfl, H1⟩
 refine aV rfl (aA (aj (ay (ah (aN rfl (aX (dU rfl rfl) (aA (aj (aO rfl (fun h1 => ?_) (fun h1 => ?_))))))))))
 ·(try simp only [aH] at h1)
  have hc := h1
  refine ay (ah (aN rfl (aV rfl (aA (aj (aJ (aK (aI (.inl rfl) results202 rfl ?_))))))))
  exact ⟨by unfold bg.ES; rw [if_neg hc], by unfold bg.nR; rw [if_neg hc]; have HX := H1; rw [wK hc] at HX; exact HX⟩
 ·(try simp only [aH] at h1)
  have hc := h1
  refine aP (aj (ay (ah (aN rfl (aN rfl (aN rfl (bZ rfl func139 (Gv H1) ?_)))))))
  rintro _ w2 ⟨rfl, H2⟩
  refine aV rfl (aA (aj (aJ (aI (.inl rfl) results202 rfl ?_))))
  exact ⟨by unfold bg.ES; rw [if_pos hc], by unfold bg.nR; rw [if_pos hc]; exact H2⟩
theorem Pq {E : List (List Int)} (h : ∀ x ∈ E, x.length ≤ 1024) (k : Nat) : (E.getD k []).length ≤ 1024 := by
  rw [List.getD_eq_getElem?_getD]
  cases hk : E[k]? with
  | none => simp
  | some x => exact h x (List.mem_of_getElem? hk)
theorem I4 (H : aB w0 w (dw e s • F)) : fO prog 146 #[.pointer (some ⟨e, 0, none⟩)] w fun v' w' => v' = .int .i64 s.mV ∧ aB w0 w' (dw e s.ji • F) := by
 refine gB func146 ntmps146 ?_
 dsimp only [bf, Nat.reduceAdd]
 refine ay (ah (aV rfl (aA (aj (ay (ay (ah (aN rfl (bZ rfl func94 (jE H) ?_)))))))))
 rintro _ _ ⟨rfl, rfl⟩
 refine aV rfl (aA (aj (ay (ah (aN rfl (aX (dU rfl rfl) (aA (aj (aO rfl (fun h1 => ?_) (fun h1 => ?_))))))))))
 ·(try simp only [aH] at h1)
  obtain ⟨hin, hpe⟩ := yO h1
  refine ay (ah (aN rfl (aV rfl (aA (aj (aJ (aK (aI (.inl rfl) results146 rfl ?_))))))))
  rw [hpe]
  exact ⟨by simp [bg.mV, bg.ji, hin], by rw [show s.ji = s from by simp [bg.mV, bg.ji, hin]]; exact H⟩
 ·(try simp only [aH] at h1)
  have hin := vV h1
  refine aP (aj (ay ?_))
  obtain ⟨qG, qH, qI, qJ, qK, qL, qM, qN, oU, mZ, ng, ni, ny, nC, nD, nG, nH, nI, nJ, nK, dF, bG, gK, dH⟩ := (H).Bf
  have hL : s.c.L.length ≤ 1024 ∧ 0 ≤ s.c.pt ∧ s.c.pt ≤ s.c.L.length := by obtain ⟨a, c, xs, f, t, h1, h2, h3, h4, h5, h6, h7, hc1, hc2, hl, H1⟩ := (dH.f2).buf; exact ⟨h4, h6⟩
  have hR := Pq (JE (dH.f3)).2.2 s.c.at_
  have hY : s.mV = if s.c.E.length = 0 then 6 else s.IE s.top := by unfold bg.mV; rw [if_pos hin]
  refine ah (aN rfl (bP rfl (bF 0 underlying37 rfl sizeOf32 rfl (bF 1 underlying32 rfl sizeOf28 rfl (dV underlying28 rfl (dH).get.2 rfl (bZ rfl func205 (Ee dH.f3) ?_))))))
  rintro _ w3 ⟨u3, rfl, H3⟩
  refine aN rfl (AZ rfl rfl (AZ rfl rfl (aV rfl (aV rfl (aA (aj (ay (ay (ah (aN rfl (aX (dU rfl rfl) (aA (aj (aO rfl (fun h2 => ?_) (fun h2 => ?_)))))))))))))))
  ·(try simp only [aH] at h2)
   have h6 : s.c.E.length = 0 := by by_cases hx : s.c.E.length = 0; exact hx; exact absurd (if_neg hx) h2
   rw [if_pos h6] at hY
   refine ay (ah (aN rfl (aV rfl (aA (aj (aJ (aK (aI (.inl rfl) results146 rfl ?_))))))))
   exact ⟨by rw [hY]; show Value.int _ (if s.c.E.length = 0 then 6 else 0) = _; rw [if_pos h6], by rw [show s.ji = s from by unfold bg.ji; rw [if_neg (by rw [hY]; decide)]]; exact aB.dG dF bG H3.right.f11.f11.f11.f11.f11.f11.f11.f11.f9.f11.f11⟩
  ·(try simp only [aH] at h2)
   have h6 : ¬ s.c.E.length = 0 := fun hx => by rw [if_pos hx] at h2; exact absurd h2 (by decide)
   rw [if_neg h6] at hY
   refine aP (aj (ay (ah (aN rfl (bP rfl (bF 0 underlying37 rfl sizeOf32 rfl (bF 0 underlying32 rfl sizeOf27 rfl (dV underlying27 rfl (H3.f3).get.2 rfl (bZ rfl func113 (oD H3.f4) ?_)))))))))
   rintro _ _ ⟨rfl, rfl⟩
   refine aV rfl ?_
   have Ug := H3.f12.f12.f12.f12.f12.f12.f12.f12.f10.f12.f12
   have Uh := aB.dG (s := s) dF bG Ug
   refine aA (aj (ay (ay (ah (aN rfl (aN rfl (bZ rfl func206 (Ej Uh (fun W HW => (HW).aT)) ?_)))))))
   rintro _ w8 ⟨rfl, H8⟩
   refine aV rfl (aA (aj (ay (ah (aN rfl (aX (dU rfl rfl) (aA (aj (aO rfl (fun h3 => ?_) (fun h3 => ?_))))))))))
   ·(try simp only [aH] at h3)
    have hI : s.IE s.top ≠ 0 := h3
    refine ay (ah (aN rfl (aV rfl (aA (aj (aJ (aK (aI (.inl rfl) results146 rfl ?_))))))))
    exact ⟨by rw [hY]; rfl, by rw [show s.ji = s from by unfold bg.ji; rw [if_neg (by rw [hY]; exact hI)]]; have HX := H8.f2.right; rw [show s.qp (s.c.E.getD s.c.at_ []) = s from Nu hI] at HX; exact HX⟩
   ·(try simp only [aH] at h3)
    have hI : s.IE s.top = 0 := h3
    obtain ⟨qG, qH, qI, qJ, qK, qL, qM, qN, oU, mZ, ng, ni, ny, nC, nD, nG, nH, nI, nJ, nK, dF, bG, gK, dH⟩ := (H8).Bf
    refine aP (aj (ay (ah (aN rfl (bP rfl (bF 0 underlying37 rfl sizeOf32 rfl (bF 0 underlying32 rfl sizeOf27 rfl (dV underlying27 rfl (dH).get.2 rfl (aN rfl (bZ rfl func207 (AA dH.f2) ?_))))))))))
    rintro _ w10 ⟨rfl, nO⟩
    refine aA (aj (ay (ah (aN rfl (aN rfl (bP rfl (bF 30 underlying37 rfl sizeOf4 rfl (aG (aS 30 (l' := [_, _, _, _, _, _, _, _, _, _, _, _, _, _, _, _, _, _, _, _, _, _, _, _, _, _, _, _, _, _, _, _, _, _]) nO.f2 sizeOf4 rfl rfl (by first | rfl | assumption) rfl rfl) ?_))))))))
    rintro _ Hz vk
    refine bP rfl (bF 28 underlying37 rfl sizeOf3 rfl (aG (aS 28 (l' := [_, _, _, _, _, _, _, _, _, _, _, _, _, _, _, _, _, _, _, _, _, _, _, _, _, _, _, _, _, _, _, _, _, _]) vk sizeOf3 rfl rfl (by first | rfl | assumption) rfl rfl) ?_))
    rintro _ w12 wP
    refine aA (aj (ay (ah (aN rfl (aN rfl (aN rfl (aN rfl (aN rfl (aX (jr ((wP.f12).aT) underlying22 rfl) (aX (gy rfl rfl (by omega)) (bP rfl (bF 0 underlying37 rfl sizeOf32 rfl (bF 7 underlying32 rfl sizeOf3 rfl (aG (aS 7 (l' := [_, _, _, _, _, _, _, _, _, _, _, _, _, _, _, _, _, _, _, _, _, _, _, _, _, _, _, _, _, _, _, _, _, _]) wP sizeOf3 rfl rfl (by first | rfl | assumption) rfl rfl) ?_))))))))))))))
    rintro _ MN uO
    refine bP rfl (bF 0 underlying37 rfl sizeOf32 rfl (bF 8 underlying32 rfl sizeOf3 rfl (aG (aS 8 (l' := [_, _, _, _, _, _, _, _, _, _, _, _, _, _, _, _, _, _, _, _, _, _, _, _, _, _, _, _, _, _, _, _, _, _]) uO sizeOf3 rfl rfl (by first | rfl | assumption) rfl rfl) ?_)))
    rintro _ Jw xE
    refine aA (aj (ay (ah (aV rfl (aA (aj (aJ (aI (.inl rfl) results146 rfl ?_))))))))
    have hs : s.ji = { s.qp s.top with jX := true, cls := 2, c := { (s.qp s.top).c with mark := QG (s.qp s.top).c.L (s.qp s.top).c.mark s.c.pt, fr := s.c.pt, to := s.c.pt + s.top.length } } := by unfold bg.ji; rw [if_pos (hY.trans hI)]
    exact ⟨by rw [hY, hI], by rw [hs]; exact aB.dG (s := { s.qp s.top with jX := true, cls := 2, c := { (s.qp s.top).c with mark := QG (s.qp s.top).c.L (s.qp s.top).c.mark s.c.pt, fr := s.c.pt, to := s.c.pt + s.top.length } }) dF bG xE.f12.right.f11.f11.f11.f11.f11.f11.f11.f11.f11.f11.f11⟩
end
end Go.Proofs.YtgndbccogcofjaaGreatDoor
end
section
namespace Go.Proofs.YtgndbccogcofjaaGreatDoor
open Go.RowKit
open _root_.Go.Proofs.Tryz
def uU (g : List Int → Int → Int) (l : List Int) : Nat → Int → Int
  | 0, x => x
  | n + 1, x => if g l x = x then x else uU g l n (g l x)
def LK (l : List Int) (x : Int) : Int := qg l x
def Bg (l : List Int) (x : Int) : Int := lM l x
def qC (l : List Int) (p n : Int) : Int := if 0 ≤ n then uU LK l n.toNat p else uU Bg l (-n).toNat p
def Kr (w0 : World) (fv : Value) (g : List Int → Int → Int) : Prop := fv.oneCell' = true ∧ ∀ (F : HP) (W : World) (v : Value) (l : List Int) (x : Int), aB w0 W F → gW w0 F .i32 v l → Hg prog fv [v, .int .i64 x] W fun u W' => u = .int .i64 (g l x) ∧ aB w0 W' F
theorem Nv {w0 : World} (hT : tZ w0) : Kr w0 (.func (.func 129) #[] #[]) LK :=
  ⟨rfl, fun F W v l x H hr => ⟨129, [], [], _, _, rfl, func129, rfl, rfl, FU H hT hr⟩⟩
theorem I5 {w0 : World} (hT : tZ w0) : Kr w0 (.func (.func 130) #[] #[]) Bg :=
  ⟨rfl, fun F W v l x H hr => ⟨130, [], [], _, _, rfl, func130, rfl, rfl, Ce H hT hr⟩⟩
theorem Dy {g : List Int → Int → Int} {l : List Int} {n : Nat} {x : Int} (h : g l x = x) : uU g l n x = x := by cases n with
  | zero => rfl
  | succ n => rw [uU, if_pos h]
theorem Kt {g : List Int → Int → Int} {l : List Int} {n : Nat} {x : Int} (hn : 0 < n) (h : ¬ g l x = x) : uU g l n x = uU g l (n - 1) (g l x) := by
  obtain ⟨m, rfl⟩ : ∃ m, n = m + 1 := ⟨n - 1, by omega⟩
  rw [uU, if_neg h]; rfl
section
variable {w0 w : World} {F : HP} {c e : Nat} {s : bg} {fv lv kv : Value} {l keys : List Int} {p m n nn x : Int} {g back : Bool} {gf : List Int → Int → Int}
theorem Aj (H : aB w0 w (dB c (.cells #[.pointer (some ⟨e, 0, none⟩), lv, .int .i64 p, .int .i64 m, .int .i64 nn, .bool g, kv] 79 (0, 0)) • iU 21 .i32 lv l • F)) (hf : Kr w0 fv gf) (hn : n ≤ 1000000) :
  fO prog 125 #[.pointer (some ⟨c, 0, none⟩), fv, .int .i64 x, .int .i64 n] w fun v w' => v = .int .i64 (uU gf l n.toNat x) ∧ aB w0 w' (dB c (.cells #[.pointer (some ⟨e, 0, none⟩), lv, .int .i64 p, .int .i64 m, .int .i64 nn, .bool g, kv] 79 (0, 0)) • iU 21 .i32 lv l • F) := by
 refine gB func125 ntmps125 ?_
 dsimp only [bf, Nat.reduceAdd]
 refine ay (ah (aV rfl (aA (aj (ay (ay (ah (aN rfl (aN rfl (aA (aj (bC ?_))))))))))))
 refine iw [(0, _), (1, _), (10, _)] (fun (⟨k, y⟩ : Nat × Int) => [(2, .int .i64 y), (11, .int .i64 (k : Int))]) (fun (⟨k, y⟩ : Nat × Int) W => ((k : Int) ≤ max n 0 ∧ uU gf l n.toNat x = uU gf l (n.toNat - k) y) ∧ aB w0 W (dB c (.cells #[.pointer (some ⟨e, 0, none⟩), lv, .int .i64 p, .int .i64 m, .int .i64 nn, .bool g, kv] 79 (0, 0)) • iU 21 .i32 lv l • F)) (fun (⟨k, y⟩ : Nat × Int) => n.toNat - k) ((0, x)) (Sub.cons rfl (Sub.cons rfl (Sub.cons rfl (Sub.nil _)))) (Sub.cons rfl (Sub.cons rfl (Sub.nil _))) ⟨⟨by omega, rfl⟩, H⟩ ?_
 rintro ⟨k, y⟩ w1 ⟨⟨hk, he⟩, HL⟩
 dsimp only [List.cons_append, List.nil_append]
 refine ay (ah (aX (eu rfl rfl) (aA (aj (ay (aO rfl (fun h1 => ?_) (fun h1 => ?_)))))))
 ·(try simp only [aH] at h1)
  refine aP (aj (ay (bC (ay (ah (aN rfl (aN rfl (bP rfl (bF 1 underlying79 rfl sizeOf22 rfl (dV underlying22 rfl (HL).get.2 rfl (aN rfl (jh (rX rfl rfl (hf.2 _ _ _ l y HL (fun W HW => HW.f2.aT))) ?_))))))))))))
  rintro _ w2 ⟨rfl, H2⟩
  refine aV rfl (aA (aj (ay (ay (ah (aN rfl (aN rfl (aX (dO rfl rfl) (aA (aj (aO rfl (fun h2 => ?_) (fun h2 => ?_))))))))))))
  ·(try simp only [aH] at h2)
   have heq : gf l y = y := h2
   refine eX (aY ?_)
   refine oz (by decide) ?_
   refine aY (aY (bU (aj (ay (ah (aN rfl (aV rfl (aA (aj (aJ (aI (.inl rfl) results125 rfl ?_)))))))))))
   exact ⟨by rw [he]; first | rw [Dy heq] | (rw [show n.toNat - k = 0 from by omega]; rfl), H2⟩
  ·(try simp only [aH] at h2)
   have hne : ¬ gf l y = y := by have h9 := h2; simpa using h9
   refine aP (aj (ah (aN rfl (aV rfl (aA (aQ (aj (ah (aX (gy rfl rfl (by omega)) (aN rfl (aA ?_)))))))))))
   refine fE ((k + 1, gf l y)) ?_ ?_ ?_ ?_
   ·exact (Sub.cons rfl (Sub.cons rfl (Sub.nil _)))
   ·exact (Sub.cons rfl (Sub.cons rfl (Sub.cons rfl (Sub.nil _))))
   ·(try dsimp only)
    first | done | exact ⟨⟨by omega, by rw [he, Kt (by omega) hne]; rfl⟩, H2⟩
   ·(try dsimp only); omega
 ·(try simp only [aH] at h1)
  refine eX (aY (aY (bU (aj (ay (ah (aN rfl (aV rfl (aA (aj (aJ (aI (.inl rfl) results125 rfl ?_))))))))))))
  exact ⟨by rw [he]; first | rw [Dy heq] | (rw [show n.toNat - k = 0 from by omega]; rfl), HL⟩
end
end Go.Proofs.YtgndbccogcofjaaGreatDoor
end
section
namespace Go.Proofs.YtgndbccogcofjaaGreatDoor
open Go.RowKit Go.Lib
section
variable {P : Program} {L : List (Nat × Value)} {w0 w : World} {F : HP} {ty : TypeId} {b : Nat} {v d : Int} {t : TypeId}
theorem I7 {u : Value} (hc : w.cell? ⟨b, 0, none⟩ = some u) (hz : w.frozen? ⟨b, 0, none⟩ = false) : (Extern.Atomic.storeT #[.pointer (some ⟨b, 0, none⟩), .int .i64 d]).run P w = .ok Extern.Atomic.none_ (w.setCell ⟨b, 0, none⟩ (.int .i64 d)) := by
  change Sem.run P (do store (← asAddr (.pointer (some ⟨b, 0, none⟩))) (.int .i64 d) .atomic; pure Extern.Atomic.none_) w = _
  simp [asAddr, run_store _ _ _ _ _ (rfl : (Value.int .i64 d).oneCell' = true), hc, hz, Result.andThen]
theorem Nw {f : FuncId} {args : List Operand} {ts : Array TypeId} {fn : Func} (H : aB w0 w (dB b (.cells #[.int .i64 v] t (0, 0)) • F)) (ha : xZ L args = some [.pointer (some ⟨b, 0, none⟩), .int .i64 d])
    (hf : P.funcs[f]? = some fn) (hname : (fn.name == "runtime.NumGoroutine") = false) (hb : fn.body.isNone = true) (hn : Extern.findNext fn = none) (he : Extern.find fn = some Extern.Atomic.storeT) :
    pX P L (.call ⟨.value (.func f), args.toArray, ts⟩) ty w fun u w' => aB w0 w' (dB b (.cells #[.int .i64 d] t (0, 0)) • F) :=
  Pg ha hf hname hb hn he (I7 (fV H.get.2 rfl) (vF H.get.2)) (H.setCell (i := 0) _)
theorem Dz (H : aB w0 w (dB b (.cells #[.int .i64 v] t (0, 0)) • F)) : fO Tryz.prog 47 #[.pointer (some ⟨b, 0, none⟩), .int .i64 d] w fun u w' => aB w0 w' (dB b (.cells #[.int .i64 d] t (0, 0)) • F) := by
 refine gB Tryz.func47 Tryz.ntmps47 ?_
 dsimp only [bf, Nat.reduceAdd]
 refine ah (aN rfl (bP rfl (bF 0 Tryz.underlying106 rfl Tryz.sizeOf2 rfl (aN rfl (jh (Nw H rfl Tryz.func119 rfl rfl (by kernel_rfl) (by kernel_rfl)) ?_)))))
 rintro _ w1 H1
 refine aA (fZ (.inr rfl) Tryz.results47 ?_)
 exact H1
end
end Go.Proofs.YtgndbccogcofjaaGreatDoor
end
