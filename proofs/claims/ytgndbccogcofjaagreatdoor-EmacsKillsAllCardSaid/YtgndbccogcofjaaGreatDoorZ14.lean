import Derived.Test.YtgndbccogcofjaaGreatDoorZ2
import Derived.Test.YtgndbccogcofjaaGreatDoorZ13
import Derived.Test.YtgndbccogcofjaaGreatDoorZ6
import Derived.Test.YtgndbccogcofjaaGreatDoorZ7
import Derived.Test.YtgndbccogcofjaaGreatDoorZ12
set_option linter.unusedSimpArgs false
set_option linter.unusedVariables false
/- Texts of mine, joined, their names in short: EdR EdK EmC Atom2. -/
section
namespace Go.Proofs.YtgndbccogcofjaaGreatDoor
open Go.RowKit
open _root_.Go.Proofs.Tryz
theorem nP {L : List Int} {i j : Int} {l : List Int} (h : iU L i j l ≠ 0) : jk L i j l = [] ∧ jl L i j l = [] := by unfold jk jl; rw [if_neg h, if_neg h]; exact ⟨rfl, rfl⟩
theorem QS {L : List Int} {i j : Int} {l : List Int} (hL : L.length ≤ 1024) (h : 0 < (jk L i j l).length + (jl L i j l).length) : uh (nG L i j l, jk L i j l, jl L i j l) := by
  by_cases h0 : iU L i j l = 0
  · refine ⟨?_, h, ?_, ?_⟩
    · show 0 ≤ nG L i j l
      unfold nG; rw [if_pos h0]
      unfold iU at h0
      split at h0
      · cases h0
      · omega
    · show (jk L i j l).length ≤ 1024
      unfold jk; rw [if_pos h0]
      simp only [List.length_take, List.length_drop]; omega
    · show (jl L i j l).length ≤ 1024
      unfold jl; rw [if_pos h0]
      unfold iU at h0
      split at h0
      · cases h0
      · split at h0
        · cases h0
        · omega
  · rw [(nP h0).1, (nP h0).2] at h
    simp at h
theorem O8 {L : List Int} {i j : Int} {l : List Int} (hL : L.length ≤ 1024) : (jk L i j l).length ≤ 1024 ∧ (jl L i j l).length ≤ 1024 := by
  by_cases h0 : iU L i j l = 0
  · refine ⟨?_, ?_⟩
    · unfold jk; rw [if_pos h0]
      simp only [List.length_take, List.length_drop]; omega
    · unfold jl; rw [if_pos h0]
      unfold iU at h0
      split at h0
      · cases h0
      · split at h0
        · cases h0
        · omega
  · rw [(nP h0).1, (nP h0).2]; simp
theorem yJ {s : aZ} {x : dU} (h : x.2.1.length + x.2.2.length = 0) : s.kU x = s := by unfold aZ.kU; rw [if_pos h]
theorem zo {s : aZ} {x : dU} (h : 0 < x.2.1.length + x.2.2.length) (k : ¬ 16384 ≤ dR s.here s.put) : s.kU x = { s with put := s.put ++ [x] } := by unfold aZ.kU; rw [if_neg (by omega), if_neg k]
theorem zq {s : aZ} {x : dU} (h : 0 < x.2.1.length + x.2.2.length) (k : 16384 ≤ dR s.here s.put) : s.kU x = { s.jM [] with put := [x], c := { (s.jM []).c with run := false } } := by unfold aZ.kU; rw [if_neg (by omega), if_pos k]
theorem nR (G : List (List dU)) (N : List dU) : dR G N = dR G [] + N.length := by unfold dR; simp
theorem Lj {s : aZ} {x : dU} (h : jJ s) (hx : 0 < x.2.1.length + x.2.2.length → uh x) : jJ (s.kU x) := by
  by_cases h0 : x.2.1.length + x.2.2.length = 0
  · rw [yJ h0]; exact h
  · have hx' := hx (by omega)
    obtain ⟨h1, h2, h3, h4, h5, h6⟩ := h
    by_cases hf : 16384 ≤ dR s.here s.put
    · rw [zq (by omega) hf]
      refine ⟨h1, h2, h3, fun e he => by rw [List.mem_singleton.1 he]; exact hx', ?_, ?_⟩
      · show dR (wH s.c.un s.c.place [] s.c.place) [x] ≤ 16384
        rw [fB]; simp [dR]
      · intro k g hg
        have hg' : g ∈ wH s.c.un s.c.place [] k := hg
        by_cases hk : k = s.c.place
        · subst hk; rw [fB] at hg'; cases hg'
        · rw [sG _ _ hk] at hg'; exact h6 k g hg'
    · rw [zo (by omega) hf]
      refine ⟨h1, h2, h3, fun e he => ?_, ?_, h6⟩
      · rcases List.mem_append.1 he with he | he
        · exact h4 e he
        · rw [List.mem_singleton.1 he]; exact hx'
      · show dR s.here (s.put ++ [x]) ≤ 16384
        rw [FQ]; omega
section
variable {w0 w : World} {F : HP} {e p h pr : Nat} {s : aZ} {i j x : Int} {b : Bool} {v : Value} {l : List Int}
theorem vK (H : aB w0 w (dw e s • F)) (hr : gJ w0 F .i32 v l) : fA prog 127 #[.pointer (some ⟨e, 0, none⟩), .int .i64 i, .int .i64 j, v] w fun v' w' => v' = .int .i64 (s.jY i j l) ∧ aB w0 w' (dw e (s.iV i j l) • F) := by
 refine fU func127 ntmps127 ?_
 dsimp only [aY, Nat.reduceAdd]
 refine ay (ah (aU rfl (aA (aj (ay (ay (ah (aO rfl (bZ rfl func94 (jm H) ?_)))))))))
 rintro _ _ ⟨rfl, rfl⟩
 refine aU rfl (aA (aj (ay (ah (aO rfl (aW (dK rfl rfl) (aA (aj (aN rfl (fun h1 => ?_) (fun h1 => ?_))))))))))
 ·(try simp only [aH] at h1)
  obtain ⟨hin, hpe⟩ := yG h1
  refine ay (ah (aO rfl (aU rfl (aA (aj (aJ (aK (aI (.inl rfl) results127 rfl ?_))))))))
  rw [hpe]
  exact ⟨by simp [aZ.jY, aZ.iV, hin], by rw [show s.iV i j l = s from by simp [aZ.jY, aZ.iV, hin]]; exact H⟩
 ·(try simp only [aH] at h1)
  have hin := vI h1
  refine aP (aj (ay ?_))
  obtain ⟨qy, qA, qB, qC, qE, qF, qG, qH, oH, mP, mQ, mV, mW, mX, mY, mZ, ng, ni, ny, nC, dD, bG, fZ, dG⟩ := (H).AA
  have hL : s.c.L.length ≤ 1024 := by obtain ⟨a, c, xs, f, t, h1, h2, h3, h4, h5, h6, h7, hc1, hc2, hl, H1⟩ := (dG.f2).buf; exact h4
  have hE : s.jY i j l = iU s.c.L i j l := by unfold aZ.jY; rw [if_pos hin]
  have hS : s.iV i j l = (s.iD (lH s.c.L i j l) (lI s.c.L s.c.pt i j l) (lX s.c.L s.c.mark i j l)).kU (nG s.c.L i j l, jk s.c.L i j l, jl s.c.L i j l) := by unfold aZ.iV; rw [if_pos hin]
  have hln := O8 (i := i) (j := j) (l := l) hL
  have hput : dR s.here s.put ≤ 16384 := dD.2.2.2.2.1
  have hsp : dR s.here s.put = dR (s.c.un s.c.place) [] + s.put.length := nR _ _
  have hok := QS (i := i) (j := j) (l := l) hL
  have hno := nP (L := s.c.L) (i := i) (j := j) (l := l)
  refine ah (aO rfl (bP rfl (bg 0 underlying37 rfl sizeOf32 rfl (bg 0 underlying32 rfl sizeOf27 rfl (dS underlying27 rfl (dG).get.2 rfl (aO rfl (aO rfl (aO rfl (bZ rfl func193 (Ad dG.f2 (fun W HW => hr _ (HW.right.right.right.right.right.right.right.right.right.right))) ?_)))))))))
  rintro _ w3 ⟨d3, s3, rfl, H3⟩
  refine aO rfl (Ar rfl rfl (Ar rfl rfl (ji (fV (l := [_, _, _]) H3 zeroValue101 rfl) ?_)))
  rintro _ w4 ⟨b4, rfl, H4⟩
  refine aG (cZ 0 (l' := [_, _, _]) (us := [_, _, _]) H4 sizeOf101 rfl rfl rfl (aC (by first | rfl | assumption) (aC (by first | rfl | exact Rd.one ((H4.f2).aT)) (aC (by first | rfl | exact Rd.one ((H4.f3).aT)) bU))) rfl rfl) ?_
  rintro _ w5 H5
  refine aU rfl (aA (aj (ay (ay (ah (aO rfl (aW (eX rfl rfl) (gB rfl (fun h2 => ?_) (fun h2 => ?_)))))))))
  ·(try simp only [aH] at h2)
   refine bf (bg 1 underlying101 rfl sizeOf22 rfl (bf (dS underlying22 rfl (H5).get.2 rfl (bf (aW (gY ((H5.f2).aT) underlying22 rfl) (bf (bg 2 underlying101 rfl sizeOf22 rfl (bf (dS underlying22 rfl (H5).get.2 rfl (bf (aW (gY ((H5.f3).aT) underlying22 rfl) (bf (aW (fP rfl rfl (by omega)) (bf (aW (dn rfl rfl) (fQ rfl rfl (aA (aj (aN rfl (fun h3 => ?_) (fun h3 => ?_))))))))))))))))))))
   ·(try simp only [aH] at h3)
    have hlen : 0 < (jk s.c.L i j l).length + (jl s.c.L i j l).length := by omega
    refine ay (ay ?_)
    have Ue := H5.drew
    have C9 := aB.kp (Ue.f9.right.f13.f13.f13.f13.f13.f13.f13.f13.f13.f13.f13.f13.f13)
    refine yQ [6] C9 rfl (iE 0 rfl C9 rfl (iE 3 rfl C9 rfl (jF 4 rfl C9 rfl (gG 5 rfl C9 33 underlying37 rfl sizeOf35 rfl (je 6 rfl C9 (fun W hW => jE underlying35 rfl ((Kp.h hW).f5).get.2 rfl) (jc 7 rfl C9 (fun _ => iH ((Ue.f12).aT) underlying35 rfl) (jQ 1 rfl (wK rfl func160 (vJ Ue.f9.f8.f7)) ?_)))))))
    rintro _ w6 ⟨lp6, rfl, H6⟩
    have Iy := aB.kp (H6.right.f14.f14.f14.f14.f14.f14.f14.f14.f14.f14.f14.f14.f14.f14)
    refine dP Iy (fun W hW => (Kp.h hW).right.f13.f13.f13.f13.f13.f13.f8.f13.f9.f13.f13.f13.f13) ?_
    refine jQ 2 rfl (wK rfl func194 (Cb H6)) ?_
    rintro _ w7 ⟨rfl, H7⟩
    have zf := aB.kp (H7.f15.f15.f15.f15.f15.f15.f15.f15.f15.f15.f15.f15.f15.f15.f15)
    refine dP zf (fun W hW => (Kp.h hW).right.f14.f14.f14.f14.f14.f14.f14.f14.f14.f14.f14.f14.f14.f14) ?_
    refine jc 8 rfl zf (fun _ => fP rfl rfl (by omega)) (jc 9 rfl zf (fun _ => jH rfl rfl) ?_)
    have Ho8 := H7.f2
    have Hc9 := aB.F7 Ho8
    refine pU (aj (aN rfl (fun h4 => ?_) (fun h4 => ?_)))
    ·(try simp only [aH] at h4)
     have IB : 16384 ≤ dR (s.iD (lH s.c.L i j l) (lI s.c.L s.c.pt i j l) (lX s.c.L s.c.mark i j l)).here (s.iD (lH s.c.L i j l) (lI s.c.L s.c.pt i j l) (lX s.c.L s.c.mark i j l)).put := by show 16384 ≤ dR s.here s.put; omega
     refine ay (ah (aO rfl (bZ rfl func160 (vJ Hc9.f3.f3) ?_)))
     rintro _ w10 ⟨aaq, rfl, mJ⟩
     refine bZ rfl func195 (CG mJ) ?_
     rintro _ He uO
     have JR := uO.f2
     have JU := aB.sO JR
     refine aA (aj (ah (aO rfl (aO rfl (bP rfl (bg 33 underlying37 rfl sizeOf35 rfl (aG (aQ 33 (l' := [_, _, _, _, _, _, _, _, _, _, _, _, _, _, _, _, _, _, _, _, _, _, _, _, _, _, _, _, _, _, _, _, _, _]) JU.f2 sizeOf35 rfl rfl (by first | rfl | assumption) rfl rfl) ?_)))))))
     rintro _ Me yc
     refine bP rfl (bg 0 underlying37 rfl sizeOf32 rfl (bg 10 underlying32 rfl sizeOf4 rfl (aG (aQ 10 (l' := [_, _, _, _, _, _, _, _, _, _, _, _, _, _, _, _, _, _, _, _, _, _, _, _, _, _, _, _, _, _, _, _, _, _]) yc sizeOf4 rfl rfl (by first | rfl | assumption) rfl rfl) ?_)))
     rintro _ Oe xO
     refine aA (aj ?_)
     have Sr := xO.drew
     have xB := aB.kp (Sr.f14.f14.f14.f14.f14.f14.f14.f14.f14.f14.f14.f14.f14.f14)
     refine yQ [4, 5] xB rfl (iE 0 rfl xB rfl (iE 1 rfl xB rfl (jF 2 rfl xB rfl (gG 3 rfl xB 33 underlying37 rfl sizeOf35 rfl (je 4 rfl xB (fun W hW => jE underlying35 rfl ((Kp.h hW)).get.2 rfl) (je 5 rfl xB (fun W hW => bW underlying101 rfl sizeOf101 rfl rfl ((Kp.h hW).f4).get.2) (jQ 6 rfl (pz Sr underlying35 sizeOf101 zeroValue101 rfl rfl rfl (by decide) (by decide)) ?_)))))))
     rintro ZR w16 tJ
     have Il := aB.kp (tJ.f15.f15.f15.f15.f15.f15.f15.f15.f15.f15.f15.f15.f15.f15.f15)
     refine dP Il (fun W hW => (Kp.h hW).right.f14.f14.f14.f14.f14.f14.f14.f14.f14.f14.f14.f14.f14.f14) ?_
     refine jQ 7 rfl (gX (tJ.jd none) underlying35 (show (prog.info? 101).map (fun i => (i.zero, i.size, i.bytes)) = some (some (.agg #[.int .i64 0, .slice none 0 0, .slice none 0 0]), 3, 56) by kernel_rfl) rfl rfl rfl ((tJ).aT) (aC (by first | rfl | assumption) (aC (by first | rfl | exact Rd.one ((tJ.f6).aT)) (aC (by first | rfl | exact Rd.one ((tJ.f7).aT)) bU))) (by omega) (by omega)) ?_
     rintro l17 Uw Fj
     have O9 := Fj.f2.right
     have Ie := aB.kp (O9.f15.f15.f15.f15.f15.f15.f15.f15.f15.f15.f15.f15.f15.f15.f15)
     refine fF Ie (by kernel_rfl) ?_
     refine jF 8 rfl Ie rfl (gG 9 rfl Ie 33 underlying37 rfl sizeOf35 rfl ?_)
     refine fH 10 rfl (by kernel_rfl) (aQ 33 (l' := [_, _, _, _, _, _, _, _, _, _, _, _, _, _, _, _, _, _, _, _, _, _, _, _, _, _, _, _, _, _, _, _, _, _]) O9.f2 sizeOf35 rfl rfl (by first | rfl | exact Rd.one ((O9).aT)) rfl rfl) ?_
     rintro _ RF BF
     have OV := aB.kp (BF.f15.f15.f15.f15.f15.f15.f15.f15.f15.f15.f15.f15.f15.f15.f15)
     refine fF OV (by kernel_rfl) ?_
     refine pU (aj (ay (ah (aO rfl (aU rfl (aA (aj (aJ (aI (.inl rfl) results127 rfl ?_)))))))))
     have X := (BF.f5.right.f12.right.f12.right.f12.f12.f12.f6.f12.f8.f12.f12.f9.f10.f12.f12).jv.swap.jv.swap
     have X2 := aB.rZ (es := []) X.BR.f3.f3.f4
     exact ⟨by rw [hE]; rfl, by rw [hS, zq (x := (nG s.c.L i j l, jk s.c.L i j l, jl s.c.L i j l)) hlen IB]; exact aB.O6 (s := { (s.iD (lH s.c.L i j l) (lI s.c.L s.c.pt i j l) (lX s.c.L s.c.mark i j l)).jM [] with put := [(nG s.c.L i j l, jk s.c.L i j l, jl s.c.L i j l)], c := { ((s.iD (lH s.c.L i j l) (lI s.c.L s.c.pt i j l) (lX s.c.L s.c.mark i j l)).jM []).c with run := false } }) (zq (x := (nG s.c.L i j l, jk s.c.L i j l, jl s.c.L i j l)) hlen IB ▸ Lj (sS dD _ _ _) hok) rfl X2⟩
    ·(try simp only [aH] at h4)
     have IB : ¬ 16384 ≤ dR (s.iD (lH s.c.L i j l) (lI s.c.L s.c.pt i j l) (lX s.c.L s.c.mark i j l)).here (s.iD (lH s.c.L i j l) (lI s.c.L s.c.pt i j l) (lX s.c.L s.c.mark i j l)).put := by show ¬ 16384 ≤ dR s.here s.put; omega
     refine aP (aj ?_)
     have EJ := Hc9.drew
     have lC := aB.kp (EJ.f14.f14.f14.f14.f14.f14.f14.f14.f14.f14.f14.f14.f14.f14)
     refine yQ [4, 5] lC rfl (iE 0 rfl lC rfl (iE 1 rfl lC rfl (jF 2 rfl lC rfl (gG 3 rfl lC 33 underlying37 rfl sizeOf35 rfl (je 4 rfl lC (fun W hW => jE underlying35 rfl ((Kp.h hW).f2).get.2 rfl) (je 5 rfl lC (fun W hW => bW underlying101 rfl sizeOf101 rfl rfl ((Kp.h hW).f4).get.2) (jQ 6 rfl (pz EJ underlying35 sizeOf101 zeroValue101 rfl rfl rfl (by decide) (by decide)) ?_)))))))
     rintro Yc Ry xM
     have zS := aB.kp (xM.f15.f15.f15.f15.f15.f15.f15.f15.f15.f15.f15.f15.f15.f15.f15)
     refine dP zS (fun W hW => (Kp.h hW).right.f14.f14.f14.f14.f14.f14.f14.f14.f14.f14.f14.f14.f14.f14) ?_
     refine jQ 7 rfl (gX xM.f13 underlying35 (show (prog.info? 101).map (fun i => (i.zero, i.size, i.bytes)) = some (some (.agg #[.int .i64 0, .slice none 0 0, .slice none 0 0]), 3, 56) by kernel_rfl) rfl rfl rfl ((xM).aT) (aC (by first | rfl | assumption) (aC (by first | rfl | exact Rd.one ((xM.f6).aT)) (aC (by first | rfl | exact Rd.one ((xM.f7).aT)) bU))) (by omega) (by omega)) ?_
     rintro l21 Ti oM
     have F6 := oM.f2.right
     have CV := aB.kp (F6.f14.f14.f14.f14.f14.f14.f14.f14.f14.f14.f14.f14.f14.f14)
     refine fF CV (by kernel_rfl) ?_
     refine jF 8 rfl CV rfl (gG 9 rfl CV 33 underlying37 rfl sizeOf35 rfl ?_)
     refine fH 10 rfl (by kernel_rfl) (aQ 33 (l' := [_, _, _, _, _, _, _, _, _, _, _, _, _, _, _, _, _, _, _, _, _, _, _, _, _, _, _, _, _, _, _, _, _, _]) F6.f3 sizeOf35 rfl rfl (by first | rfl | exact Rd.one ((F6).aT)) rfl rfl) ?_
     rintro _ RG yR
     have EF := aB.kp (yR.f14.f14.f14.f14.f14.f14.f14.f14.f14.f14.f14.f14.f14.f14)
     refine fF EF (by kernel_rfl) ?_
     refine pU (aj (ay (ah (aO rfl (aU rfl (aA (aj (aJ (aI (.inl rfl) results127 rfl ?_)))))))))
     have X := (yR.f5.right.f13.f12.f12.f6.f12.f8.f12.f12.f9.f13.f11.f13.f13).jv.swap.jv.swap
     rw [← fZ] at X
     have X2 := aB.rZ X.f3
     exact ⟨by rw [hE]; rfl, by rw [hS, zo (x := (nG s.c.L i j l, jk s.c.L i j l, jl s.c.L i j l)) hlen IB]; exact aB.O6 (s := { s.iD (lH s.c.L i j l) (lI s.c.L s.c.pt i j l) (lX s.c.L s.c.mark i j l) with put := s.put ++ [(nG s.c.L i j l, jk s.c.L i j l, jl s.c.L i j l)] }) (zo (x := (nG s.c.L i j l, jk s.c.L i j l, jl s.c.L i j l)) hlen IB ▸ Lj (sS dD _ _ _) hok) (by rw [List.map_append, bG]; rfl) X2⟩
   ·(try simp only [aH] at h3)
    have hlen : (jk s.c.L i j l).length + (jl s.c.L i j l).length = 0 := by omega
    refine aP (aj (ay (ah (aO rfl (aU rfl (aA (aj (aJ (aI (.inl rfl) results127 rfl ?_)))))))))
    exact ⟨by rw [hE]; rfl, by rw [hS, yJ (x := (nG s.c.L i j l, jk s.c.L i j l, jl s.c.L i j l)) hlen]; exact aB.dF (s := s.iD (lH s.c.L i j l) (lI s.c.L s.c.pt i j l) (lX s.c.L s.c.mark i j l)) (sS dD _ _ _) bG H5.right.right.right.f11.f11.f11.f11.f11.f11.f11.f11.f11.f10.f11⟩
  ·(try simp only [aH] at h2)
   have hlen : (jk s.c.L i j l).length + (jl s.c.L i j l).length = 0 := by rw [(hno h2).1, (hno h2).2]; rfl
   refine bD (bD (bD (bD (bD (bD (bD (bD (fG rfl rfl (aA (aj (oK (aP (aj (ay (ah (aO rfl (aU rfl (aA (aj (aJ (aI (.inl rfl) results127 rfl ?_)))))))))))))))))))))
   exact ⟨by rw [hE]; rfl, by rw [hS, yJ (x := (nG s.c.L i j l, jk s.c.L i j l, jl s.c.L i j l)) hlen]; exact aB.dF (s := s.iD (lH s.c.L i j l) (lI s.c.L s.c.pt i j l) (lX s.c.L s.c.mark i j l)) (sS dD _ _ _) bG H5.right.right.right.f11.f11.f11.f11.f11.f11.f11.f11.f11.f10.f11⟩
theorem DZ (H : aB w0 w (dw e s • F)) (hr : gJ w0 F .i32 v l) : fA prog 206 #[.pointer (some ⟨e, 0, none⟩), v] w fun v' w' => v' = .int .i64 (s.JG l) ∧ aB w0 w' (dw e (s.xu l) • F) := by
 refine fU func206 ntmps206 ?_
 dsimp only [aY, Nat.reduceAdd]
 refine ay (ah (aU rfl (aA (aj (ay (ay (ah (aO rfl (bZ rfl func94 (jm H) ?_)))))))))
 rintro _ _ ⟨rfl, rfl⟩
 refine aU rfl (aA (aj (ay (ah (aO rfl (aW (dK rfl rfl) (aA (aj (aN rfl (fun h1 => ?_) (fun h1 => ?_))))))))))
 ·(try simp only [aH] at h1)
  obtain ⟨hin, hpe⟩ := yG h1
  refine ay (ah (aO rfl (aU rfl (aA (aj (aJ (aK (aI (.inl rfl) results206 rfl ?_))))))))
  rw [hpe]
  exact ⟨by simp [aZ.JG, aZ.xu, aZ.jY, aZ.iV, hin], by rw [show s.xu l = s from by simp [aZ.JG, aZ.xu, aZ.jY, aZ.iV, hin]]; exact H⟩
 ·(try simp only [aH] at h1)
  have hin := vI h1
  refine aP (aj (ay ?_))
  obtain ⟨qy, qA, qB, qC, qE, qF, qG, qH, oH, mP, mQ, mV, mW, mX, mY, mZ, ng, ni, ny, nC, dD, bG, fZ, dG⟩ := (H).AA
  have MZ := dG.drew
  have sU := aB.kp (MZ.f11.f11.f11.f11.f11.f11.f11.f11.f11.f11.f11)
  refine yQ [5, 11] sU rfl (iE 0 rfl sU rfl (iE 1 rfl sU rfl (jF 2 rfl sU rfl (gG 3 rfl sU 0 underlying37 rfl sizeOf32 rfl (gG 4 rfl sU 0 underlying32 rfl sizeOf27 rfl (je 5 rfl sU (fun W hW => jE underlying27 rfl ((Kp.h hW)).get.2 rfl) (iE 7 rfl sU rfl (jF 8 rfl sU rfl (gG 9 rfl sU 0 underlying37 rfl sizeOf32 rfl (gG 10 rfl sU 0 underlying32 rfl sizeOf27 rfl (je 11 rfl sU (fun W hW => jE underlying27 rfl ((Kp.h hW)).get.2 rfl) (iE 13 rfl sU rfl (jQ 6 rfl (wK rfl func113 (nX MZ.f2)) ?_)))))))))))))
  rintro _ _ ⟨rfl, rfl⟩
  have DW := aB.kp (MZ.f11.f11.f11.f11.f11.f11.f11.f11.f11.f11.f11)
  refine dP DW (fun W hW => (Kp.h hW).f11.f11.f11.f11.f11.f11.f11.f11.f11.f11.f11) ?_
  refine jQ 12 rfl (wK rfl func113 (nX MZ.f2)) ?_
  rintro _ _ ⟨rfl, rfl⟩
  have wG := aB.kp (MZ.f11.f11.f11.f11.f11.f11.f11.f11.f11.f11.f11)
  refine fF wG (by kernel_rfl) ?_
  have TS := MZ.f11.f11.f11.f11.f11.f11.f11.f11.f11.f11.f11
  have TT := aB.dF (s := s) dD bG TS
  refine jQ 14 rfl (wK rfl func127 (vK TT (fun W HW => hr _ (HW)))) ?_
  rintro _ w8 ⟨rfl, H8⟩
  have MN := aB.kp (H8)
  refine fF MN (by kernel_rfl) ?_
  refine jc 15 rfl MN (fun _ => fO rfl) (pU (aj (aJ (aI (.inl rfl) results206 rfl ?_))))
  exact ⟨rfl, H8⟩
theorem Gf (H : aB w0 w (dw e s • F)) : fA prog 139 #[.pointer (some ⟨e, 0, none⟩), .int .i64 i, .int .i64 j] w fun v' w' => v' = .int .i64 (s.jY i j []) ∧ aB w0 w' (dw e (s.iV i j []) • F) := by
 refine fU func139 ntmps139 ?_
 dsimp only [aY, Nat.reduceAdd]
 refine ay (ah (aU rfl (aA (aj (ay (ah (aO rfl (aO rfl (aO rfl (bZ rfl func127 (vK H (fun W _ => jR.nil W _ none 0 (by decide))) ?_))))))))))
 rintro _ w1 ⟨rfl, H1⟩
 refine aU rfl (aA (aj (aJ (aI (.inl rfl) results139 rfl ?_))))
 exact ⟨rfl, H1⟩
end
end Go.Proofs.YtgndbccogcofjaaGreatDoor
end
section
namespace Go.Proofs.YtgndbccogcofjaaGreatDoor
open Go.RowKit
open _root_.Go.Proofs.Tryz
theorem Na {E : List (List Int)} {a : Nat} {way : Int} {l : List Int} (h : (uZ E a way l).1 ≠ 0) : (uZ E a way l).2 = (E, a) := by
  unfold uZ at *
  repeat' split at h
  all_goals first | (simp at h; done) | skip
  all_goals (repeat' (first | rw [if_pos (by assumption)] | rw [if_neg (by assumption)])) <;> rfl
theorem Nb {s : aZ} {i j : Int} {back : Bool} (h : (s.jO i j back).1 ≠ 0) : (s.jO i j back).2 = (s.c.E, s.c.at_) := Na h
theorem IC (s : aZ) : s.iD s.c.L s.c.pt s.c.mark = s := rfl
theorem Nc {s : aZ} {i j : Int} {l : List Int} (h : s.jY i j l ≠ 0) : s.iV i j l = s := by
  unfold aZ.iV aZ.jY at *
  split
  · rename_i hin
    rw [if_pos hin] at h
    rw [yJ (by rw [(nP h).1, (nP h).2]; rfl)]
    unfold lH lI lX
    rw [if_neg h, if_neg h, if_neg h]
    exact IC s
  · rfl
theorem wo {s : aZ} {i j : Int} {back : Bool} (h : s.jZ i j back ≠ 0) : s.jP i j back = s := by unfold aZ.jP; rw [if_neg h]
section
variable {w0 w : World} {F : HP} {e p h pr : Nat} {s : aZ} {i j x : Int} {back : Bool} {v : Value} {l : List Int}
theorem IE (H : aB w0 w (dw e s • F)) : fA prog 204 #[.pointer (some ⟨e, 0, none⟩), .int .i64 i, .int .i64 j, .bool back] w fun v' w' => v' = .int .i64 (s.jZ i j back) ∧ aB w0 w' (dw e (s.jP i j back) • F) := by
 refine fU func204 ntmps204 ?_
 dsimp only [aY, Nat.reduceAdd]
 refine ay (ah (aU rfl (aA (aj (ay (ay (ah (aO rfl (bZ rfl func94 (jm H) ?_)))))))))
 rintro _ _ ⟨rfl, rfl⟩
 refine aU rfl (aA (aj (ay (ah (aO rfl (aW (dK rfl rfl) (aA (aj (aN rfl (fun h1 => ?_) (fun h1 => ?_))))))))))
 ·(try simp only [aH] at h1)
  obtain ⟨hin, hpe⟩ := yG h1
  refine ay (ah (aO rfl (aU rfl (aA (aj (aJ (aK (aI (.inl rfl) results204 rfl ?_))))))))
  rw [hpe]
  exact ⟨by simp [aZ.jZ, aZ.jP, hin], by rw [show s.jP i j back = s from by simp [aZ.jZ, aZ.jP, hin]]; exact H⟩
 ·(try simp only [aH] at h1)
  have hin := vI h1
  refine aP (aj (ay (ay ?_)))
  obtain ⟨qy, qA, qB, qC, qE, qF, qG, qH, oH, mP, mQ, mV, mW, mX, mY, mZ, ng, ni, ny, nC, dD, bG, fZ, dG⟩ := (H).AA
  have hL : s.c.L.length ≤ 1024 := by obtain ⟨a, c, xs, f, t, h1, h2, h3, h4, h5, h6, h7, hc1, hc2, hl, H1⟩ := (dG.f2).buf; exact h4
  refine ah (aO rfl (aW (fE rfl rfl) (gB rfl (fun h2 => ?_) (fun h2 => ?_))))
  ·(try simp only [aH] at h2)
   refine bD (bD (bD (bD (bD (bD (bD (bD (fQ rfl rfl (aO rfl (bD (bD (bD (fQ rfl rfl (aO rfl (bD (bD (bD (bD (bD (bD (bD (bD (fQ rfl rfl (aA (aj (wB (ay (ah (aU rfl (aA (aj (aJ (aK (aI (.inl rfl) results204 rfl ?_))))))))))))))))))))))))))))))))))
   have hb : s.jB i j := by unfold aZ.jB; omega
   have hc : s.jZ i j back = 70 := by unfold aZ.jZ; rw [if_pos hin, if_pos hb]
   exact ⟨by rw [hc], by rw [wo (by rw [hc]; decide)]; exact aB.dF dD bG dG.f11.f11.f11.f11.f11.f11.f11.f11.f11.f11.f11⟩
  ·(try simp only [aH] at h2)
   refine bf (aO rfl (bf (aO rfl (bf (bP rfl (bf (bg 0 underlying37 rfl sizeOf32 rfl (bf (bg 0 underlying32 rfl sizeOf27 rfl (bf (dS underlying27 rfl (dG).get.2 rfl (bf (bZ rfl func186 (jV dG.f2) ?_)))))))))))))
   rintro _ w3 ⟨rfl, hD3⟩
   have HD3 := dG.qI hD3
   refine bf (aW (dn rfl rfl) (fG rfl rfl (gB rfl (fun h3 => ?_) (fun h3 => ?_))))
   ·(try simp only [aH] at h3)
    refine bD (bD (bD (fQ rfl rfl (aO rfl (bD (bD (bD (bD (bD (bD (bD (bD (fQ rfl rfl (aA (aj (wB (ay (ah (aU rfl (aA (aj (aJ (aK (aI (.inl rfl) results204 rfl ?_))))))))))))))))))))))))
    have hb : s.jB i j := by unfold aZ.jB; omega
    have hc : s.jZ i j back = 70 := by unfold aZ.jZ; rw [if_pos hin, if_pos hb]
    exact ⟨by rw [hc], by rw [wo (by rw [hc]; decide)]; exact aB.dF dD bG HD3.f11.f11.f11.f11.f11.f11.f11.f11.f11.f11.f11⟩
   ·(try simp only [aH] at h3)
    refine bf (aO rfl (bf (aO rfl (bf (aW (fE rfl rfl) (fG rfl rfl (gB rfl (fun h4 => ?_) (fun h4 => ?_))))))))
    ·(try simp only [aH] at h4)
     refine bD (bD (bD (bD (bD (bD (bD (bD (fQ rfl rfl (aA (aj (wB (ay (ah (aU rfl (aA (aj (aJ (aK (aI (.inl rfl) results204 rfl ?_)))))))))))))))))))
     have hb : s.jB i j := by unfold aZ.jB; omega
     have hc : s.jZ i j back = 70 := by unfold aZ.jZ; rw [if_pos hin, if_pos hb]
     exact ⟨by rw [hc], by rw [wo (by rw [hc]; decide)]; exact aB.dF dD bG HD3.f11.f11.f11.f11.f11.f11.f11.f11.f11.f11.f11⟩
    ·(try simp only [aH] at h4)
     refine bf (aO rfl (bf (aO rfl (bf (bP rfl (bf (bg 0 underlying37 rfl sizeOf32 rfl (bf (bg 0 underlying32 rfl sizeOf27 rfl (bf (dS underlying27 rfl (HD3).get.2 rfl (bf (bZ rfl func186 (jV HD3.f2) ?_)))))))))))))
     rintro _ w4 ⟨rfl, hD4⟩
     have HD4 := HD3.qI hD4
     refine bf (aW (dn rfl rfl) (fG rfl rfl (aA (aj (aN rfl (fun h5 => ?_) (fun h5 => ?_))))))
     ·(try simp only [aH] at h5)
      refine ay (ah (aU rfl (aA (aj (aJ (aK (aI (.inl rfl) results204 rfl ?_)))))))
      have hb : s.jB i j := by unfold aZ.jB; omega
      have hc : s.jZ i j back = 70 := by unfold aZ.jZ; rw [if_pos hin, if_pos hb]
      exact ⟨by rw [hc], by rw [wo (by rw [hc]; decide)]; exact aB.dF dD bG HD4.f11.f11.f11.f11.f11.f11.f11.f11.f11.f11.f11⟩
     ·(try simp only [aH] at h5)
      refine aP (aj (ay ?_))
      have hb : ¬ s.jB i j := by unfold aZ.jB; omega
      have hc : s.jZ i j back = (s.jO i j back).1 := by unfold aZ.jZ; rw [if_pos hin, if_neg hb]
      refine ah (aU rfl (aA (aj ?_)))
      refine Kt [(0, _), (1, _), (2, _)] (fun (_ : Unit) => [(10, .int .i64 (s.way back))]) (fun (_ : Unit) W => W = w4) (Sub.cons rfl (Sub.cons rfl (Sub.cons rfl (Sub.nil _)))) ?_ ?_
      ·rintro _ w5 rfl
       dsimp only [List.cons_append, List.nil_append]
       refine ay (ay ?_)
       have Sv := HD4.drew
       have mG := aB.kp (Sv.f11.f11.f11.f11.f11.f11.f11.f11.f11.f11.f11)
       refine yQ [4, 10] mG rfl (iE 0 rfl mG rfl (jF 1 rfl mG rfl (gG 2 rfl mG 0 underlying37 rfl sizeOf32 rfl (gG 3 rfl mG 1 underlying32 rfl sizeOf28 rfl (je 4 rfl mG (fun W hW => jE underlying28 rfl ((Kp.h hW)).get.2 rfl) (iE 5 rfl mG rfl (iE 6 rfl mG rfl (jF 7 rfl mG rfl (gG 8 rfl mG 0 underlying37 rfl sizeOf32 rfl (gG 9 rfl mG 0 underlying32 rfl sizeOf27 rfl (je 10 rfl mG (fun W hW => jE underlying27 rfl ((Kp.h hW)).get.2 rfl) (iE 12 rfl mG rfl (iE 13 rfl mG rfl (jQ 11 rfl (wK rfl func112 (oW Sv.f2)) ?_))))))))))))))
       rintro u6 w6 H6
       have Iy := aB.kp (H6.f12.f12.f12.f12.f12.f12.f12.f12.f12.f12.f12.f12)
       refine dP Iy (fun W hW => (Kp.h hW).right.f11.f11.f11.f11.f11.f11.f11.f11.f11.f10.f11) ?_
       refine jc 14 rfl Iy (fun _ => Bj ((H6).aT) underlying22 sizeOf21 rfl rfl rfl (by omega)) (jQ 15 rfl (wK rfl func233 (DT H6.f4 (fun W HW => jR.cut ((HW).aT) (by omega) (by omega)))) ?_)
       rintro _ w7 ⟨rfl, H7⟩
       have zf := aB.kp (H7.f12.f12.f12.f12.f12.f12.f12.f12.f12.f12.f12.f12)
       refine fF zf (by kernel_rfl) ?_
       refine jc 16 rfl zf (fun _ => fO rfl) (pU (aj (ay (ah (aO rfl (aW (dK rfl rfl) (aA (aj (aN rfl (fun h6 => ?_) (fun h6 => ?_))))))))))
       ·(try simp only [aH] at h6)
        refine ay (ah (aO rfl (aU rfl (aA (aj (aJ (aK (aI (.inl rfl) results204 rfl ?_))))))))
        exact ⟨by rw [hc]; rfl, by rw [wo (by rw [hc]; assumption)]; have HX := H7.f2.right.f11.f11.f11.f11.f11.f11.f11.f11.f9.f10.f11; rw [show uZ s.c.E s.c.at_ (s.way back) ((s.c.L.drop i.toNat).take (j.toNat - i.toNat)) = s.jO i j back from rfl, Nb (by assumption)] at HX; exact aB.dF dD bG HX⟩
       ·(try simp only [aH] at h6)
        refine aP (aj (ay (ah (aO rfl (aO rfl (bP rfl (bg 29 underlying37 rfl sizeOf4 rfl (aG (aQ 29 (l' := [_, _, _, _, _, _, _, _, _, _, _, _, _, _, _, _, _, _, _, _, _, _, _, _, _, _, _, _, _, _, _, _, _, _]) H7.f4 sizeOf4 rfl rfl (by first | rfl | assumption) rfl rfl) ?_))))))))
        rintro _ w8 H8
        refine bP rfl (bg 28 underlying37 rfl sizeOf3 rfl (aG (aQ 28 (l' := [_, _, _, _, _, _, _, _, _, _, _, _, _, _, _, _, _, _, _, _, _, _, _, _, _, _, _, _, _, _, _, _, _, _]) H8 sizeOf3 rfl rfl (by first | rfl | assumption) rfl rfl) ?_))
        rintro _ w9 H9
        refine aA (aj (ay (ah (aU rfl (aA (aj (aJ (aI (.inl rfl) results204 rfl ?_))))))))
        have hc0 : s.jZ i j back = 0 := by rw [hc]; assumption
        have hs : s.jP i j back = { s.yF (s.jO i j back).2.1 (s.jO i j back).2.2 with killed := true, cls := 1 } := by unfold aZ.jP; rw [if_pos hc0]
        exact ⟨by rw [hc0], by rw [hs]; exact aB.dF (s := { s.yF (s.jO i j back).2.1 (s.jO i j back).2.2 with killed := true, cls := 1 }) dD bG H9.f3.right.f11.f11.f11.f11.f11.f11.f11.f11.f10.f11.f11⟩
      ·skip
       refine ay (ah (aO rfl (bP rfl (bg 0 underlying37 rfl sizeOf32 rfl (bg 6 underlying32 rfl sizeOf3 rfl (dS underlying3 rfl (HD4).get.2 rfl (aW (eX rfl rfl) (gB rfl (fun h7 => ?_) (fun h7 => ?_)))))))))
       ·(try simp only [aH] at h7)
        refine bD (bD (bD (bD (fQ rfl rfl (aA (aj (wB (ay (ah (aU rfl (aA (aj (ay (ah (aO rfl (aA (aj (aN rfl (fun h8 => ?_) (fun h8 => ?_)))))))))))))))))))
        ·(try simp only [aH] at h8)
         refine ah (aU rfl (aA ?_))
         refine sW (()) ?_ ?_ ?_
         ·exact (Sub.xP rfl (by unfold aZ.way; simp_all) (Sub.nil _))
         ·exact (Sub.cons rfl (Sub.cons rfl (Sub.cons rfl (Sub.nil _))))
         ·(try dsimp only)
          first | done | exact rfl
        ·(try simp only [aH] at h8)
         refine aP ?_
         refine sW (()) ?_ ?_ ?_
         ·exact (Sub.xP rfl (by unfold aZ.way; simp_all) (Sub.nil _))
         ·exact (Sub.cons rfl (Sub.cons rfl (Sub.cons rfl (Sub.nil _))))
         ·(try dsimp only)
          first | done | exact rfl
       ·(try simp only [aH] at h7)
        refine bf (aO rfl (bf (bP rfl (bf (bg 29 underlying37 rfl sizeOf4 rfl (bf (dS underlying4 rfl (HD4).get.2 rfl (fG rfl rfl (aA (aj (aN rfl (fun h9 => ?_) (fun h9 => ?_))))))))))))
        ·(try simp only [aH] at h9)
         refine ay (ah (aU rfl (aA (aj (ay (ah (aO rfl (aA (aj (aN rfl (fun h10 => ?_) (fun h10 => ?_)))))))))))
         ·(try simp only [aH] at h10)
          refine ah (aU rfl (aA ?_))
          refine sW (()) ?_ ?_ ?_
          ·exact (Sub.xP rfl (by unfold aZ.way; simp_all) (Sub.nil _))
          ·exact (Sub.cons rfl (Sub.cons rfl (Sub.cons rfl (Sub.nil _))))
          ·(try dsimp only)
           first | done | exact rfl
         ·(try simp only [aH] at h10)
          refine aP ?_
          refine sW (()) ?_ ?_ ?_
          ·exact (Sub.xP rfl (by unfold aZ.way; simp_all) (Sub.nil _))
          ·exact (Sub.cons rfl (Sub.cons rfl (Sub.cons rfl (Sub.nil _))))
          ·(try dsimp only)
           first | done | exact rfl
        ·(try simp only [aH] at h9)
         refine aP ?_
         refine sW (()) ?_ ?_ ?_
         ·exact (Sub.xP rfl (by unfold aZ.way; simp_all) (Sub.nil _))
         ·exact (Sub.cons rfl (Sub.cons rfl (Sub.cons rfl (Sub.nil _))))
         ·(try dsimp only)
          first | done | exact rfl
theorem IG (H : aB w0 w (dw e s • F)) : fA prog 202 #[.pointer (some ⟨e, 0, none⟩), .int .i64 i, .int .i64 j, .bool back] w fun v' w' => v' = .int .i64 (s.ED i j back) ∧ aB w0 w' (dw e (s.nH i j back) • F) := by
 refine fU func202 ntmps202 ?_
 dsimp only [aY, Nat.reduceAdd]
 refine ay (ah (aU rfl (aA (aj (ay (ay (ah (aO rfl (aO rfl (aO rfl (aO rfl (bZ rfl func204 (IE H) ?_))))))))))))
 rintro _ w1 ⟨rfl, H1⟩
 refine aU rfl (aA (aj (ay (ah (aO rfl (aW (dK rfl rfl) (aA (aj (aN rfl (fun h1 => ?_) (fun h1 => ?_))))))))))
 ·(try simp only [aH] at h1)
  have hc := h1
  refine ay (ah (aO rfl (aU rfl (aA (aj (aJ (aK (aI (.inl rfl) results202 rfl ?_))))))))
  exact ⟨by unfold aZ.ED; rw [if_neg hc], by unfold aZ.nH; rw [if_neg hc]; have HX := H1; rw [wo hc] at HX; exact HX⟩
 ·(try simp only [aH] at h1)
  have hc := h1
  refine aP (aj (ay (ah (aO rfl (aO rfl (aO rfl (bZ rfl func139 (Gf H1) ?_)))))))
  rintro _ w2 ⟨rfl, H2⟩
  refine aU rfl (aA (aj (aJ (aI (.inl rfl) results202 rfl ?_))))
  exact ⟨by unfold aZ.ED; rw [if_pos hc], by unfold aZ.nH; rw [if_pos hc]; exact H2⟩
theorem Pe {E : List (List Int)} (h : ∀ x ∈ E, x.length ≤ 1024) (k : Nat) : (E.getD k []).length ≤ 1024 := by
  rw [List.getD_eq_getElem?_getD]
  cases hk : E[k]? with
  | none => simp
  | some x => exact h x (List.mem_of_getElem? hk)
theorem II (H : aB w0 w (dw e s • F)) : fA prog 146 #[.pointer (some ⟨e, 0, none⟩)] w fun v' w' => v' = .int .i64 s.uI ∧ aB w0 w' (dw e s.oP • F) := by
 refine fU func146 ntmps146 ?_
 dsimp only [aY, Nat.reduceAdd]
 refine ay (ah (aU rfl (aA (aj (ay (ay (ah (aO rfl (bZ rfl func94 (jm H) ?_)))))))))
 rintro _ _ ⟨rfl, rfl⟩
 refine aU rfl (aA (aj (ay (ah (aO rfl (aW (dK rfl rfl) (aA (aj (aN rfl (fun h1 => ?_) (fun h1 => ?_))))))))))
 ·(try simp only [aH] at h1)
  obtain ⟨hin, hpe⟩ := yG h1
  refine ay (ah (aO rfl (aU rfl (aA (aj (aJ (aK (aI (.inl rfl) results146 rfl ?_))))))))
  rw [hpe]
  exact ⟨by simp [aZ.uI, aZ.oP, hin], by rw [show s.oP = s from by simp [aZ.uI, aZ.oP, hin]]; exact H⟩
 ·(try simp only [aH] at h1)
  have hin := vI h1
  refine aP (aj (ay ?_))
  obtain ⟨qy, qA, qB, qC, qE, qF, qG, qH, oH, mP, mQ, mV, mW, mX, mY, mZ, ng, ni, ny, nC, dD, bG, fZ, dG⟩ := (H).AA
  have hL : s.c.L.length ≤ 1024 ∧ 0 ≤ s.c.pt ∧ s.c.pt ≤ s.c.L.length := by obtain ⟨a, c, xs, f, t, h1, h2, h3, h4, h5, h6, h7, hc1, hc2, hl, H1⟩ := (dG.f2).buf; exact ⟨h4, h6⟩
  have hR := Pe (Jq (dG.f3)).2.2 s.c.at_
  have hY : s.uI = if s.c.E.length = 0 then 6 else s.JG s.top := by unfold aZ.uI; rw [if_pos hin]
  refine ah (aO rfl (bP rfl (bg 0 underlying37 rfl sizeOf32 rfl (bg 1 underlying32 rfl sizeOf28 rfl (dS underlying28 rfl (dG).get.2 rfl (bZ rfl func205 (DV dG.f3) ?_))))))
  rintro _ w3 ⟨u3, rfl, H3⟩
  refine aO rfl (Ar rfl rfl (Ar rfl rfl (aU rfl (aU rfl (aA (aj (ay (ay (ah (aO rfl (aW (dK rfl rfl) (aA (aj (aN rfl (fun h2 => ?_) (fun h2 => ?_)))))))))))))))
  ·(try simp only [aH] at h2)
   have h6 : s.c.E.length = 0 := by by_cases hx : s.c.E.length = 0; exact hx; exact absurd (if_neg hx) h2
   rw [if_pos h6] at hY
   refine ay (ah (aO rfl (aU rfl (aA (aj (aJ (aK (aI (.inl rfl) results146 rfl ?_))))))))
   exact ⟨by rw [hY]; show Value.int _ (if s.c.E.length = 0 then 6 else 0) = _; rw [if_pos h6], by rw [show s.oP = s from by unfold aZ.oP; rw [if_neg (by rw [hY]; decide)]]; exact aB.dF dD bG H3.right.f11.f11.f11.f11.f11.f11.f11.f11.f9.f11.f11⟩
  ·(try simp only [aH] at h2)
   have h6 : ¬ s.c.E.length = 0 := fun hx => by rw [if_pos hx] at h2; exact absurd h2 (by decide)
   rw [if_neg h6] at hY
   refine aP (aj (ay (ah (aO rfl (bP rfl (bg 0 underlying37 rfl sizeOf32 rfl (bg 0 underlying32 rfl sizeOf27 rfl (dS underlying27 rfl (H3.f3).get.2 rfl (bZ rfl func113 (nX H3.f4) ?_)))))))))
   rintro _ _ ⟨rfl, rfl⟩
   refine aU rfl ?_
   have TS := H3.f12.f12.f12.f12.f12.f12.f12.f12.f10.f12.f12
   have TT := aB.dF (s := s) dD bG TS
   refine aA (aj (ay (ay (ah (aO rfl (aO rfl (bZ rfl func206 (DZ TT (fun W HW => (HW).aT)) ?_)))))))
   rintro _ w8 ⟨rfl, H8⟩
   refine aU rfl (aA (aj (ay (ah (aO rfl (aW (dK rfl rfl) (aA (aj (aN rfl (fun h3 => ?_) (fun h3 => ?_))))))))))
   ·(try simp only [aH] at h3)
    have hI : s.JG s.top ≠ 0 := h3
    refine ay (ah (aO rfl (aU rfl (aA (aj (aJ (aK (aI (.inl rfl) results146 rfl ?_))))))))
    exact ⟨by rw [hY]; rfl, by rw [show s.oP = s from by unfold aZ.oP; rw [if_neg (by rw [hY]; exact hI)]]; have HX := H8.f2.right; rw [show s.xu (s.c.E.getD s.c.at_ []) = s from Nc hI] at HX; exact HX⟩
   ·(try simp only [aH] at h3)
    have hI : s.JG s.top = 0 := h3
    obtain ⟨qy, qA, qB, qC, qE, qF, qG, qH, oH, mP, mQ, mV, mW, mX, mY, mZ, ng, ni, ny, nC, dD, bG, fZ, dG⟩ := (H8).AA
    refine aP (aj (ay (ah (aO rfl (bP rfl (bg 0 underlying37 rfl sizeOf32 rfl (bg 0 underlying32 rfl sizeOf27 rfl (dS underlying27 rfl (dG).get.2 rfl (aO rfl (bZ rfl func207 (Ae dG.f2) ?_))))))))))
    rintro _ w10 ⟨rfl, mJ⟩
    refine aA (aj (ay (ah (aO rfl (aO rfl (bP rfl (bg 30 underlying37 rfl sizeOf4 rfl (aG (aQ 30 (l' := [_, _, _, _, _, _, _, _, _, _, _, _, _, _, _, _, _, _, _, _, _, _, _, _, _, _, _, _, _, _, _, _, _, _]) mJ.f2 sizeOf4 rfl rfl (by first | rfl | assumption) rfl rfl) ?_))))))))
    rintro _ He uO
    refine bP rfl (bg 28 underlying37 rfl sizeOf3 rfl (aG (aQ 28 (l' := [_, _, _, _, _, _, _, _, _, _, _, _, _, _, _, _, _, _, _, _, _, _, _, _, _, _, _, _, _, _, _, _, _, _]) uO sizeOf3 rfl rfl (by first | rfl | assumption) rfl rfl) ?_))
    rintro _ w12 wE
    refine aA (aj (ay (ah (aO rfl (aO rfl (aO rfl (aO rfl (aO rfl (aW (gY ((wE.f12).aT) underlying22 rfl) (aW (fP rfl rfl (by omega)) (bP rfl (bg 0 underlying37 rfl sizeOf32 rfl (bg 7 underlying32 rfl sizeOf3 rfl (aG (aQ 7 (l' := [_, _, _, _, _, _, _, _, _, _, _, _, _, _, _, _, _, _, _, _, _, _, _, _, _, _, _, _, _, _, _, _, _, _]) wE sizeOf3 rfl rfl (by first | rfl | assumption) rfl rfl) ?_))))))))))))))
    rintro _ ND vY
    refine bP rfl (bg 0 underlying37 rfl sizeOf32 rfl (bg 8 underlying32 rfl sizeOf3 rfl (aG (aQ 8 (l' := [_, _, _, _, _, _, _, _, _, _, _, _, _, _, _, _, _, _, _, _, _, _, _, _, _, _, _, _, _, _, _, _, _, _]) vY sizeOf3 rfl rfl (by first | rfl | assumption) rfl rfl) ?_)))
    rintro _ Me yc
    refine aA (aj (ay (ah (aU rfl (aA (aj (aJ (aI (.inl rfl) results146 rfl ?_))))))))
    have hs : s.oP = { s.xu s.top with jX := true, cls := 2, c := { (s.xu s.top).c with mark := UC (s.xu s.top).c.L (s.xu s.top).c.mark s.c.pt, fr := s.c.pt, to := s.c.pt + s.top.length } } := by unfold aZ.oP; rw [if_pos (hY.trans hI)]
    exact ⟨by rw [hY, hI], by rw [hs]; exact aB.dF (s := { s.xu s.top with jX := true, cls := 2, c := { (s.xu s.top).c with mark := UC (s.xu s.top).c.L (s.xu s.top).c.mark s.c.pt, fr := s.c.pt, to := s.c.pt + s.top.length } }) dD bG yc.f12.right.f11.f11.f11.f11.f11.f11.f11.f11.f11.f11.f11⟩
end
end Go.Proofs.YtgndbccogcofjaaGreatDoor
end
section
namespace Go.Proofs.YtgndbccogcofjaaGreatDoor
open Go.RowKit
open _root_.Go.Proofs.Tryz
def uJ (g : List Int → Int → Int) (l : List Int) : Nat → Int → Int
  | 0, x => x
  | n + 1, x => if g l x = x then x else uJ g l n (g l x)
def Ll (l : List Int) (x : Int) : Int := pV l x
def AB (l : List Int) (x : Int) : Int := lu l x
def qo (l : List Int) (p n : Int) : Int := if 0 ≤ n then uJ Ll l n.toNat p else uJ AB l (-n).toNat p
def JX (w0 : World) (fv : Value) (g : List Int → Int → Int) : Prop := fv.oneCell' = true ∧ ∀ (F : HP) (W : World) (v : Value) (l : List Int) (x : Int), aB w0 W F → gJ w0 F .i32 v l → GR prog fv [v, .int .i64 x] W fun u W' => u = .int .i64 (g l x) ∧ aB w0 W' F
theorem Nh {w0 : World} (hT : tH w0) : JX w0 (.func (.func 129) #[] #[]) Ll :=
  ⟨rfl, fun F W v l x H hr => ⟨129, [], [], _, _, rfl, func129, rfl, rfl, Fz H hT hr⟩⟩
theorem IJ {w0 : World} (hT : tH w0) : JX w0 (.func (.func 130) #[] #[]) AB :=
  ⟨rfl, fun F W v l x H hr => ⟨130, [], [], _, _, rfl, func130, rfl, rfl, BI H hT hr⟩⟩
theorem Dc {g : List Int → Int → Int} {l : List Int} {n : Nat} {x : Int} (h : g l x = x) : uJ g l n x = x := by cases n with
  | zero => rfl
  | succ n => rw [uJ, if_pos h]
theorem JY {g : List Int → Int → Int} {l : List Int} {n : Nat} {x : Int} (hn : 0 < n) (h : ¬ g l x = x) : uJ g l n x = uJ g l (n - 1) (g l x) := by
  obtain ⟨m, rfl⟩ : ∃ m, n = m + 1 := ⟨n - 1, by omega⟩
  rw [uJ, if_neg h]; rfl
section
variable {w0 w : World} {F : HP} {c e : Nat} {s : aZ} {fv lv kv : Value} {l keys : List Int} {p m n nn x : Int} {g back : Bool} {gf : List Int → Int → Int}
theorem zV (H : aB w0 w (dB c (.cells #[.pointer (some ⟨e, 0, none⟩), lv, .int .i64 p, .int .i64 m, .int .i64 nn, .bool g, kv] 79 (0, 0)) • iL 21 .i32 lv l • F)) (hf : JX w0 fv gf) (hn : n ≤ 1000000) :
  fA prog 125 #[.pointer (some ⟨c, 0, none⟩), fv, .int .i64 x, .int .i64 n] w fun v w' => v = .int .i64 (uJ gf l n.toNat x) ∧ aB w0 w' (dB c (.cells #[.pointer (some ⟨e, 0, none⟩), lv, .int .i64 p, .int .i64 m, .int .i64 nn, .bool g, kv] 79 (0, 0)) • iL 21 .i32 lv l • F) := by
 refine fU func125 ntmps125 ?_
 dsimp only [aY, Nat.reduceAdd]
 refine ay (ah (aU rfl (aA (aj (ay (ay (ah (aO rfl (aO rfl (aA (aj (bC ?_))))))))))))
 refine ig [(0, _), (1, _), (10, _)] (fun (⟨k, y⟩ : Nat × Int) => [(2, .int .i64 y), (11, .int .i64 (k : Int))]) (fun (⟨k, y⟩ : Nat × Int) W => ((k : Int) ≤ max n 0 ∧ uJ gf l n.toNat x = uJ gf l (n.toNat - k) y) ∧ aB w0 W (dB c (.cells #[.pointer (some ⟨e, 0, none⟩), lv, .int .i64 p, .int .i64 m, .int .i64 nn, .bool g, kv] 79 (0, 0)) • iL 21 .i32 lv l • F)) (fun (⟨k, y⟩ : Nat × Int) => n.toNat - k) ((0, x)) (Sub.cons rfl (Sub.cons rfl (Sub.cons rfl (Sub.nil _)))) (Sub.cons rfl (Sub.cons rfl (Sub.nil _))) ⟨⟨by omega, rfl⟩, H⟩ ?_
 rintro ⟨k, y⟩ w1 ⟨⟨hk, he⟩, HL⟩
 dsimp only [List.cons_append, List.nil_append]
 refine ay (ah (aW (fE rfl rfl) (aA (aj (ay (aN rfl (fun h1 => ?_) (fun h1 => ?_)))))))
 ·(try simp only [aH] at h1)
  refine aP (aj (ay (bC (ay (ah (aO rfl (aO rfl (bP rfl (bg 1 underlying79 rfl sizeOf22 rfl (dS underlying22 rfl (HL).get.2 rfl (aO rfl (ji (rO rfl rfl (hf.2 _ _ _ l y HL (fun W HW => HW.f2.aT))) ?_))))))))))))
  rintro _ w2 ⟨rfl, H2⟩
  refine aU rfl (aA (aj (ay (ay (ah (aO rfl (aO rfl (aW (eX rfl rfl) (aA (aj (aN rfl (fun h2 => ?_) (fun h2 => ?_))))))))))))
  ·(try simp only [aH] at h2)
   have heq : gf l y = y := h2
   refine eU (aX ?_)
   refine nU (by decide) ?_
   refine aX (aX (bV (aj (ay (ah (aO rfl (aU rfl (aA (aj (aJ (aI (.inl rfl) results125 rfl ?_)))))))))))
   exact ⟨by rw [he]; first | rw [Dc heq] | (rw [show n.toNat - k = 0 from by omega]; rfl), H2⟩
  ·(try simp only [aH] at h2)
   have hne : ¬ gf l y = y := by have h9 := h2; simpa using h9
   refine aP (aj (ah (aO rfl (aU rfl (aA (aS (aj (ah (aW (fP rfl rfl (by omega)) (aO rfl (aA ?_)))))))))))
   refine fD ((k + 1, gf l y)) ?_ ?_ ?_ ?_
   ·exact (Sub.cons rfl (Sub.cons rfl (Sub.nil _)))
   ·exact (Sub.cons rfl (Sub.cons rfl (Sub.cons rfl (Sub.nil _))))
   ·(try dsimp only)
    first | done | exact ⟨⟨by omega, by rw [he, JY (by omega) hne]; rfl⟩, H2⟩
   ·(try dsimp only); omega
 ·(try simp only [aH] at h1)
  refine eU (aX (aX (bV (aj (ay (ah (aO rfl (aU rfl (aA (aj (aJ (aI (.inl rfl) results125 rfl ?_))))))))))))
  exact ⟨by rw [he]; first | rw [Dc heq] | (rw [show n.toNat - k = 0 from by omega]; rfl), HL⟩
end
end Go.Proofs.YtgndbccogcofjaaGreatDoor
end
section
namespace Go.Proofs.YtgndbccogcofjaaGreatDoor
open Go.RowKit Go.Lib
section
variable {P : Program} {L : List (Nat × Value)} {w0 w : World} {F : HP} {ty : TypeId} {b : Nat} {v d : Int} {t : TypeId}
theorem IK {u : Value} (hc : w.cell? ⟨b, 0, none⟩ = some u) (hz : w.frozen? ⟨b, 0, none⟩ = false) : (Extern.Atomic.storeT #[.pointer (some ⟨b, 0, none⟩), .int .i64 d]).run P w = .ok Extern.Atomic.none_ (w.setCell ⟨b, 0, none⟩ (.int .i64 d)) := by
  change Sem.run P (do store (← asAddr (.pointer (some ⟨b, 0, none⟩))) (.int .i64 d) .atomic; pure Extern.Atomic.none_) w = _
  simp [asAddr, run_store _ _ _ _ _ (rfl : (Value.int .i64 d).oneCell' = true), hc, hz, Result.andThen]
theorem Nj {f : FuncId} {args : List Operand} {ts : Array TypeId} {fn : Func} (H : aB w0 w (dB b (.cells #[.int .i64 v] t (0, 0)) • F)) (ha : xK L args = some [.pointer (some ⟨b, 0, none⟩), .int .i64 d])
    (hf : P.funcs[f]? = some fn) (hname : (fn.name == "runtime.NumGoroutine") = false) (hb : fn.body.isNone = true) (hn : Extern.findNext fn = none) (he : Extern.find fn = some Extern.Atomic.storeT) :
    pJ P L (.call ⟨.value (.func f), args.toArray, ts⟩) ty w fun u w' => aB w0 w' (dB b (.cells #[.int .i64 d] t (0, 0)) • F) :=
  O4 ha hf hname hb hn he (IK (fK H.get.2 rfl) (uQ H.get.2)) (H.setCell (i := 0) _)
theorem Df (H : aB w0 w (dB b (.cells #[.int .i64 v] t (0, 0)) • F)) : fA Tryz.prog 47 #[.pointer (some ⟨b, 0, none⟩), .int .i64 d] w fun u w' => aB w0 w' (dB b (.cells #[.int .i64 d] t (0, 0)) • F) := by
 refine fU Tryz.func47 Tryz.ntmps47 ?_
 dsimp only [aY, Nat.reduceAdd]
 refine ah (aO rfl (bP rfl (bg 0 Tryz.underlying106 rfl Tryz.sizeOf2 rfl (aO rfl (ji (Nj H rfl Tryz.func119 rfl rfl (by kernel_rfl) (by kernel_rfl)) ?_)))))
 rintro _ w1 H1
 refine aA (fM (.inr rfl) Tryz.results47 ?_)
 exact H1
end
end Go.Proofs.YtgndbccogcofjaaGreatDoor
end
