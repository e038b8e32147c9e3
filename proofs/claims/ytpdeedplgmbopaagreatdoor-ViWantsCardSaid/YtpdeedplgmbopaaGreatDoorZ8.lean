import Derived.Test.YtpdeedplgmbopaaGreatDoorZ4
import Derived.Test.YtpdeedplgmbopaaGreatDoorZ7
import Derived.Test.YtpdeedplgmbopaaGreatDoorZ6
import Derived.Test.YtpdeedplgmbopaaGreatDoorZ3
import Derived.Maps.RangeRun
set_option linter.unusedSimpArgs false
set_option linter.unusedVariables false
/- Texts of mine, joined, their names in short: UList7 Grp0 Hist EdM Map. -/
section
namespace Go.Proofs.YtpdeedplgmbopaaGreatDoor
open Go.RowKit
open _root_.Go.Proofs.Tryz
theorem SH {G : List (List iU)} {k : Nat} (hk : k < G.length) : G.take (k + 1) = G.take k ++ [G.getD k []] := by
  rw [List.take_succ_eq_append_getElem hk, List.getD_eq_getElem?_getD, List.getElem?_eq_getElem hk]
  rfl
theorem FB {G : List (List iU)} {g : List iU} (h : g ∈ G) : g.length ≤ (G.map List.length).sum := by
  induction G with
  | nil => cases h
  | cons x G ih =>
    rw [List.map_cons, List.sum_cons]
    rcases List.mem_cons.1 h with rfl | h
    · omega
    · have := ih h; omega
theorem MQ {es : List dV} {l : List iU} (h : es.map dV.says = l) (hl : ∀ e ∈ l, EB e) : ∀ k, k < es.length → EB (es.getD k default).says := fun k hk =>
  hl _ (by rw [← h]; exact List.mem_map_of_mem (vJ hk))
section
variable {w0 w : World} {F : HP} {p : Nat} {G : List (List iU)} {N : List iU} {op : Int}
theorem Gu (H : V w0 w (iQ p G N op • F)) : gQ prog 130 #[.pointer (some ⟨p, 0, none⟩)] w fun v w' => ∃ q, v = .pointer (some ⟨q, 0, none⟩) ∧ V w0 w' (iQ q G N op • iQ p G N op • F) := by
 refine iC func130 ntmps130 ?_
 refine jk O (aO (bT O (eG O func158 (mY H) ?_)))
 rintro _ _ ⟨rfl, rfl⟩
 refine iK (pW (fV (aO ?_)))
 obtain ⟨AY, yO, nR, mV, lD, uZ, sF, Gi, Gj, MJ, qH⟩ := (H).yw
 have hLn : mV.length ≤ 16384 := by omega
 have hBn := MQ sF lD.2.2.2.2.2
 refine aB (nG O O (Z (fD bn O sizeOf235 O O (qH).get.2) (jy (fM (l := [_, _, _, _, _]) qH zeroValue235 O) ?_)))
 rintro _ w3 ⟨b3, rfl, H3⟩
 refine aK (bW 0 (l' := [_, _, _, _, _]) (us := [_, _, _, _, _]) H3 sizeOf235 O O O (aX (by first | rfl | exact Rd.one ((H3.f3).aT)) (aX (by first | rfl | exact Rd.one ((H3.f5).aT)) (aA (aA (aA bD))))) O O) ?_
 rintro _ w4 H4
 refine qQ O (dL O (bF 0 bn O dA O (bF 1 bI O bJ O (gq aV O (H4.f2).get.2 O (eG O func173 (zT H4.f6.f6 hBn hLn) ?_)))))
 rintro u5 w5 ⟨fs5, acU, H5⟩
 obtain ⟨es1, rfl⟩ : ∃ q, q = fs5 := ⟨_, rfl⟩
 have hes1 := acU
 refine bF 0 bn O dA O (bF 0 bI O fA O (aK (XC 0 H5.f5 fA) ?_))
 rintro _ w6 H6
 refine bF 0 bn O dA O (bF 1 bI O bJ O (aK (fE 1 (l' := [_, _, _, _, _]) H6 bJ O O (by first | rfl | exact Rd.one ((H6.f2).aT)) O O) ?_))
 rintro _ w7 H7
 refine pJ (bT O (dL O (bF 0 bn O dA O (bF 0 bI O fA O (gq bg O (H7.f6).get.2 O (Z (iW ((H7.f7).aT) bg O) (bQ O (iK (aZ ?_)))))))))
 obtain ⟨Y4, Y5, abG, -⟩ := ((H7.f7).aT).form
 subst abG
 refine fC [(3, _), (25, _), (26, _)] (fun (k : Nat) => [(27, .int .i64 (k : Int))]) (fun (k : Nat) W => k ≤ nR.length ∧ ∃ gu, ∃ hs : List (Value × List dV), hs.map (fun g => g.2.map dV.says) = G.take k ∧ V w0 W (dM b3 (.cells #[gu, u5, .int .i64 op, .int .i64 (iH G N : Nat), .bool true] 235 (0, 0)) • Row 80 1 gu hs.length (hs.map (·.1)) • nO hs • Row 189 3 u5 es1.length (es1.flatMap dV.enc) • kK es1 • dM p (.cells #[(.slice Y4 (nR.length) Y5), yO, .int .i64 op, .int .i64 (iH G N : Nat), .bool true] 235 (0, 0)) • Row 80 1 (.slice Y4 (nR.length) Y5) nR.length (nR.map (·.1)) • nO nR • Row 189 3 yO mV.length (mV.flatMap dV.enc) • kK mV • F)) (fun (k : Nat) => nR.length - k) (0) uF kD ⟨by omega, _, [], O, ((H7.f5.f5.f8.f8.f8.f6.f8.f8).Gh none).XM.f5⟩ ?_
 rintro k w9 ⟨hk, gu, hs, Va, HL⟩
 dsimp only [List.cons_append, List.nil_append]
 refine iy (Z (gZ O O) (pJ (bG O (fun h1 => ?_) (fun h1 => ?_))))
 ·(try simp only [aF] at h1)
  refine fV (aO (aZ (iy ?_)))
  obtain ⟨aeh, aei, rfl⟩ := Rd.pos ((HL.f7).aT) (by omega)
  refine Z (dw bg bJ O O (by omega)) ?_
  refine Z (dR (bV aV O) O (by first | exact Rd.jT ((HL.f7).aT) (by omega) | exact Rd.rP ((HL.f7).aT) (by omega) | exact Rd.rO ((HL.f7).aT) (by omega))) ?_
  have hkl : k < nR.length := by omega
  rw [show (nR.map (·.1)).getD k undef = (nR.getD k default).1 from by simp [List.getD_eq_getElem?_getD, hkl]]
  obtain ⟨gl, wO, hg⟩ : ∃ gl wO, nR.getD k default = (gl, wO) := ⟨_, _, rfl⟩
  rw [hg]
  have Vb := HL.f8
  have Vd := Vb.Fz hkl hg
  have hge : wO.map dV.says = G.getD k [] := by
   rw [← uZ]
   have h9 : (nR.map (fun g => g.2.map dV.says)).getD k [] = (nR.getD k default).2.map dV.says := by simp [List.getD_eq_getElem?_getD, hkl]
   rw [h9, hg]
  have hgm : G.getD k [] ∈ G := vJ (by omega)
  have hBg := MQ hge (lD.2.2.2.2.1 _ hgm)
  have hLg : wO.length ≤ 16384 := by
   have h8 := lD.2.1
   unfold iH at h8
   have h7 := congrArg List.length hge
   rw [List.length_map] at h7
   have h6 := FB hgm
   omega
  have hhl := congrArg List.length Va
  rw [List.length_map, List.length_take] at hhl
  refine gB O ?_
  have Y6 := Vd.drew
  have Gv := V.kp (Y6.f11.f11.f11.f11.f11.f11.f11.f11.f11.f11.f11)
  refine yj [2] Gv O (gU 0 O Gv 0 bn O dA O (gU 1 O Gv 0 bI O fA O (jQ 2 O Gv (fun W hW => kC bg O ((Kp.h hW).f3).get.2 O) (jE 3 O Gv O (oC 4 O (yJ O func173 (xI Y6 hBg hLg)) ?_)))))
  rintro u12 w12 ⟨U8, Y3, uG⟩
  obtain ⟨es2, rfl⟩ : ∃ q, q = U8 := ⟨_, rfl⟩
  have hes2 := Y3
  have Gn := V.kp (uG.f13.f13.f13.f13.f13.f13.f13.f13.f13.f13.f13.f13.f13)
  refine dX Gn (fun W hW => (Kp.h hW).right.right.f11.f11.f11.f11.f11.f11.f11.f11.f11.f11.f11) ?_
  refine oC 5 O (jH (vs := [_]) uG bg bJ lG O O O (by decide) (aX (by first | rfl | exact Rd.one ((uG).aT)) bD)) ?_
  rintro l13 Pn wZ
  have uP := V.kp (wZ.f14.f14.f14.f14.f14.f14.f14.f14.f14.f14.f14.f14.f14.f14)
  refine dX uP (fun W hW => (Kp.h hW).right.f13.f13.f13.f13.f13.f13.f13.f13.f13.f13.f13.f13.f13) ?_
  refine oC 6 O (fZ wZ.f7 bg EG O O O ((wZ).aT) (aX (by first | rfl | exact Rd.one ((wZ.f2).aT)) bD) (by omega) (by omega)) ?_
  rintro l14 Si Aw
  have Z4 := Aw.f2.right
  have uQ := V.kp (Z4.f13.f13.f13.f13.f13.f13.f13.f13.f13.f13.f13.f13.f13)
  refine gV uQ (by kernel_rfl) ?_
  refine gU 7 O uQ 0 bn O dA O (gU 8 O uQ 0 bI O fA O ?_)
  refine fQ 9 O (by kernel_rfl) (fE 0 (l' := [_, _, _, _, _]) Z4.f6 fA O O (by first | rfl | exact Rd.one ((Z4).aT)) O O) ?_
  rintro _ w16 yL
  have Dj := V.kp (yL.f13.f13.f13.f13.f13.f13.f13.f13.f13.f13.f13.f13.f13)
  refine gV Dj (by kernel_rfl) ?_
  have X := V.oV (es := es2) (yL.f5.right.f12.f12.f7.f12.f12.f12.f12.f8.f12.f10.f12.f12).deep
  have HN := (V.qM X.swap).XM.f3
  have hnew : (hs ++ [(u12, es2)]).map (fun g => g.2.map dV.says) = G.take (k + 1) := by rw [List.map_append, Va, SH (by omega), ← hge, ← hes2]; rfl
  refine qR (aJ (aW (aB (Z (fK O O (by omega)) (bQ O (bP ?_))))))
  refine dH (k + 1) ?_ ?_ ?_ ?_
  ·exact kD
  ·exact uF
  ·(try dsimp only)
   first | done | exact ⟨by omega, _, _, hnew, HN⟩
  ·(try dsimp only); omega
 ·(try simp only [aF] at h1)
  refine dn (aI (aI (aY (aW (jd O (dG results130 O ?_))))))
  rw [List.take_of_length_le (by omega)] at Va
  have X := V.nP (gs := hs) (now := es1) lD Va (hes1.trans sF) rfl (HL.f10.f10.f10.f10.f10.f10.f10.f10.f10.f10)
  have Y := V.nP lD uZ sF rfl X.f6.f6.f6.f6.f6
  exact ⟨_, O, Y.swap⟩
end
end Go.Proofs.YtpdeedplgmbopaaGreatDoor
end
section
namespace Go.Proofs.YtpdeedplgmbopaaGreatDoor
open Go.RowKit
def BN (G : List (List iU)) (N : List iU) : List (List iU) := (mJ G N).reverse
def KJ (N : List iU) : List (List iU) := if N = [] then [] else [N]
theorem Ve (N : List iU) : (KJ N).length ≤ 1 := by unfold KJ; split <;> simp
theorem XR (G : List (List iU)) (N : List iU) : BN G N = KJ N ++ G.reverse := by
  unfold BN KJ mJ; split <;> simp
end Go.Proofs.YtpdeedplgmbopaaGreatDoor
end
section
namespace Go.Proofs.YtpdeedplgmbopaaGreatDoor
open Go.RowKit
open _root_.Go.Proofs.Tryz
abbrev pO := ByteArray × Int
def zi (x : pO) : List Value := [.string x.1, .int .i64 x.2]
theorem Jy (x : pO) : (zi x).length = 2 := rfl
def acV (x : pO) : Prop := x.1.size ≤ 16384 ∧ 0 ≤ x.2
def HOk (hl : List pO) (base most : Int) : Prop := hl.length ≤ 4096 ∧ 1 ≤ base ∧ base ≤ 4611686018427387904 ∧ (hl.length : Int) ≤ most ∧ most ≤ 4096 ∧ ∀ x ∈ hl, acV x
def gJ (p : Nat) (hl : List pO) (base most : Int) : HP := rV fun (v : Value) => fact (HOk hl base most) • dM p (.cells #[v, .int .i64 base, .int .i64 most] 153 (0, 0)) • Row 218 2 v hl.length (hl.flatMap zi)
section
variable {P : Program} {L : List (Nat × Value)} {w0 w : World} {F : HP} {ty : TypeId} {p : Nat} {hl : List pO} {base most : Int} {v : Value}
theorem Gw {t e sz : Nat} {z : Value} (H : V w0 w F) (ht : P.underlying t = some (.slice e)) (hs : ∀ w, (sizeOf e).run P w = .ok sz w) (hz : ∀ w, (zeroValue e).run P w = .ok z w) :
    uw P L (.buildSlice t 0 #[]) ty w fun v w' => V w0 w' (Row e sz v 0 [] • F) := by
  refine vS (v := .slice (some ⟨w.heap.size, 0, none⟩) 0 0) (w' := w.alloc (.cells #[] e)) ?_ ?_
  · intro ρ hρ d pos nD g
    simp only [execOp, Instr.buildSlice, Sem.run_bind, run_underlying ht, Result.andThen_ok, hs]
    have h0 : Array.map (fun (_ : Nat) => (default : Value)) (Array.range 0) = #[] := Array.eq_empty_of_size_eq_zero (by simp)
    simp [Instr.fill, newRow, h0]
  · exact (H.alloc _).right.iP _
theorem V.hist (H : V w0 w (gJ p hl base most • F)) : ∃ v, HOk hl base most ∧ V w0 w (dM p (.cells #[v, .int .i64 base, .int .i64 most] 153 (0, 0)) • Row 218 2 v hl.length (hl.flatMap zi) • F) := by
  obtain ⟨v, H⟩ := H.lQ
  obtain ⟨h, H⟩ := H.flat.fact
  exact ⟨v, h, H.flat⟩
theorem V.Dk (h : HOk hl base most) (H : V w0 w (dM p (.cells #[v, .int .i64 base, .int .i64 most] 153 (0, 0)) • Row 218 2 v hl.length (hl.flatMap zi) • F)) : V w0 w (gJ p hl base most • F) :=
  V.iD v (V.deep (V.kE h H.deep))
theorem QV {hl : List pO} : ∀ x ∈ hl.flatMap zi, x.oneCell' = true := by
  intro x hx
  obtain ⟨e, _, hx⟩ := List.mem_flatMap.1 hx
  simp [zi] at hx
  rcases hx with rfl | rfl <;> rfl
theorem XT : (prog.info? 218).map (fun i => (i.zero, i.size, i.bytes)) = some (some (.agg #[.string .empty, .int .i64 0]), 2, 24) := by kernel_rfl
theorem KL (H : V w0 w F) (hr : OO w0 F 2 v hl.length (hl.flatMap zi)) (hb : hl.length ≤ 1099511627776) :
    gQ prog 150 #[v] w fun v' w' => V w0 w' (Row 218 2 v' hl.length (hl.flatMap zi) • F) := by
  obtain ⟨hlen, a, c, rfl, h1, h2, h3⟩ := hr w H
  refine iC func150 ntmps150 ?_
  refine jk O (aO (bT O (Z (zB fG O O) ?_)))
  refine iV O (fun h1 => ?_) (fun h1 => ?_)
  · (try simp only [aF] at h1)
    refine jd O (aG (dG results150 O ?_))
    obtain rfl : a = none := by simpa using h1
    obtain rfl : hl = [] := by
      cases hl with
      | nil => rfl
      | cons x l => obtain ⟨b, o, e, _⟩ := h3 (by simp); cases e
    exact H.iP none
  · (try simp only [aF] at h1)
    refine fV (iy (jy (Gw H fG sizeOf218 zeroValue218) ?_))
    rintro _ w1 H1
    refine bQ O (jy (fZ H1 fG XT O O O (hr.under _ H1) QV (by omega) (by omega)) ?_)
    rintro _ w2 H2
    refine fF O (dG results150 O ?_)
    exact H2.of_eq (by rw [Nat.zero_add, List.nil_append])
theorem Bh (H : V w0 w (gJ p hl base most • F)) : gQ prog 149 #[.pointer (some ⟨p, 0, none⟩)] w fun v w' => v = .bool false ∧ w = w' := by
 refine iC func149 ntmps149 ?_
 refine jk O (aO ?_)
 obtain ⟨PE, A8, zy⟩ := (H).hist
 refine aB (bQ O (Z (iT jO O O) (jL O (fun h1 => ?_) (fun h1 => ?_))))
 ·(try simp only [aF] at h1)
  exfalso; first | contradiction | omega
 ·(try simp only [aF] at h1)
  refine bC (bQ O (bC (dL O (bC (bF 0 kL O sizeOf151 O (bC (bF 1 kM O sizeOf2 O (bC (gq underlying2 O (zy).get.2 O (bC (Z (dO O O) (iJ O O (fF O (dG results149 O ?_))))))))))))))
  exact ⟨by rw [show (base == 0) = false from by rw [beq_eq_false_iff_ne]; have := A8.2.1; omega], O⟩
theorem KN {n : Int} (H : V w0 w F) (hn : 0 ≤ n ∧ n ≤ 4096) : gQ prog 55 #[.int .i64 n] w fun v w' => ∃ p, v = .tuple #[.pointer (some ⟨p, 0, none⟩), .int .i64 0] ∧ V w0 w' (gJ p [] 1 n • F) := by
  refine iC func55 ntmps55 ?_
  refine iy (fU O (vZ O (bT O (Z (gZ O O) (jL O (fun h1 => ?_) (fun h1 => ?_))))))
  · (try simp only [aF] at h1)
    exfalso; first | contradiction | omega
  · (try simp only [aF] at h1)
    refine bC (bQ O (bC (Z (jc O O) (iJ O O (iV O (fun h2 => ?_) (fun h2 => ?_))))))
    · (try simp only [aF] at h2)
      exfalso; first | contradiction | omega
    · (try simp only [aF] at h2)
      refine fV (bT O (Z (pI (pl := #[(0, 1), (1, 1), (2, 1)]) (#[_, _, _]) kM zeroValue151 (fun w => by kernel_rfl) O (O)) (Z (pI (pl := #[(0, 3)]) (#[_, _, _]) kL zeroValue153 (fun w => by kernel_rfl) O (O)) (jy (iO (l := [_, _, _]) H O O) ?_))))
      rintro _ w1 ⟨b1, rfl, H1⟩
      refine fU O (fF O (FX results55 O O ?_))
      exact ⟨_, O, V.Dk (v := .slice none 0 0) ⟨by simp, by decide, by decide, by simp; omega, by omega, by simp⟩ ((H1.iP none).swap)⟩
theorem og (H : V w0 w (gJ p hl base most • F)) : gQ prog 117 #[.pointer (some ⟨p, 0, none⟩)] w fun v w' => v = .int .i64 hl.length ∧ V w0 w' (gJ p hl base most • F) := by
 refine iC func117 ntmps117 ?_
 refine jk O (aO (bT O (eG O func149 (Bh H) ?_)))
 rintro _ _ ⟨rfl, rfl⟩
 refine iK (pW (fV (aO ?_)))
 obtain ⟨PE, A8, zy⟩ := (H).hist
 refine aB (nG O O (bF 0 kL O sizeOf151 O (bF 0 kM O sizeOf149 O (gq fG O (zy).get.2 O (Z (iW ((zy.f2).aT) fG O) (fF O (dG results117 O ?_)))))))
 have O9 := zy.f2.f2
 have OB := V.Dk A8 O9
 exact ⟨O, OB⟩
theorem rF (H : V w0 w (gJ p hl base most • F)) : gQ prog 109 #[.pointer (some ⟨p, 0, none⟩)] w fun v w' => ∃ q, v = .pointer (some ⟨q, 0, none⟩) ∧ V w0 w' (gJ q hl base most • gJ p hl base most • F) := by
 refine iC func109 ntmps109 ?_
 refine jk O (aO (bT O (eG O func149 (Bh H) ?_)))
 rintro _ _ ⟨rfl, rfl⟩
 refine iK (pW (fV (aO ?_)))
 obtain ⟨PE, A8, zy⟩ := (H).hist
 have hcl := A8.1
 have AZ := zy.drew
 have gW := V.kp (AZ.f2.f2)
 refine yj [4, 10, 15] gW O (jE 0 O gW O (kJ 1 O gW O (gU 2 O gW 0 kL O sizeOf151 O (gU 3 O gW 0 kM O sizeOf149 O (jQ 4 O gW (fun W hW => kC fG O ((Kp.h hW)).get.2 O) (jE 6 O gW O (kJ 7 O gW O (gU 8 O gW 0 kL O sizeOf151 O (gU 9 O gW 1 kM O sizeOf2 O (jQ 10 O gW (fun W hW => kC underlying2 O ((Kp.h hW)).get.2 O) (jE 11 O gW O (kJ 12 O gW O (gU 13 O gW 0 kL O sizeOf151 O (gU 14 O gW 2 kM O aj O (jQ 15 O gW (fun W hW => kC aN O ((Kp.h hW)).get.2 O) (oC 5 O (yJ O func150 (KL AZ (fun W HW => (HW.f2).aT) (by omega))) ?_))))))))))))))))
 rintro u3 w3 H3
 have yN := V.kp (H3.f3.f3.f3)
 refine dX yN (fun W hW => (Kp.h hW).right.f2.f2) ?_
 obtain ⟨au3, cu3, eu3, -⟩ := ((H3).aT).form
 subst eu3
 refine jC 16 O yN (fun _ => pI (pl := #[(0, 1), (1, 1), (2, 1)]) (#[_, _, _]) kM zeroValue151 (fun w => by kernel_rfl) O (O)) (jC 17 O yN (fun _ => pI (pl := #[(0, 3)]) (#[_, _, _]) kL zeroValue153 (fun w => by kernel_rfl) O (O)) (oC 18 O (iO (l := [_, _, _]) H3 O O) ?_))
 rintro _ w4 ⟨b4, rfl, H4⟩
 have xG := V.kp (H4.f4.f4.f4.f4)
 refine gV xG (by kernel_rfl) ?_
 refine jC 19 O xG (fun _ => dQ O) (qR (aW (mG (dG results109 O ?_))))
 have XU := H4.f4.f4
 have XV := V.Dk A8 XU
 exact ⟨_, O, V.Dk A8 XV.f3.f3⟩
end
end Go.Proofs.YtpdeedplgmbopaaGreatDoor
end
section
namespace Go.Proofs.YtpdeedplgmbopaaGreatDoor
open Go.RowKit
def wQ {β : Type} (f : Int → β) (a : Int) (v : β) : Int → β := fun x => if x = a then v else f x
theorem nS {β : Type} (f : Int → β) (a : Int) (v : β) : wQ f a v a = v := if_pos rfl
theorem tX {β : Type} (f : Int → β) {a x : Int} (v : β) (h : x ≠ a) : wQ f a v x = f x := if_neg h
structure mD where
  L : List Int
  pt : Int
  mark : Int
  E : List (List Int)
  at_ : Nat
  place : Int
  tx : Int → Option ByteArray
  un : Int → List (List iU)
  mode : Int
  over : Bool
  last : Int
  fr : Int
  to : Int
  res : Int
  run : Bool
structure dJ where
  c : mD
  hl : List pO
  base : Int
  most : Int
  qO : Int
  given : Bool
  minus : Bool
  arg : Int
  inn : Bool
  was : mD
  cls : Int
  killed : Bool
  lH : Bool
  argues : Bool
  whole : Bool
  put : List iU
def MR (hl : List pO) (k : Int) : pO := if 0 ≤ k ∧ k < hl.length then hl.getD k.toNat default else (.empty, 0)
def yT (hl : List pO) (k : Int) : ByteArray := (MR hl k).1
def jq (hl : List pO) (tx : Int → Option ByteArray) (k : Int) : ByteArray := (tx k).getD (yT hl k)
def Az (hl : List pO) (tx : Int → Option ByteArray) (place : Int) (k : Nat) : Bool := decide ((k : Int) ≠ place) && !((jq hl tx k).toList == (yT hl k).toList)
def pR (hl : List pO) (tx : Int → Option ByteArray) (place : Int) (n : Nat) : List (Int × ByteArray) := ((List.range n).filter (Az hl tx place)).map fun (k : Nat) => ((k : Int), jq hl tx k)
def yU (hl : List pO) (tx : Int → Option ByteArray) (place : Int) : List (Int × ByteArray) := pR hl tx place hl.length ++ (if place ≠ hl.length then [((hl.length : Int), jq hl tx hl.length)] else [])
def qx (G : List (List iU)) (inn : Bool) (put : List iU) (typed run : Bool) : Int := (G.length : Int) + if inn && !put.isEmpty && !(typed && run) then 1 else 0
namespace dJ
variable (s : dJ)
def here : List (List iU) := s.c.un s.c.place
def wB (G : List (List iU)) : dJ := { s with c := { s.c with un := wQ s.c.un s.c.place G } }
def yx : Int := if s.inn then 0 else 1
def BO : Int := if s.inn then 1 else 0
def jZ : dJ := if s.inn then s else { s with inn := true, was := s.c, cls := 0, killed := false, lH := false, argues := false, whole := true, put := [] }
def kY (on : Bool) : List (List iU) := if s.put = [] then s.here else if on then (match s.here.getLast? with | some g => s.here.dropLast ++ [g ++ s.put] | none => [s.put]) else s.here ++ [s.put]
def gI (on : Bool) : dJ := if s.put = [] then s else { s.wB (s.kY on) with put := [] }
def zU : dJ := { s with given := false, minus := false, arg := -1 }
def zS (err : Int) : Int := if s.inn then err else 1
def xJ : dJ := { s.zU with inn := false, c := { s.was with last := 0, fr := 0, to := 0 }, qO := IntKind.i64.wrap (s.qO + 1), put := [] }
def typed : Bool := s.cls == 3 && s.whole
def jU : dJ := { (if s.argues then s else s.zU) with inn := false }
def oN : dJ :=
  let t := s.jU.gI (s.typed && s.c.run)
  let c := { t.c with run := s.typed && (!s.put.isEmpty || s.c.run), last := s.cls }
  { t with c := if s.cls ≠ 2 then { c with fr := 0, to := 0 } else c }
def BP (err : Int) : dJ := if s.inn then (if err = 0 then s.oN else s.xJ) else s
def QW (x : iU) : dJ :=
  if x.2.1.length + x.2.2.length = 0 then s else
  if 16384 ≤ iH s.here s.put then { s.wB [] with put := [x], c := { (s.wB []).c with run := false } } else { s with put := s.put ++ [x] }
def yV (L : List Int) (pt mk : Int) : dJ := { s with c := { s.c with L := L, pt := pt, mark := mk } }
def KO (i j : Int) (l : List Int) : Int := if s.inn then ED s.c.L i j l else 1
def QX (i j : Int) (l : List Int) : dJ := if s.inn then (s.yV (YX s.c.L i j l) (YZ s.c.L s.c.pt i j l) (Y0 s.c.L s.c.mark i j l)).QW (abk s.c.L i j l, abl s.c.L i j l, abm s.c.L i j l) else s
def acW (l : List Int) : Int := s.KO s.c.pt s.c.pt l
def acX (l : List Int) : dJ := s.QX s.c.pt s.c.pt l
def Vf (l : List Int) : Int := if s.c.over then min (s.c.pt + l.length) s.c.L.length else s.c.pt
def abH (l : List Int) : Int := s.KO s.c.pt (s.Vf l) l
def aej (l : List Int) : dJ := if s.inn then (let t := s.QX s.c.pt (s.Vf l) l; if s.abH l = 0 ∧ s.cls = 0 then { t with cls := 3 } else t) else s
def way (back : Bool) : Int := if s.c.last = 1 ∨ s.killed = true then (if back then 2 else 1) else 0
def KP (i j : Int) : Prop := i < 0 ∨ s.c.L.length < i ∨ j < i ∨ s.c.L.length < j
instance (i j : Int) : Decidable (s.KP i j) := by unfold KP; infer_instance
def cut (i j : Int) : List Int := (s.c.L.drop i.toNat).take (j.toNat - i.toNat)
def Vg (i j : Int) (back : Bool) : Int × List (List Int) × Nat := abx s.c.E s.c.at_ (s.way back) (s.cut i j)
def QY (i j : Int) (back : Bool) : Int := if s.inn then (if s.KP i j then 70 else (s.Vg i j back).1) else 1
def XW (E : List (List Int)) (a : Nat) : dJ := { s with c := { s.c with E := E, at_ := a } }
def Y7 (i j : Int) (back : Bool) : dJ := if s.QY i j back = 0 then { s.XW (s.Vg i j back).2.1 (s.Vg i j back).2.2 with killed := true, cls := 1 } else s
def aek (i j : Int) (back : Bool) : Int := if s.QY i j back = 0 then (s.Y7 i j back).KO i j [] else s.QY i j back
def ael (i j : Int) (back : Bool) : dJ := if s.QY i j back = 0 then (s.Y7 i j back).QX i j [] else s
def top : List Int := s.c.E.getD s.c.at_ []
def abI : Int := if s.inn then (if s.c.E.length = 0 then 6 else s.acW s.top) else 1
def aem : dJ :=
  if s.abI = 0 then
    let t := s.acX s.top
    { t with lH := true, cls := 2, c := { t.c with mark := smM t.c.L t.c.mark s.c.pt, fr := s.c.pt, to := s.c.pt + s.top.length } }
  else s
def Z5 (n : Int) : List Int := s.c.E.getD (D7 s.c.E.length s.c.at_ n) []
def acY (n : Int) : Int := if s.inn then (if s.c.last ≠ 2 ∨ s.lH = true then 6 else if s.c.E.length = 0 then 6 else s.KO s.c.fr s.c.to (s.Z5 n)) else 1
def aeK (n : Int) : dJ :=
  if s.acY n = 0 then
    let t := s.QX s.c.fr s.c.to (s.Z5 n)
    { t with lH := true, cls := 2, c := { t.c with E := s.c.E, at_ := D7 s.c.E.length s.c.at_ n, fr := s.c.fr, to := s.c.fr + (s.Z5 n).length } }
  else s
def kills : List (List Int) := s.c.E.drop s.c.at_ ++ s.c.E.take s.c.at_
def Jz (x : Int) : Int := if s.inn then mvE s.c.L.length x else 1
def EJ (x : Int) : dJ := if s.inn then s.yV s.c.L (mvP s.c.L.length s.c.pt x) s.c.mark else s
def aen (x : Int) : Int := if s.inn then smE s.c.L x else 1
def aeo (x : Int) : dJ := if s.inn then s.yV s.c.L s.c.pt (smM s.c.L s.c.mark x) else s
def aep : Int := if s.inn then swE s.c.mark else 1
def aeq : dJ := if s.inn then s.yV s.c.L (swP s.c.pt s.c.mark) (swM s.c.pt s.c.mark) else s
def acZ (b : List Int × Int × Int) (x : iU) : List Int × Int × Int := (acO b.1 x.1 x.2.1 x.2.2, acP b.1 b.2.1 x.1 x.2.1 x.2.2, acQ b.1 b.2.2 x.1 x.2.1 x.2.2)
def apps (b : List Int × Int × Int) (l : List iU) : List Int × Int × Int := l.foldl acZ b
def Y8 (l : List iU) : dJ := let b := apps (s.c.L, s.c.pt, s.c.mark) l; s.yV b.1 b.2.1 b.2.2
def QZ : dJ := { s with whole := false, c := { s.c with run := false } }
def aer : dJ := if s.inn then (let t := s.gI false; if t.here = [] then t else ((t.wB t.here.dropLast).Y8 ((t.here.getLastD []).reverse.map Gs)).QZ) else s
def U5 : Int := if s.inn then (if (s.gI false).here = [] then 6 else 0) else 1
def aeL : dJ := if s.inn then (let t := s.gI false; if t.here = [] then t else ((t.wB []).Y8 (t.here.flatten.reverse.map Gs)).QZ) else s
def Z7 (d : Int) : Int := if s.inn then (if d < 0 ∨ 9 < d then 1 else 0) else 1
def ac0 (d : Int) : dJ := if s.Z7 d = 0 then { s with given := true, argues := true, arg := min (max s.arg 0 * 10 + d) 1000000 } else s
def aeM : dJ := if s.inn then { s with given := true, argues := true, minus := !s.minus } else s
def ac1 (n : Int) : Int := if s.inn then (if 1000000 < n ∨ n < -1000000 then 1 else 0) else 1
def aeN (n : Int) : dJ := if s.ac1 n = 0 then { s with given := true, argues := true, minus := decide (n < 0), arg := max n (-n) } else s
def count : Int := if s.given then (let n := if s.arg < 0 then 1 else s.arg; if s.minus then -n else n) else 1
def rG (m : Int) : Int := if s.inn then (if m < 0 ∨ 2 < m then 1 else 0) else 1
def yA (m : Int) : dJ := if s.rG m = 0 then { s with c := { s.c with mode := m } } else s
def aes (b : Bool) : dJ := if s.inn then { s with c := { s.c with over := b } } else s
def ac2 (r : Int) : Int := if s.inn then (if r < 1 ∨ 3 < r then 1 else 0) else 1
def aeO (r : Int) : dJ := if s.ac2 r = 0 then { s with c := { s.c with res := r } } else s
def first (k : Int) : ByteArray := yT s.hl k
def stands (k : Int) : ByteArray := (s.c.tx k).getD (s.first k)
def Vh : Int := qx s.here s.inn s.put s.typed s.c.run
def saved : List (Int × ByteArray) := yU s.hl s.c.tx s.c.place
def zk : Int := if s.inn then s.was.last else s.c.last
def Ue : Int := if s.inn then s.was.fr else s.c.fr
def Uf : Int := if s.inn then s.was.to else s.c.to
end dJ
def mD.fresh (l : List Int) (E : List (List Int)) (a : Nat) (place mode : Int) : mD := ⟨l, l.length, -1, E, a, place, fun _ => none, fun _ => [], mode, false, 0, 0, 0, 0, false⟩
def dJ.start (s : dJ) (hl : List pO) (base most : Int) (l : List Int) : dJ := { s with c := mD.fresh l s.c.E s.c.at_ hl.length s.c.mode, hl := hl, base := base, most := most, given := false, minus := false, arg := -1 }
def dJ.new (hl : List pO) (base most : Int) : dJ :=
  let c := mD.fresh [] [] 0 hl.length 0
  { c := c, hl := hl, base := base, most := most, qO := 0, given := false, minus := false, arg := -1, inn := false, was := c, cls := 0, killed := false, lH := false, argues := false, whole := false, put := [] }
end Go.Proofs.YtpdeedplgmbopaaGreatDoor
end
section
namespace Go.Proofs.YtpdeedplgmbopaaGreatDoor
open Go.RowKit Go.MapKept
structure Key (α : Type) where
  mkKey ::
  d : TypeDesc
  mk : α → Value
  key : ∀ a, IsKey d (mk a)
  inj : ∀ a b, mk a = mk b → a = b
  onto : ∀ v, IsKey d v → ∃ a, mk a = v
def wC (k : IntKind) : Key Int := ⟨.int k, .int k, fun _ => rfl, fun _ _ h => by cases h; rfl, fun v h => by
  cases v <;> simp [IsKey] at h
  subst h
  exact ⟨_, rfl⟩⟩
abbrev qI : Key Int := wC .i64
abbrev SI : Key Int := wC .i32
def aeP : Key ByteArray := ⟨.string, .string, fun _ => trivial, fun _ _ h => by cases h; rfl, fun v h => by
  cases v <;> simp [IsKey] at h
  exact ⟨_, rfl⟩⟩
section
variable {α : Type} {K : Key α} {f : α → Option Value} {es : Array MapEntry} {clock : Nat}
def Bj (K : Key α) (f : α → Option Value) (es : Array MapEntry) (clock : Nat) : Prop :=
  Stamped es clock ∧ (∀ x ∈ es.toList, IsKey K.d x.key) ∧ ∀ a v, f a = some v ↔ ∃ x ∈ es.toList, x.key = K.mk a ∧ x.val = v
def fJ (K : Key α) (b : Nat) (f : α → Option Value) : HP := rV fun (x : Array MapEntry × Nat) => fact (Bj K f x.1 x.2) • dM b (.map x.1 x.2)
def upd [DecidableEq α] {β : Type} (f : α → Option β) (a : α) (v : β) : α → Option β := fun x => if x = a then some v else f x
theorem Bj.same (h : Bj K f es clock) {x y : MapEntry} (hx : x ∈ es.toList) (hy : y ∈ es.toList) (e : x.key = y.key) : x = y := by
  have hn := h.1.2.2
  rw [List.Nodup, List.pairwise_map] at hn
  exact yB hn hx hy e
where
  yB : ∀ {l : List MapEntry}, l.Pairwise (fun x y => x.key ≠ y.key) → ∀ {x y : MapEntry}, x ∈ l → y ∈ l → x.key = y.key → x = y
    | [], _, _, _, hx, _, _ => by cases hx
    | z :: l, hp, x, y, hx, hy, e => by
      rw [List.pairwise_cons] at hp
      rcases List.mem_cons.1 hx with hx1 | hx1
      · rcases List.mem_cons.1 hy with hy1 | hy1
        · rw [hx1, hy1]
        · exact absurd (by rw [← hx1]; exact e) (hp.1 _ hy1)
      · rcases List.mem_cons.1 hy with hy1 | hy1
        · exact absurd (by rw [← hy1]; exact e.symm) (hp.1 _ hx1)
        · exact yB hp.2 hx1 hy1 e
theorem Q5 : ∀ {l : List MapEntry}, (l.map (·.born)).Nodup → ∀ {x y : MapEntry}, x ∈ l → y ∈ l → x.born = y.born → x = y
  | [], _, _, _, hx, _, _ => by cases hx
  | z :: l, hp, x, y, hx, hy, e => by
    rw [List.map_cons, List.nodup_cons] at hp
    rcases List.mem_cons.1 hx with hx1 | hx1
    · rcases List.mem_cons.1 hy with hy1 | hy1
      · rw [hx1, hy1]
      · exact absurd (List.mem_map.2 ⟨y, hy1, by rw [← hx1]; exact e.symm⟩) hp.1
    · rcases List.mem_cons.1 hy with hy1 | hy1
      · exact absurd (List.mem_map.2 ⟨x, hx1, by rw [← hy1]; exact e⟩) hp.1
      · exact Q5 hp.2 hx1 hy1 e
theorem Bj.find (h : Bj K f es clock) (a : α) : (Instr.findNow K.d (K.mk a) es.toList 0 = some none ∧ f a = none ∧ ∀ x ∈ es.toList, x.key ≠ K.mk a) ∨
    ∃ j e, Instr.findNow K.d (K.mk a) es.toList 0 = some (some (j, e.val)) ∧ es.toList[j]? = some e ∧ e.key = K.mk a ∧ f a = some e.val := by
  rcases findNow_spec (K.key a) es.toList 0 h.2.1 with ⟨h1, h2⟩ | ⟨j, e, h1, h2, h3⟩
  · refine .inl ⟨h1, ?_, h2⟩
    cases hf : f a with
    | none => rfl
    | some v =>
      obtain ⟨x, hx, hk, _⟩ := (h.2.2 a v).1 hf
      exact absurd hk (h2 x hx)
  · refine .inr ⟨j, e, by simpa using h1, h2, h3, (h.2.2 a e.val).2 ⟨e, List.mem_of_getElem? h2, h3, rfl⟩⟩
theorem MS (K : Key α) : Bj K (fun _ => none) #[] 0 := ⟨stamped_empty 0, by simp, by simp⟩
end
section
variable {α : Type} {K : Key α} {f : α → Option Value} {es : Array MapEntry} {clock : Nat} {P : Program} {L : List (Nat × Value)} {w w0 : World} {ty : TypeId} {x y z : Operand} {F : HP} {b it n : Nat} {a : α} {S : List α}
theorem V.map (H : V w0 w (fJ K b f • F)) : ∃ es clock, Bj K f es clock ∧ V w0 w (dM b (.map es clock) • F) := by
  obtain ⟨⟨es, clock⟩, H⟩ := H.lQ
  obtain ⟨h, H⟩ := H.flat.fact
  exact ⟨es, clock, h, H⟩
theorem V.KQ (h : Bj K f es clock) (H : V w0 w (dM b (.map es clock) • F)) : V w0 w (fJ K b f • F) := V.iD (es, clock) (V.deep (V.kE h H))
theorem MV {t kt et : TypeId} {zv : Value} (ok : Bool) (h : Bj K f es clock) (hb : w.heap[b]? = some (.map es clock)) (ht : P.underlying t = some (.map kt et)) (hk : P.underlying kt = some K.d) (hz : (zeroValue et).run P w = .ok zv w) :
    (Instr.lookup t (.map (some b)) (K.mk a) ok).run P w = .ok (if ok then .tuple #[(f a).getD zv, .bool (f a).isSome] else (f a).getD zv) w := by
  rcases h.find a with ⟨h1, h2, _⟩ | ⟨j, e, h1, h2, h3, h4⟩
  · simp [Instr.lookup, run_underlying ht, MapKept.run_getObj_map hb, MapKept.run_checkKey hk (K.key a), MapKept.run_findKey hk h1, hz, Result.andThen, h2]
  · simp [Instr.lookup, run_underlying ht, MapKept.run_getObj_map hb, MapKept.run_checkKey hk (K.key a), MapKept.run_findKey hk h1, Result.andThen, h4]
theorem MW {t kt et : TypeId} {zv : Value} (H : V w0 w (fJ K b f • F)) (ht : P.underlying t = some (.map kt et)) (hk : P.underlying kt = some K.d) (hz : ∀ w, (zeroValue et).run P w = .ok zv w)
    (hx : ev L x = some (.map (some b))) (hy : ev L y = some (K.mk a)) : Val P L (.lookup t x y false) ty w ((f a).getD zv) w := fun ρ hρ _ _ _ _ => by
  obtain ⟨es, clock, h, H⟩ := H.map
  simp only [execOp, hρ _ _ hx, hρ _ _ hy, Sem.run_bind]
  rw [MV false h H.get.2 ht hk (hz w)]
  rfl
theorem zV {t kt et : TypeId} {zv : Value} (H : V w0 w (fJ K b f • F)) (ht : P.underlying t = some (.map kt et)) (hk : P.underlying kt = some K.d) (hz : ∀ w, (zeroValue et).run P w = .ok zv w)
    (hx : ev L x = some (.map (some b))) (hy : ev L y = some (K.mk a)) : Val P L (.lookup t x y true) ty w (.tuple #[(f a).getD zv, .bool (f a).isSome]) w := fun ρ hρ _ _ _ _ => by
  obtain ⟨es, clock, h, H⟩ := H.map
  simp only [execOp, hρ _ _ hx, hρ _ _ hy, Sem.run_bind]
  rw [MV true h H.get.2 ht hk (hz w)]
  rfl
theorem jJ {t : TypeId} (K : Key α) (H : V w0 w F) : uw P L (.makeMap t none) ty w fun v w' => ∃ b, v = .map (some b) ∧ V w0 w' (fJ K b (fun _ => none) • F) := by
  refine vS (v := .map (some w.heap.size)) (w' := w.alloc (.map #[] 0)) ?_ ⟨_, rfl, V.KQ (MS K) (H.alloc _)⟩
  intro ρ hρ d pos nD g
  simp only [execOp, Sem.run_bind, Option.map_none]
  rfl
theorem MX {o : Obj} {b : Nat} (h : w.heap[b]? = some o) (o' : Obj) : ({ w with heap := w.heap.setIfInBounds b o' } : World).heap[b]? = some o' ∧ ∀ k, k ≠ b → ({ w with heap := w.heap.setIfInBounds b o' } : World).heap[k]? = w.heap[k]? := by
  have hlt := lt_of_block h
  exact ⟨by simp [hlt], fun k hk => by simp [Ne.symm hk]⟩
theorem V.setB {o : Obj} (H : V w0 w (dM b o • F)) (o' : Obj) : V w0 (ChangeMaps.setBlock w b o') (dM b o' • F) :=
  V.turn (w := w) (w' := ChangeMaps.setBlock w b o') H rfl rfl rfl (by simp [ChangeMaps.setBlock]) (MX H.get.2 o').1 fun k hk _ => (MX H.get.2 o').2 k hk
theorem tY [DecidableEq α] {t kt et : TypeId} {v : Value} (H : V w0 w (fJ K b f • F)) (ht : P.underlying t = some (.map kt et)) (hk : P.underlying kt = some K.d)
    (hx : ev L x = some (.map (some b))) (hy : ev L y = some (K.mk a)) (hz : ev L z = some v) : uw P L (.mapUpdate t x y z) ty w fun _ w' => V w0 w' (fJ K b (upd f a v) • F) := by
  obtain ⟨es, clock, h, H⟩ := H.map
  have hb := H.get.2
  rcases h.find a with ⟨h1, h2, h3⟩ | ⟨j, e, h1, h2, h3, h4⟩
  · have hrun : (Instr.mapUpdate t (.map (some b)) (K.mk a) v).run P w = .ok () (ChangeMaps.setBlock w b (.map (es.push { key := K.mk a, val := v, born := clock }) (clock + 1))) := by
      simp [ChangeMaps.setBlock, Instr.mapUpdate, run_underlying ht, MapKept.run_getObj_map hb, MapKept.run_checkKey hk (K.key a), MapKept.run_findKey hk h1, MapKept.run_setObj_map _ hb, Result.andThen]
    refine FQ (w' := ChangeMaps.setBlock w b (.map (es.push { key := K.mk a, val := v, born := clock }) (clock + 1))) (fun ρ hρ d pos nD g => ?_) (V.KQ (es := es.push { key := K.mk a, val := v, born := clock }) (clock := clock + 1) ⟨stamped_push h.1 h3, ?_, ?_⟩ (H.setB _))
    · simp only [execOp, hρ _ _ hx, hρ _ _ hy, hρ _ _ hz, Sem.run_bind]
      rw [hrun]; rfl
    · intro q hq
      simp only [Array.toList_push, List.mem_append, List.mem_singleton] at hq
      rcases hq with hq | rfl
      · exact h.2.1 q hq
      · exact K.key a
    · intro c u
      simp only [Array.toList_push, List.mem_append, List.mem_singleton, upd]
      by_cases hc : c = a
      · subst hc
        rw [if_pos rfl]
        constructor
        · intro hu; cases hu; exact ⟨_, .inr rfl, rfl, rfl⟩
        · rintro ⟨q, hq | rfl, hqk, Vj⟩
          · exact absurd hqk (h3 q hq)
          · rw [← Vj]
      · rw [if_neg hc, h.2.2 c u]
        constructor
        · rintro ⟨q, hq, hqk, Vj⟩; exact ⟨q, .inl hq, hqk, Vj⟩
        · rintro ⟨q, hq | rfl, hqk, Vj⟩
          · exact ⟨q, hq, hqk, Vj⟩
          · exact absurd (K.inj _ _ hqk).symm hc
  · have hj : es[j]? = some e := by simpa using h2
    have hrun : (Instr.mapUpdate t (.map (some b)) (K.mk a) v).run P w = .ok () (ChangeMaps.setBlock w b (.map (es.modify j fun e => { e with key := K.mk a, val := v }) clock)) := by
      simp [ChangeMaps.setBlock, Instr.mapUpdate, run_underlying ht, MapKept.run_getObj_map hb, MapKept.run_checkKey hk (K.key a), MapKept.run_findKey hk h1, hj, h3, MapKept.run_keyThatStays (K.key a), MapKept.run_setObj_map _ hb, Result.andThen]
    have hkey : ∀ e', es[j]? = some e' → ({ e' with key := K.mk a, val := v } : MapEntry).key = e'.key := fun e' he' => by rw [hj] at he'; cases he'; exact h3.symm
    have hst : Stamped (es.modify j fun e => { e with key := K.mk a, val := v }) clock := stamped_modify h.1 _ _ (fun _ _ => rfl) (fun e' _ he' => hkey e' he')
    have hmem : ∀ q, q ∈ (es.modify j fun e => { e with key := K.mk a, val := v }).toList ↔ (q = { e with key := K.mk a, val := v } ∨ q ∈ es.toList ∧ q.key ≠ K.mk a) := by
      intro q
      have hee : e ∈ es.toList := List.mem_of_getElem? h2
      constructor
      · intro hq
        obtain ⟨i, hi⟩ := List.getElem?_of_mem hq
        rw [Array.getElem?_toList, Array.getElem?_modify] at hi
        by_cases hij : j = i
        · subst hij
          rw [if_pos rfl, hj] at hi
          exact .inl (by simpa using hi.symm)
        · rw [if_neg hij] at hi
          have hqm : q ∈ es.toList := Array.mem_toList_iff.2 (Array.mem_of_getElem? hi)
          refine .inr ⟨hqm, fun hqk => ?_⟩
          have he : q = e := h.same hqm hee (hqk.trans h3.symm)
          subst he
          have hn := h.1.2.1
          have h5 : (es.toList.map (·.born))[i]? = some q.born := by rw [List.getElem?_map, Array.getElem?_toList, hi]; rfl
          have h6 : (es.toList.map (·.born))[j]? = some q.born := by rw [List.getElem?_map, h2]; rfl
          have hlt : i < (es.toList.map (·.born)).length := (List.getElem?_eq_some_iff.1 h5).1
          have hlt2 : j < (es.toList.map (·.born)).length := (List.getElem?_eq_some_iff.1 h6).1
          exact hij ((List.getElem?_inj hlt2 hn).1 (h6.trans h5.symm))
      · rintro (rfl | ⟨hq, hqk⟩)
        · apply List.mem_of_getElem? (i := j)
          rw [Array.getElem?_toList, Array.getElem?_modify, if_pos rfl, hj]; rfl
        · obtain ⟨i, hi⟩ := List.getElem?_of_mem hq
          have hij : j ≠ i := by
            rintro rfl
            rw [h2] at hi; cases hi
            exact hqk h3
          apply List.mem_of_getElem? (i := i)
          rw [Array.getElem?_toList, Array.getElem?_modify, if_neg hij]
          rwa [Array.getElem?_toList] at hi
    refine FQ (w' := ChangeMaps.setBlock w b (.map (es.modify j fun e => { e with key := K.mk a, val := v }) clock)) (fun ρ hρ d pos nD g => ?_) (V.KQ (es := es.modify j fun e => { e with key := K.mk a, val := v }) (clock := clock) ⟨hst, isKey_modify h.2.1 _ _ hkey, ?_⟩ (H.setB _))
    · simp only [execOp, hρ _ _ hx, hρ _ _ hy, hρ _ _ hz, Sem.run_bind]
      rw [hrun]; rfl
    · intro c u
      simp only [hmem, upd]
      by_cases hc : c = a
      · subst hc
        rw [if_pos rfl]
        constructor
        · intro hu; cases hu; exact ⟨_, .inl rfl, rfl, rfl⟩
        · rintro ⟨q, rfl | ⟨hq, hqn⟩, hqk, Vj⟩
          · rw [← Vj]
          · exact absurd hqk hqn
      · rw [if_neg hc, h.2.2 c u]
        constructor
        · rintro ⟨q, hq, hqk, Vj⟩
          exact ⟨q, .inr ⟨hq, fun hqa => hc (K.inj _ _ (hqk.symm.trans hqa))⟩, hqk, Vj⟩
        · rintro ⟨q, rfl | ⟨hq, hqn⟩, hqk, Vj⟩
          · exact absurd (K.inj _ _ hqk).symm hc
          · exact ⟨q, hq, hqk, Vj⟩
def Z8 (K : Key α) (f : α → Option Value) (es : Array MapEntry) (clock : Nat) (seen : Array Nat) (S : List α) (n : Nat) : Prop :=
  Bj K f es clock ∧ (∃ xs : List MapEntry, (∀ x ∈ xs, x ∈ es.toList) ∧ seen.toList = xs.map (·.born) ∧ xs.map (·.key) = S.map K.mk) ∧ (leftOf es seen).size = n
def Bl (K : Key α) (b it : Nat) (f : α → Option Value) (S : List α) (n : Nat) : HP := rV fun (x : Array MapEntry × Nat × Array Nat) => fact (Z8 K f x.1 x.2.1 x.2.2 S n) • dM it (.mapIter (some b) x.2.1 x.2.2 x.2.1) • dM b (.map x.1 x.2.1)
theorem V.Vk (H : V w0 w (Bl K b it f S n • F)) : ∃ es clock seen, Z8 K f es clock seen S n ∧ V w0 w (dM it (.mapIter (some b) clock seen clock) • dM b (.map es clock) • F) := by
  obtain ⟨⟨es, clock, seen⟩, H⟩ := H.lQ
  obtain ⟨h, H⟩ := H.flat.fact
  exact ⟨es, clock, seen, h, H.flat⟩
theorem V.Gx {seen : Array Nat} (h : Z8 K f es clock seen S n) (H : V w0 w (dM it (.mapIter (some b) clock seen clock) • dM b (.map es clock) • F)) : V w0 w (Bl K b it f S n • F) :=
  V.iD (es, clock, seen) (V.deep (V.kE h (H.of_eq (by ac_rfl))))
theorem V.Eb (H : V w0 w (Bl K b it f S n • F)) : V w0 w (fJ K b f • F) := by
  obtain ⟨es, clock, seen, h, H⟩ := H.Vk
  exact V.KQ h.1 H.right
theorem zW {t kt et : TypeId} (H : V w0 w (fJ K b f • F)) (ht : P.underlying t = some (.map kt et)) (hx : ev L x = some (.map (some b))) :
    uw P L (.range t x) ty w fun v w' => ∃ it n, v = .pointer (some ⟨it, 0, none⟩) ∧ V w0 w' (Bl K b it f [] n • F) := by
  obtain ⟨es, clock, h, H⟩ := H.map
  refine vS (v := .pointer (some ⟨w.heap.size, 0, none⟩)) (w' := w.alloc (.mapIter (some b) clock #[] clock)) ?_ ⟨_, _, rfl, V.Gx ⟨h, ⟨[], by simp, rfl, rfl⟩, rfl⟩ (H.alloc _)⟩
  intro ρ hρ d pos nD g
  simp only [execOp, hρ _ _ hx, Sem.run_bind]
  rw [run_range_map w t kt et b es clock ht H.get.2]
  rfl
def nxV (K : Key α) : Option (α × Value) → Value
  | some (a, u) => .tuple #[.bool true, K.mk a, u]
  | none => .tuple #[.bool false]
def ac3 (f : α → Option Value) (S : List α) (n : Nat) (S' : List α) (n' : Nat) : Option (α × Value) → Prop
  | some (a, u) => f a = some u ∧ a ∉ S ∧ n' < n ∧ S' = S ++ [a]
  | none => S' = S ∧ n' = n ∧ ∀ a u, f a = some u → a ∈ S
theorem XY {es : Array MapEntry} {seen : Array Nat} {e : MapEntry} (he : e ∈ (leftOf es seen).toList) : (leftOf es (seen.push e.born)).size < (leftOf es seen).size := by
  unfold leftOf at *
  rw [Array.toList_filter, List.mem_filter] at he
  have e1 : ∀ q : MapEntry → Bool, (es.filter q).size = (es.toList.filter q).length := fun q => by rw [← Array.toList_filter, Array.length_toList]
  rw [e1, e1]
  refine filter_lt _ _ (fun x hx => ?_) e he.2 ?_ es.toList he.1
  · simp only [Bool.not_eq_true', Array.contains_push, Bool.or_eq_false_iff] at hx ⊢
    exact hx.1
  · simp
theorem BQ (H : V w0 w (Bl K b it f S n • F)) (hx : ev L x = some (.pointer (some ⟨it, 0, none⟩))) :
    uw P L (.next x false) ty w fun v w' => ∃ o S' n', v = nxV K o ∧ ac3 f S n S' n' o ∧ V w0 w' (Bl K b it f S' n' • F) := by
  obtain ⟨es, clock, seen, ⟨hm, ⟨xs, hxs, hse, hS⟩, hn⟩, H⟩ := H.Vk
  have hr := H.get.2
  have hb := H.swap.get.2
  rcases run_next_at (P := P) w ty it b clock clock seen es clock hr hb hm.1.1 (Nat.le_refl _) with ⟨h0, hrun⟩ | ⟨e, he, w1, hw1, hrun⟩
  · refine vS (v := nxV K none) (w' := w) (fun ρ hρ d pos nD g => ?_) ⟨none, S, n, rfl, ⟨rfl, rfl, fun a u ha => ?_⟩, V.Gx ⟨hm, ⟨xs, hxs, hse, hS⟩, hn⟩ H⟩
    · simp only [execOp, hρ _ _ hx, Sem.run_bind]
      rw [hrun]; rfl
    · obtain ⟨y, hy, hyk, _⟩ := (hm.2.2 a u).1 ha
      have hys : seen.contains y.born = true := by
        cases hc : seen.contains y.born with
        | true => rfl
        | false =>
          have hyl : y ∈ (leftOf es seen).toList := by unfold leftOf; rw [Array.toList_filter, List.mem_filter]; exact ⟨hy, by rw [hc]; rfl⟩
          have := List.length_pos_of_mem hyl
          rw [Array.length_toList] at this
          omega
      have abJ : y.born ∈ seen.toList := by simpa using hys
      rw [hse] at abJ
      obtain ⟨q, hq, hqb⟩ := List.mem_map.1 abJ
      have hqy : q = y := Q5 hm.1.2.1 (hxs q hq) hy hqb
      subst hqy
      have : K.mk a ∈ S.map K.mk := by rw [← hS]; exact List.mem_map.2 ⟨q, hq, hyk⟩
      obtain ⟨c, hc, hce⟩ := List.mem_map.1 this
      rw [← K.inj _ _ hce]; exact hc
  · have hel : e ∈ es.toList ∧ seen.contains e.born = false := by
      have := he
      unfold leftOf at this
      rw [Array.toList_filter, List.mem_filter] at this
      exact ⟨this.1, by simpa using this.2⟩
    obtain ⟨a, ha⟩ := K.onto e.key (hm.2.1 e hel.1)
    have hfa : f a = some e.val := (hm.2.2 a e.val).2 ⟨e, hel.1, ha.symm, rfl⟩
    have hns : a ∉ S := fun hs => by
      have : K.mk a ∈ S.map K.mk := List.mem_map.2 ⟨a, hs, rfl⟩
      rw [← hS] at this
      obtain ⟨q, hq, hqk⟩ := List.mem_map.1 this
      have hqe : q = e := hm.same (hxs q hq) hel.1 (hqk.trans ha)
      subst hqe
      have h9 : q.born ∈ seen.toList := by rw [hse]; exact List.mem_map.2 ⟨q, hq, rfl⟩
      have h8 : seen.contains q.born = true := by simpa using h9
      rw [hel.2] at h8; cases h8
    have hval : Val P L (.next x false) ty w (nxV K (some (a, e.val))) (ChangeMaps.setBlock w1 it (.mapIter (some b) clock (seen.push e.born) clock)) := fun ρ hρ d pos nD g => by
      simp only [execOp, hρ _ _ hx, Sem.run_bind]
      rw [hrun]
      simp only [nxV, ha]
      rfl
    have hheap : w1.heap = w.heap := by rcases hw1 with rfl | rfl <;> rfl
    have hr1 : w1.heap[it]? = some (.mapIter (some b) clock seen clock) := by rw [hheap]; exact hr
    refine vS hval ⟨some (a, e.val), S ++ [a], (leftOf es (seen.push e.born)).size, rfl, ⟨hfa, hns, by rw [← hn]; exact XY he, rfl⟩, V.Gx (seen := seen.push e.born) ⟨hm, ⟨xs ++ [e], ?_, ?_, ?_⟩, rfl⟩ (V.setB (w := w1) (o := .mapIter (some b) clock seen clock) ?_ _)⟩
    · intro q hq
      rcases List.mem_append.1 hq with hq | hq
      · exact hxs q hq
      · rw [List.mem_singleton.1 hq]; exact hel.1
    · rw [Array.toList_push, hse, List.map_append]; rfl
    · rw [List.map_append, List.map_append, hS]; simp [ha]
    · rcases hw1 with rfl | rfl
      · exact H
      · exact H.drew
theorem Vl {o : Option (α × Value)} (hx : ev L x = some (nxV K o)) : Val P L (.extract x 0) ty w (.bool o.isSome) w := by
  cases o with
  | none => exact mM hx rfl
  | some p => obtain ⟨a, u⟩ := p; exact mM hx rfl
theorem KR {u : Value} (H : V w0 w (Bl K b it f (S ++ [a]) n • F)) (hf : f a = some u) (hx : ev L x = some (.pointer (some ⟨it, 0, none⟩))) : Val P L (.entry x) ty w (.tuple #[K.mk a, u]) w := by
  obtain ⟨es, clock, seen, ⟨hm, ⟨xs, hxs, hse, hS⟩, hn⟩, H⟩ := H.Vk
  intro ρ hρ d pos nD g
  have hne : xs ≠ [] := by
    rintro rfl
    have := congrArg List.length hS
    simp at this
  obtain ⟨ys, e, rfl⟩ : ∃ ys e, xs = ys ++ [e] := ⟨xs.dropLast, xs.getLast hne, (List.dropLast_concat_getLast hne).symm⟩
  have he : e ∈ es.toList := hxs e (by simp)
  have hk : e.key = K.mk a := by
    rw [List.map_append, List.map_append] at hS
    have := List.append_inj_right' hS rfl
    simpa using this
  have hv : e.val = u := by
    have h9 := (hm.2.2 a e.val).2 ⟨e, he, hk, rfl⟩
    rw [hf] at h9; cases h9; rfl
  have hsp : seen = (ys.map (·.born)).toArray.push e.born := by
    apply Array.ext'
    rw [hse]; simp
  have hr := H.get.2
  rw [hsp] at hr
  simp only [execOp, hρ _ _ hx, Sem.run_bind]
  rw [run_entry_at w it b clock _ es clock e hr H.swap.get.2 he hm.1.2.1, hk, hv]
  rfl
end
end Go.Proofs.YtpdeedplgmbopaaGreatDoor
end
