import Derived.Test.YtpdeedplgmbopaaGreatDoorZ4
import Derived.Test.YtpdeedplgmbopaaGreatDoorZ7
import Derived.Test.YtpdeedplgmbopaaGreatDoorZ6
import Derived.Test.YtpdeedplgmbopaaGreatDoorZ3
import Derived.Maps.RangeRun
set_option linter.unusedSimpArgs false
set_option linter.unusedVariables false
/- Texts of mine, joined, their names in short: UList7 Grp0 Hist EdM Map. -/
section
namespace Go.Proofs.YtpdeedplgmbopaaGreatDoor
open Go.RowKit
open _root_.Go.Proofs.Tryz
theorem SG {G : List (List iT)} {k : Nat} (hk : k < G.length) : G.take (k + 1) = G.take k ++ [G.getD k []] := by
  rw [List.take_succ_eq_append_getElem hk, List.getD_eq_getElem?_getD, List.getElem?_eq_getElem hk]
  rfl
theorem Fv {G : List (List iT)} {g : List iT} (h : g ∈ G) : g.length ≤ (G.map List.length).sum := by
  induction G with
  | nil => cases h
  | cons x G ih =>
    rw [List.map_cons, List.sum_cons]
    rcases List.mem_cons.1 h with rfl | h
    · omega
    · have := ih h; omega
theorem MN {es : List dQ} {l : List iT} (h : es.map dQ.says = l) (hl : ∀ e ∈ l, EB e) : ∀ k, k < es.length → EB (es.getD k default).says := fun k hk =>
  hl _ (by rw [← h]; exact List.mem_map_of_mem (vK hk))
section
variable {w0 w : World} {F : HP} {p : Nat} {G : List (List iT)} {N : List iT} {op : Int}
theorem Gn (H : V w0 w (iP p G N op • F)) : gJ prog 130 #[.pointer (some ⟨p, 0, none⟩)] w fun v w' => ∃ q, v = .pointer (some ⟨q, 0, none⟩) ∧ V w0 w' (iP q G N op • iP p G N op • F) := by
 refine iG func130 ntmps130 ?_
 refine jr O (aP (bT O (dY O func158 (mX H) ?_)))
 rintro _ _ ⟨rfl, rfl⟩
 refine iJ (qF (gq (aP ?_)))
 obtain ⟨AV, yR, nN, mQ, lF, vw, rZ, F8, F9, MH, qH⟩ := (H).yA
 have hLn : mQ.length ≤ 16384 := by omega
 have hBn := MN rZ lF.2.2.2.2.2
 refine aC (nD O O (aV (eY bn O sizeOf235 O O (qH).get.2) (jv (fJ (l := [_, _, _, _, _]) qH zeroValue235 O) ?_)))
 rintro _ w3 ⟨b3, rfl, H3⟩
 refine aH (bU 0 (l' := [_, _, _, _, _]) (us := [_, _, _, _, _]) H3 sizeOf235 O O O (aW (by first | rfl | exact Rd.one ((H3.f3).aS)) (aW (by first | rfl | exact Rd.one ((H3.f5).aS)) (aA (aA (aA bF))))) O O) ?_
 rintro _ w4 H4
 refine qR O (dJ O (bD 0 bn O dh O (bD 1 bG O bH O (fZ aU O (H4.f2).get.2 O (dY O func173 (zV H4.f6.f6 hBn hLn) ?_)))))
 rintro u5 w5 ⟨fs5, ac2, H5⟩
 obtain ⟨es1, rfl⟩ : ∃ q, q = fs5 := ⟨_, rfl⟩
 have hes1 := ac2
 refine bD 0 bn O dh O (bD 0 bG O eU O (aH (XC 0 H5.f5 eU) ?_))
 rintro _ w6 H6
 refine bD 0 bn O dh O (bD 1 bG O bH O (aH (fA 1 (l' := [_, _, _, _, _]) H6 bH O O (by first | rfl | exact Rd.one ((H6.f2).aS)) O O) ?_))
 rintro _ w7 H7
 refine pK (bT O (dJ O (bD 0 bn O dh O (bD 0 bG O eU O (fZ bg O (H7.f6).get.2 O (aV (jw ((H7.f7).aS) bg O) (bP O (iJ (aY ?_)))))))))
 obtain ⟨Y2, Y3, abJ, -⟩ := ((H7.f7).aS).form
 subst abJ
 refine fF [(3, _), (25, _), (26, _)] (fun (k : Nat) => [(27, .int .i64 (k : Int))]) (fun (k : Nat) W => k ≤ nN.length ∧ ∃ gu, ∃ hs : List (Value × List dQ), hs.map (fun g => g.2.map dQ.says) = G.take k ∧ V w0 W (dL b3 (.cells #[gu, u5, .int .i64 op, .int .i64 (iE G N : Nat), .bool true] 235 (0, 0)) • Row 80 1 gu hs.length (hs.map (·.1)) • nK hs • Row 189 3 u5 es1.length (es1.flatMap dQ.enc) • kK es1 • dL p (.cells #[(.slice Y2 (nN.length) Y3), yR, .int .i64 op, .int .i64 (iE G N : Nat), .bool true] 235 (0, 0)) • Row 80 1 (.slice Y2 (nN.length) Y3) nN.length (nN.map (·.1)) • nK nN • Row 189 3 yR mQ.length (mQ.flatMap dQ.enc) • kK mQ • F)) (fun (k : Nat) => nN.length - k) (0) uH lG ⟨by omega, _, [], O, ((H7.f5.f5.f8.f8.f8.f6.f8.f8).F7 none).XL.f5⟩ ?_
 rintro k w9 ⟨hk, gu, hs, U5, HL⟩
 dsimp only [List.cons_append, List.nil_append]
 refine iH (aV (gY O O) (pK (bI O (fun h1 => ?_) (fun h1 => ?_))))
 ·(try simp only [Z] at h1)
  refine gq (aP (aY (iH ?_)))
  obtain ⟨aeq, aer, rfl⟩ := Rd.pos ((HL.f7).aS) (by omega)
  refine aV (dD bg bH O O (by omega)) ?_
  refine aV (eG (bY aU O) O (by first | exact Rd.kX ((HL.f7).aS) (by omega) | exact Rd.uQ ((HL.f7).aS) (by omega) | exact Rd.uG ((HL.f7).aS) (by omega))) ?_
  have hkl : k < nN.length := by omega
  rw [show (nN.map (·.1)).getD k undef = (nN.getD k default).1 from by simp [List.getD_eq_getElem?_getD, hkl]]
  obtain ⟨gl, wQ, hg⟩ : ∃ gl wQ, nN.getD k default = (gl, wQ) := ⟨_, _, rfl⟩
  rw [hg]
  have U6 := HL.f8
  have U7 := U6.Fq hkl hg
  have hge : wQ.map dQ.says = G.getD k [] := by
   rw [← vw]
   have h9 : (nN.map (fun g => g.2.map dQ.says)).getD k [] = (nN.getD k default).2.map dQ.says := by simp [List.getD_eq_getElem?_getD, hkl]
   rw [h9, hg]
  have hgm : G.getD k [] ∈ G := vK (by omega)
  have hBg := MN hge (lF.2.2.2.2.1 _ hgm)
  have hLg : wQ.length ≤ 16384 := by
   have h8 := lF.2.1
   unfold iE at h8
   have h7 := congrArg List.length hge
   rw [List.length_map] at h7
   have h6 := Fv hgm
   omega
  have hhl := congrArg List.length U5
  rw [List.length_map, List.length_take] at hhl
  refine gI O ?_
  have Y4 := U7.drew
  have Gp := V.kp (Y4.f11.f11.f11.f11.f11.f11.f11.f11.f11.f11.f11)
  refine yw [2] Gp O (gU 0 O Gp 0 bn O dh O (gU 1 O Gp 0 bG O eU O (jT 2 O Gp (fun W hW => kC bg O ((Kp.h hW).f3).get.2 O) (jB 3 O Gp O (oq 4 O (yN O func173 (xK Y4 hBg hLg)) ?_)))))
  rintro u12 w12 ⟨U3, Y1, uI⟩
  obtain ⟨es2, rfl⟩ : ∃ q, q = U3 := ⟨_, rfl⟩
  have hes2 := Y1
  have Gh := V.kp (uI.f13.f13.f13.f13.f13.f13.f13.f13.f13.f13.f13.f13.f13)
  refine dV Gh (fun W hW => (Kp.h hW).right.right.f11.f11.f11.f11.f11.f11.f11.f11.f11.f11.f11) ?_
  refine oq 5 O (jR (vs := [_]) uI bg bH lH O O O (by decide) (aW (by first | rfl | exact Rd.one ((uI).aS)) bF)) ?_
  rintro l13 Pj xk
  have uT := V.kp (xk.f14.f14.f14.f14.f14.f14.f14.f14.f14.f14.f14.f14.f14.f14)
  refine dV uT (fun W hW => (Kp.h hW).right.f13.f13.f13.f13.f13.f13.f13.f13.f13.f13.f13.f13.f13) ?_
  refine oq 6 O (fU xk.f7 bg EF O O O ((xk).aS) (aW (by first | rfl | exact Rd.one ((xk.f2).aS)) bF) (by omega) (by omega)) ?_
  rintro l14 RZ Ar
  have Z4 := Ar.f2.right
  have uU := V.kp (Z4.f13.f13.f13.f13.f13.f13.f13.f13.f13.f13.f13.f13.f13)
  refine gV uU (by kernel_rfl) ?_
  refine gU 7 O uU 0 bn O dh O (gU 8 O uU 0 bG O eU O ?_)
  refine fO 9 O (by kernel_rfl) (fA 0 (l' := [_, _, _, _, _]) Z4.f6 eU O O (by first | rfl | exact Rd.one ((Z4).aS)) O O) ?_
  rintro _ w16 yO
  have Di := V.kp (yO.f13.f13.f13.f13.f13.f13.f13.f13.f13.f13.f13.f13.f13)
  refine gV Di (by kernel_rfl) ?_
  have X := V.oP (es := es2) (yO.f5.right.f12.f12.f7.f12.f12.f12.f12.f8.f12.f10.f12.f12).deep
  have HN := (V.qM X.swap).XL.f3
  have hnew : (hs ++ [(u12, es2)]).map (fun g => g.2.map dQ.says) = G.take (k + 1) := by rw [List.map_append, U5, SG (by omega), ← hge, ← hes2]; rfl
  refine qU (aJ (aX (aC (aV (fQ O O (by omega)) (bP O (bM ?_))))))
  refine dK (k + 1) ?_ ?_ ?_ ?_
  ·exact lG
  ·exact uH
  ·(try dsimp only)
   first | done | exact ⟨by omega, _, _, hnew, HN⟩
  ·(try dsimp only); omega
 ·(try simp only [Z] at h1)
  refine dB (aI (aI (bf (aX (jL O (dH results130 O ?_))))))
  rw [List.take_of_length_le (by omega)] at U5
  have X := V.nM (gs := hs) (now := es1) lF U5 (hes1.trans rZ) rfl (HL.f10.f10.f10.f10.f10.f10.f10.f10.f10.f10)
  have Y := V.nM lF vw rZ rfl X.f6.f6.f6.f6.f6
  exact ⟨_, O, Y.swap⟩
end
end Go.Proofs.YtpdeedplgmbopaaGreatDoor
end
section
namespace Go.Proofs.YtpdeedplgmbopaaGreatDoor
open Go.RowKit
def BI (G : List (List iT)) (N : List iT) : List (List iT) := (mG G N).reverse
def KD (N : List iT) : List (List iT) := if N = [] then [] else [N]
theorem U8 (N : List iT) : (KD N).length ≤ 1 := by unfold KD; split <;> simp
theorem XQ (G : List (List iT)) (N : List iT) : BI G N = KD N ++ G.reverse := by
  unfold BI KD mG; split <;> simp
end Go.Proofs.YtpdeedplgmbopaaGreatDoor
end
section
namespace Go.Proofs.YtpdeedplgmbopaaGreatDoor
open Go.RowKit
open _root_.Go.Proofs.Tryz
abbrev pR := ByteArray × Int
def zq (x : pR) : List Value := [.string x.1, .int .i64 x.2]
theorem Ju (x : pR) : (zq x).length = 2 := rfl
def ac3 (x : pR) : Prop := x.1.size ≤ 16384 ∧ 0 ≤ x.2
def HOk (hl : List pR) (base most : Int) : Prop := hl.length ≤ 4096 ∧ 1 ≤ base ∧ base ≤ 4611686018427387904 ∧ (hl.length : Int) ≤ most ∧ most ≤ 4096 ∧ ∀ x ∈ hl, ac3 x
def gK (p : Nat) (hl : List pR) (base most : Int) : HP := rQ fun (v : Value) => fact (HOk hl base most) • dL p (.cells #[v, .int .i64 base, .int .i64 most] 153 (0, 0)) • Row 218 2 v hl.length (hl.flatMap zq)
section
variable {P : Program} {L : List (Nat × Value)} {w0 w : World} {F : HP} {ty : TypeId} {p : Nat} {hl : List pR} {base most : Int} {v : Value}
theorem Gq {t e sz : Nat} {z : Value} (H : V w0 w F) (ht : P.underlying t = some (.slice e)) (hs : ∀ w, (sizeOf e).run P w = .ok sz w) (hz : ∀ w, (zeroValue e).run P w = .ok z w) :
    uz P L (.buildSlice t 0 #[]) ty w fun v w' => V w0 w' (Row e sz v 0 [] • F) := by
  refine vT (v := .slice (some ⟨w.heap.size, 0, none⟩) 0 0) (w' := w.alloc (.cells #[] e)) ?_ ?_
  · intro ρ hρ d pos nC g
    simp only [execOp, Instr.buildSlice, Sem.run_bind, run_underlying ht, Result.andThen_ok, hs]
    have h0 : Array.map (fun (_ : Nat) => (default : Value)) (Array.range 0) = #[] := Array.eq_empty_of_size_eq_zero (by simp)
    simp [Instr.fill, newRow, h0]
  · exact (H.alloc _).right.iO _
theorem V.hist (H : V w0 w (gK p hl base most • F)) : ∃ v, HOk hl base most ∧ V w0 w (dL p (.cells #[v, .int .i64 base, .int .i64 most] 153 (0, 0)) • Row 218 2 v hl.length (hl.flatMap zq) • F) := by
  obtain ⟨v, H⟩ := H.lQ
  obtain ⟨h, H⟩ := H.flat.fact
  exact ⟨v, h, H.flat⟩
theorem V.Dj (h : HOk hl base most) (H : V w0 w (dL p (.cells #[v, .int .i64 base, .int .i64 most] 153 (0, 0)) • Row 218 2 v hl.length (hl.flatMap zq) • F)) : V w0 w (gK p hl base most • F) :=
  V.iy v (V.deep (V.kD h H.deep))
theorem QO {hl : List pR} : ∀ x ∈ hl.flatMap zq, x.oneCell' = true := by
  intro x hx
  obtain ⟨e, _, hx⟩ := List.mem_flatMap.1 hx
  simp [zq] at hx
  rcases hx with rfl | rfl <;> rfl
theorem XR : (prog.info? 218).map (fun i => (i.zero, i.size, i.bytes)) = some (some (.agg #[.string .empty, .int .i64 0]), 2, 24) := by kernel_rfl
theorem KE (H : V w0 w F) (hr : RP w0 F 2 v hl.length (hl.flatMap zq)) (hb : hl.length ≤ 1099511627776) :
    gJ prog 150 #[v] w fun v' w' => V w0 w' (Row 218 2 v' hl.length (hl.flatMap zq) • F) := by
  obtain ⟨hlen, a, c, rfl, h1, h2, h3⟩ := hr w H
  refine iG func150 ntmps150 ?_
  refine jr O (aP (bT O (aV (zG fD O O) ?_)))
  refine je O (fun h1 => ?_) (fun h1 => ?_)
  · (try simp only [Z] at h1)
    refine jL O (aF (dH results150 O ?_))
    obtain rfl : a = none := by simpa using h1
    obtain rfl : hl = [] := by
      cases hl with
      | nil => rfl
      | cons x l => obtain ⟨b, o, e, _⟩ := h3 (by simp); cases e
    exact H.iO none
  · (try simp only [Z] at h1)
    refine gq (iH (jv (Gq H fD sizeOf218 zeroValue218) ?_))
    rintro _ w1 H1
    refine bP O (jv (fU H1 fD XR O O O (hr.under _ H1) QO (by omega) (by omega)) ?_)
    rintro _ w2 H2
    refine fC O (dH results150 O ?_)
    exact H2.of_eq (by rw [Nat.zero_add, List.nil_append])
theorem Bf (H : V w0 w (gK p hl base most • F)) : gJ prog 149 #[.pointer (some ⟨p, 0, none⟩)] w fun v w' => v = .bool false ∧ w = w' := by
 refine iG func149 ntmps149 ?_
 refine jr O (aP ?_)
 obtain ⟨Pz, AY, zD⟩ := (H).hist
 refine aC (bP O (aV (iR jM O O) (jF O (fun h1 => ?_) (fun h1 => ?_))))
 ·(try simp only [Z] at h1)
  exfalso; first | contradiction | omega
 ·(try simp only [Z] at h1)
  refine bC (bP O (bC (dJ O (bC (bD 0 kL O sizeOf151 O (bC (bD 1 kM O sizeOf2 O (bC (fZ underlying2 O (zD).get.2 O (bC (aV (dR O O) (iL O O (fC O (dH results149 O ?_))))))))))))))
  exact ⟨by rw [show (base == 0) = false from by rw [beq_eq_false_iff_ne]; have := AY.2.1; omega], O⟩
theorem KF {n : Int} (H : V w0 w F) (hn : 0 ≤ n ∧ n ≤ 4096) : gJ prog 55 #[.int .i64 n] w fun v w' => ∃ p, v = .tuple #[.pointer (some ⟨p, 0, none⟩), .int .i64 0] ∧ V w0 w' (gK p [] 1 n • F) := by
  refine iG func55 ntmps55 ?_
  refine iH (fV O (wu O (bT O (aV (gY O O) (jF O (fun h1 => ?_) (fun h1 => ?_))))))
  · (try simp only [Z] at h1)
    exfalso; first | contradiction | omega
  · (try simp only [Z] at h1)
    refine bC (bP O (bC (aV (iV O O) (iL O O (je O (fun h2 => ?_) (fun h2 => ?_))))))
    · (try simp only [Z] at h2)
      exfalso; first | contradiction | omega
    · (try simp only [Z] at h2)
      refine gq (bT O (aV (pI (pl := #[(0, 1), (1, 1), (2, 1)]) (#[_, _, _]) kM zeroValue151 (fun w => by kernel_rfl) O (O)) (aV (pI (pl := #[(0, 3)]) (#[_, _, _]) kL zeroValue153 (fun w => by kernel_rfl) O (O)) (jv (iM (l := [_, _, _]) H O O) ?_))))
      rintro _ w1 ⟨b1, rfl, H1⟩
      refine fV O (fC O (LC results55 O O ?_))
      exact ⟨_, O, V.Dj (v := .slice none 0 0) ⟨by simp, by decide, by decide, by simp; omega, by omega, by simp⟩ ((H1.iO none).swap)⟩
theorem nX (H : V w0 w (gK p hl base most • F)) : gJ prog 117 #[.pointer (some ⟨p, 0, none⟩)] w fun v w' => v = .int .i64 hl.length ∧ V w0 w' (gK p hl base most • F) := by
 refine iG func117 ntmps117 ?_
 refine jr O (aP (bT O (dY O func149 (Bf H) ?_)))
 rintro _ _ ⟨rfl, rfl⟩
 refine iJ (qF (gq (aP ?_)))
 obtain ⟨Pz, AY, zD⟩ := (H).hist
 refine aC (nD O O (bD 0 kL O sizeOf151 O (bD 0 kM O sizeOf149 O (fZ fD O (zD).get.2 O (aV (jw ((zD.f2).aS) fD O) (fC O (dH results117 O ?_)))))))
 have O7 := zD.f2.f2
 have OB := V.Dj AY O7
 exact ⟨O, OB⟩
theorem rG (H : V w0 w (gK p hl base most • F)) : gJ prog 109 #[.pointer (some ⟨p, 0, none⟩)] w fun v w' => ∃ q, v = .pointer (some ⟨q, 0, none⟩) ∧ V w0 w' (gK q hl base most • gK p hl base most • F) := by
 refine iG func109 ntmps109 ?_
 refine jr O (aP (bT O (dY O func149 (Bf H) ?_)))
 rintro _ _ ⟨rfl, rfl⟩
 refine iJ (qF (gq (aP ?_)))
 obtain ⟨Pz, AY, zD⟩ := (H).hist
 have hcl := AY.1
 have AX := zD.drew
 have gW := V.kp (AX.f2.f2)
 refine yw [4, 10, 15] gW O (jB 0 O gW O (kJ 1 O gW O (gU 2 O gW 0 kL O sizeOf151 O (gU 3 O gW 0 kM O sizeOf149 O (jT 4 O gW (fun W hW => kC fD O ((Kp.h hW)).get.2 O) (jB 6 O gW O (kJ 7 O gW O (gU 8 O gW 0 kL O sizeOf151 O (gU 9 O gW 1 kM O sizeOf2 O (jT 10 O gW (fun W hW => kC underlying2 O ((Kp.h hW)).get.2 O) (jB 11 O gW O (kJ 12 O gW O (gU 13 O gW 0 kL O sizeOf151 O (gU 14 O gW 2 kM O aj O (jT 15 O gW (fun W hW => kC aK O ((Kp.h hW)).get.2 O) (oq 5 O (yN O func150 (KE AX (fun W HW => (HW.f2).aS) (by omega))) ?_))))))))))))))))
 rintro u3 w3 H3
 have yQ := V.kp (H3.f3.f3.f3)
 refine dV yQ (fun W hW => (Kp.h hW).right.f2.f2) ?_
 obtain ⟨au3, cu3, eu3, -⟩ := ((H3).aS).form
 subst eu3
 refine ji 16 O yQ (fun _ => pI (pl := #[(0, 1), (1, 1), (2, 1)]) (#[_, _, _]) kM zeroValue151 (fun w => by kernel_rfl) O (O)) (ji 17 O yQ (fun _ => pI (pl := #[(0, 3)]) (#[_, _, _]) kL zeroValue153 (fun w => by kernel_rfl) O (O)) (oq 18 O (iM (l := [_, _, _]) H3 O O) ?_))
 rintro _ w4 ⟨b4, rfl, H4⟩
 have xI := V.kp (H4.f4.f4.f4.f4)
 refine gV xI (by kernel_rfl) ?_
 refine ji 19 O xI (fun _ => dN O) (qU (aX (lS (dH results109 O ?_))))
 have XT := H4.f4.f4
 have XU := V.Dj AY XT
 exact ⟨_, O, V.Dj AY XU.f3.f3⟩
end
end Go.Proofs.YtpdeedplgmbopaaGreatDoor
end
section
namespace Go.Proofs.YtpdeedplgmbopaaGreatDoor
open Go.RowKit
def wU {β : Type} (f : Int → β) (a : Int) (v : β) : Int → β := fun x => if x = a then v else f x
theorem nO {β : Type} (f : Int → β) (a : Int) (v : β) : wU f a v a = v := if_pos rfl
theorem tX {β : Type} (f : Int → β) {a x : Int} (v : β) (h : x ≠ a) : wU f a v x = f x := if_neg h
structure mD where
  L : List Int
  pt : Int
  mark : Int
  E : List (List Int)
  at_ : Nat
  place : Int
  tx : Int → Option ByteArray
  un : Int → List (List iT)
  mode : Int
  over : Bool
  last : Int
  fr : Int
  to : Int
  res : Int
  run : Bool
structure dG where
  c : mD
  hl : List pR
  base : Int
  most : Int
  qO : Int
  given : Bool
  minus : Bool
  arg : Int
  inn : Bool
  was : mD
  cls : Int
  killed : Bool
  lI : Bool
  argues : Bool
  whole : Bool
  put : List iT
def MO (hl : List pR) (k : Int) : pR := if 0 ≤ k ∧ k < hl.length then hl.getD k.toNat default else (.empty, 0)
def yX (hl : List pR) (k : Int) : ByteArray := (MO hl k).1
def jl (hl : List pR) (tx : Int → Option ByteArray) (k : Int) : ByteArray := (tx k).getD (yX hl k)
def Au (hl : List pR) (tx : Int → Option ByteArray) (place : Int) (k : Nat) : Bool := decide ((k : Int) ≠ place) && !((jl hl tx k).toList == (yX hl k).toList)
def pU (hl : List pR) (tx : Int → Option ByteArray) (place : Int) (n : Nat) : List (Int × ByteArray) := ((List.range n).filter (Au hl tx place)).map fun (k : Nat) => ((k : Int), jl hl tx k)
def yY (hl : List pR) (tx : Int → Option ByteArray) (place : Int) : List (Int × ByteArray) := pU hl tx place hl.length ++ (if place ≠ hl.length then [((hl.length : Int), jl hl tx hl.length)] else [])
def qx (G : List (List iT)) (inn : Bool) (put : List iT) (typed run : Bool) : Int := (G.length : Int) + if inn && !put.isEmpty && !(typed && run) then 1 else 0
namespace dG
variable (s : dG)
def here : List (List iT) := s.c.un s.c.place
def wE (G : List (List iT)) : dG := { s with c := { s.c with un := wU s.c.un s.c.place G } }
def yB : Int := if s.inn then 0 else 1
def BJ : Int := if s.inn then 1 else 0
def jZ : dG := if s.inn then s else { s with inn := true, was := s.c, cls := 0, killed := false, lI := false, argues := false, whole := true, put := [] }
def lg (on : Bool) : List (List iT) := if s.put = [] then s.here else if on then (match s.here.getLast? with | some g => s.here.dropLast ++ [g ++ s.put] | none => [s.put]) else s.here ++ [s.put]
def gG (on : Bool) : dG := if s.put = [] then s else { s.wE (s.lg on) with put := [] }
def zW : dG := { s with given := false, minus := false, arg := -1 }
def zU (err : Int) : Int := if s.inn then err else 1
def xM : dG := { s.zW with inn := false, c := { s.was with last := 0, fr := 0, to := 0 }, qO := IntKind.i64.wrap (s.qO + 1), put := [] }
def typed : Bool := s.cls == 3 && s.whole
def jU : dG := { (if s.argues then s else s.zW) with inn := false }
def oM : dG :=
  let t := s.jU.gG (s.typed && s.c.run)
  let c := { t.c with run := s.typed && (!s.put.isEmpty || s.c.run), last := s.cls }
  { t with c := if s.cls ≠ 2 then { c with fr := 0, to := 0 } else c }
def BK (err : Int) : dG := if s.inn then (if err = 0 then s.oM else s.xM) else s
def QS (x : iT) : dG :=
  if x.2.1.length + x.2.2.length = 0 then s else
  if 16384 ≤ iE s.here s.put then { s.wE [] with put := [x], c := { (s.wE []).c with run := false } } else { s with put := s.put ++ [x] }
def yZ (L : List Int) (pt mk : Int) : dG := { s with c := { s.c with L := L, pt := pt, mark := mk } }
def KG (i j : Int) (l : List Int) : Int := if s.inn then EC s.c.L i j l else 1
def QT (i j : Int) (l : List Int) : dG := if s.inn then (s.yZ (YV s.c.L i j l) (YW s.c.L s.c.pt i j l) (YX s.c.L s.c.mark i j l)).QS (abn s.c.L i j l, abo s.c.L i j l, abp s.c.L i j l) else s
def ac4 (l : List Int) : Int := s.KG s.c.pt s.c.pt l
def ac5 (l : List Int) : dG := s.QT s.c.pt s.c.pt l
def U9 (l : List Int) : Int := if s.c.over then min (s.c.pt + l.length) s.c.L.length else s.c.pt
def abK (l : List Int) : Int := s.KG s.c.pt (s.U9 l) l
def aes (l : List Int) : dG := if s.inn then (let t := s.QT s.c.pt (s.U9 l) l; if s.abK l = 0 ∧ s.cls = 0 then { t with cls := 3 } else t) else s
def way (back : Bool) : Int := if s.c.last = 1 ∨ s.killed = true then (if back then 2 else 1) else 0
def KH (i j : Int) : Prop := i < 0 ∨ s.c.L.length < i ∨ j < i ∨ s.c.L.length < j
instance (i j : Int) : Decidable (s.KH i j) := by unfold KH; infer_instance
def cut (i j : Int) : List Int := (s.c.L.drop i.toNat).take (j.toNat - i.toNat)
def Va (i j : Int) (back : Bool) : Int × List (List Int) × Nat := abA s.c.E s.c.at_ (s.way back) (s.cut i j)
def QU (i j : Int) (back : Bool) : Int := if s.inn then (if s.KH i j then 70 else (s.Va i j back).1) else 1
def XV (E : List (List Int)) (a : Nat) : dG := { s with c := { s.c with E := E, at_ := a } }
def Y5 (i j : Int) (back : Bool) : dG := if s.QU i j back = 0 then { s.XV (s.Va i j back).2.1 (s.Va i j back).2.2 with killed := true, cls := 1 } else s
def aeu (i j : Int) (back : Bool) : Int := if s.QU i j back = 0 then (s.Y5 i j back).KG i j [] else s.QU i j back
def aev (i j : Int) (back : Bool) : dG := if s.QU i j back = 0 then (s.Y5 i j back).QT i j [] else s
def top : List Int := s.c.E.getD s.c.at_ []
def abL : Int := if s.inn then (if s.c.E.length = 0 then 6 else s.ac4 s.top) else 1
def aew : dG :=
  if s.abL = 0 then
    let t := s.ac5 s.top
    { t with lI := true, cls := 2, c := { t.c with mark := smM t.c.L t.c.mark s.c.pt, fr := s.c.pt, to := s.c.pt + s.top.length } }
  else s
def Z5 (n : Int) : List Int := s.c.E.getD (DY s.c.E.length s.c.at_ n) []
def ac6 (n : Int) : Int := if s.inn then (if s.c.last ≠ 2 ∨ s.lI = true then 6 else if s.c.E.length = 0 then 6 else s.KG s.c.fr s.c.to (s.Z5 n)) else 1
def aeT (n : Int) : dG :=
  if s.ac6 n = 0 then
    let t := s.QT s.c.fr s.c.to (s.Z5 n)
    { t with lI := true, cls := 2, c := { t.c with E := s.c.E, at_ := DY s.c.E.length s.c.at_ n, fr := s.c.fr, to := s.c.fr + (s.Z5 n).length } }
  else s
def kills : List (List Int) := s.c.E.drop s.c.at_ ++ s.c.E.take s.c.at_
def Jv (x : Int) : Int := if s.inn then mvE s.c.L.length x else 1
def EI (x : Int) : dG := if s.inn then s.yZ s.c.L (mvP s.c.L.length s.c.pt x) s.c.mark else s
def aex (x : Int) : Int := if s.inn then smE s.c.L x else 1
def aey (x : Int) : dG := if s.inn then s.yZ s.c.L s.c.pt (smM s.c.L s.c.mark x) else s
def aez : Int := if s.inn then swE s.c.mark else 1
def aeA : dG := if s.inn then s.yZ s.c.L (swP s.c.pt s.c.mark) (swM s.c.pt s.c.mark) else s
def ac7 (b : List Int × Int × Int) (x : iT) : List Int × Int × Int := (acW b.1 x.1 x.2.1 x.2.2, acX b.1 b.2.1 x.1 x.2.1 x.2.2, acY b.1 b.2.2 x.1 x.2.1 x.2.2)
def apps (b : List Int × Int × Int) (l : List iT) : List Int × Int × Int := l.foldl ac7 b
def Y6 (l : List iT) : dG := let b := apps (s.c.L, s.c.pt, s.c.mark) l; s.yZ b.1 b.2.1 b.2.2
def QV : dG := { s with whole := false, c := { s.c with run := false } }
def aeB : dG := if s.inn then (let t := s.gG false; if t.here = [] then t else ((t.wE t.here.dropLast).Y6 ((t.here.getLastD []).reverse.map Gl)).QV) else s
def U0 : Int := if s.inn then (if (s.gG false).here = [] then 6 else 0) else 1
def aeU : dG := if s.inn then (let t := s.gG false; if t.here = [] then t else ((t.wE []).Y6 (t.here.flatten.reverse.map Gl)).QV) else s
def Z7 (d : Int) : Int := if s.inn then (if d < 0 ∨ 9 < d then 1 else 0) else 1
def ac8 (d : Int) : dG := if s.Z7 d = 0 then { s with given := true, argues := true, arg := min (max s.arg 0 * 10 + d) 1000000 } else s
def aeV : dG := if s.inn then { s with given := true, argues := true, minus := !s.minus } else s
def ac9 (n : Int) : Int := if s.inn then (if 1000000 < n ∨ n < -1000000 then 1 else 0) else 1
def aeW (n : Int) : dG := if s.ac9 n = 0 then { s with given := true, argues := true, minus := decide (n < 0), arg := max n (-n) } else s
def count : Int := if s.given then (let n := if s.arg < 0 then 1 else s.arg; if s.minus then -n else n) else 1
def rH (m : Int) : Int := if s.inn then (if m < 0 ∨ 2 < m then 1 else 0) else 1
def yC (m : Int) : dG := if s.rH m = 0 then { s with c := { s.c with mode := m } } else s
def aeC (b : Bool) : dG := if s.inn then { s with c := { s.c with over := b } } else s
def ada (r : Int) : Int := if s.inn then (if r < 1 ∨ 3 < r then 1 else 0) else 1
def aeX (r : Int) : dG := if s.ada r = 0 then { s with c := { s.c with res := r } } else s
def first (k : Int) : ByteArray := yX s.hl k
def stands (k : Int) : ByteArray := (s.c.tx k).getD (s.first k)
def Vb : Int := qx s.here s.inn s.put s.typed s.c.run
def saved : List (Int × ByteArray) := yY s.hl s.c.tx s.c.place
def zu : Int := if s.inn then s.was.last else s.c.last
def TY : Int := if s.inn then s.was.fr else s.c.fr
def Ua : Int := if s.inn then s.was.to else s.c.to
end dG
def mD.fresh (l : List Int) (E : List (List Int)) (a : Nat) (place mode : Int) : mD := ⟨l, l.length, -1, E, a, place, fun _ => none, fun _ => [], mode, false, 0, 0, 0, 0, false⟩
def dG.start (s : dG) (hl : List pR) (base most : Int) (l : List Int) : dG := { s with c := mD.fresh l s.c.E s.c.at_ hl.length s.c.mode, hl := hl, base := base, most := most, given := false, minus := false, arg := -1 }
def dG.new (hl : List pR) (base most : Int) : dG :=
  let c := mD.fresh [] [] 0 hl.length 0
  { c := c, hl := hl, base := base, most := most, qO := 0, given := false, minus := false, arg := -1, inn := false, was := c, cls := 0, killed := false, lI := false, argues := false, whole := false, put := [] }
end Go.Proofs.YtpdeedplgmbopaaGreatDoor
end
section
namespace Go.Proofs.YtpdeedplgmbopaaGreatDoor
open Go.RowKit Go.MapKept
structure Key (α : Type) where
  mkKey ::
  d : TypeDesc
  mk : α → Value
  key : ∀ a, IsKey d (mk a)
  inj : ∀ a b, mk a = mk b → a = b
  onto : ∀ v, IsKey d v → ∃ a, mk a = v
def wF (k : IntKind) : Key Int := ⟨.int k, .int k, fun _ => rfl, fun _ _ h => by cases h; rfl, fun v h => by
  cases v <;> simp [IsKey] at h
  subst h
  exact ⟨_, rfl⟩⟩
abbrev qI : Key Int := wF .i64
abbrev SH : Key Int := wF .i32
def aeY : Key ByteArray := ⟨.string, .string, fun _ => trivial, fun _ _ h => by cases h; rfl, fun v h => by
  cases v <;> simp [IsKey] at h
  exact ⟨_, rfl⟩⟩
section
variable {α : Type} {K : Key α} {f : α → Option Value} {es : Array MapEntry} {clock : Nat}
def Bg (K : Key α) (f : α → Option Value) (es : Array MapEntry) (clock : Nat) : Prop :=
  Stamped es clock ∧ (∀ x ∈ es.toList, IsKey K.d x.key) ∧ ∀ a v, f a = some v ↔ ∃ x ∈ es.toList, x.key = K.mk a ∧ x.val = v
def fG (K : Key α) (b : Nat) (f : α → Option Value) : HP := rQ fun (x : Array MapEntry × Nat) => fact (Bg K f x.1 x.2) • dL b (.map x.1 x.2)
def upd [DecidableEq α] {β : Type} (f : α → Option β) (a : α) (v : β) : α → Option β := fun x => if x = a then some v else f x
theorem Bg.same (h : Bg K f es clock) {x y : MapEntry} (hx : x ∈ es.toList) (hy : y ∈ es.toList) (e : x.key = y.key) : x = y := by
  have hn := h.1.2.2
  rw [List.Nodup, List.pairwise_map] at hn
  exact yD hn hx hy e
where
  yD : ∀ {l : List MapEntry}, l.Pairwise (fun x y => x.key ≠ y.key) → ∀ {x y : MapEntry}, x ∈ l → y ∈ l → x.key = y.key → x = y
    | [], _, _, _, hx, _, _ => by cases hx
    | z :: l, hp, x, y, hx, hy, e => by
      rw [List.pairwise_cons] at hp
      rcases List.mem_cons.1 hx with hx1 | hx1
      · rcases List.mem_cons.1 hy with hy1 | hy1
        · rw [hx1, hy1]
        · exact absurd (by rw [← hx1]; exact e) (hp.1 _ hy1)
      · rcases List.mem_cons.1 hy with hy1 | hy1
        · exact absurd (by rw [← hy1]; exact e.symm) (hp.1 _ hx1)
        · exact yD hp.2 hx1 hy1 e
theorem QW : ∀ {l : List MapEntry}, (l.map (·.born)).Nodup → ∀ {x y : MapEntry}, x ∈ l → y ∈ l → x.born = y.born → x = y
  | [], _, _, _, hx, _, _ => by cases hx
  | z :: l, hp, x, y, hx, hy, e => by
    rw [List.map_cons, List.nodup_cons] at hp
    rcases List.mem_cons.1 hx with hx1 | hx1
    · rcases List.mem_cons.1 hy with hy1 | hy1
      · rw [hx1, hy1]
      · exact absurd (List.mem_map.2 ⟨y, hy1, by rw [← hx1]; exact e.symm⟩) hp.1
    · rcases List.mem_cons.1 hy with hy1 | hy1
      · exact absurd (List.mem_map.2 ⟨x, hx1, by rw [← hy1]; exact e⟩) hp.1
      · exact QW hp.2 hx1 hy1 e
theorem Bg.find (h : Bg K f es clock) (a : α) : (Instr.findNow K.d (K.mk a) es.toList 0 = some none ∧ f a = none ∧ ∀ x ∈ es.toList, x.key ≠ K.mk a) ∨
    ∃ j e, Instr.findNow K.d (K.mk a) es.toList 0 = some (some (j, e.val)) ∧ es.toList[j]? = some e ∧ e.key = K.mk a ∧ f a = some e.val := by
  rcases findNow_spec (K.key a) es.toList 0 h.2.1 with ⟨h1, h2⟩ | ⟨j, e, h1, h2, h3⟩
  · refine .inl ⟨h1, ?_, h2⟩
    cases hf : f a with
    | none => rfl
    | some v =>
      obtain ⟨x, hx, hk, _⟩ := (h.2.2 a v).1 hf
      exact absurd hk (h2 x hx)
  · refine .inr ⟨j, e, by simpa using h1, h2, h3, (h.2.2 a e.val).2 ⟨e, List.mem_of_getElem? h2, h3, rfl⟩⟩
theorem MQ (K : Key α) : Bg K (fun _ => none) #[] 0 := ⟨stamped_empty 0, by simp, by simp⟩
end
section
variable {α : Type} {K : Key α} {f : α → Option Value} {es : Array MapEntry} {clock : Nat} {P : Program} {L : List (Nat × Value)} {w w0 : World} {ty : TypeId} {x y z : Operand} {F : HP} {b it n : Nat} {a : α} {S : List α}
theorem V.map (H : V w0 w (fG K b f • F)) : ∃ es clock, Bg K f es clock ∧ V w0 w (dL b (.map es clock) • F) := by
  obtain ⟨⟨es, clock⟩, H⟩ := H.lQ
  obtain ⟨h, H⟩ := H.flat.fact
  exact ⟨es, clock, h, H⟩
theorem V.KI (h : Bg K f es clock) (H : V w0 w (dL b (.map es clock) • F)) : V w0 w (fG K b f • F) := V.iy (es, clock) (V.deep (V.kD h H))
theorem MR {t kt et : TypeId} {zv : Value} (ok : Bool) (h : Bg K f es clock) (hb : w.heap[b]? = some (.map es clock)) (ht : P.underlying t = some (.map kt et)) (hk : P.underlying kt = some K.d) (hz : (zeroValue et).run P w = .ok zv w) :
    (Instr.lookup t (.map (some b)) (K.mk a) ok).run P w = .ok (if ok then .tuple #[(f a).getD zv, .bool (f a).isSome] else (f a).getD zv) w := by
  rcases h.find a with ⟨h1, h2, _⟩ | ⟨j, e, h1, h2, h3, h4⟩
  · simp [Instr.lookup, run_underlying ht, MapKept.run_getObj_map hb, MapKept.run_checkKey hk (K.key a), MapKept.run_findKey hk h1, hz, Result.andThen, h2]
  · simp [Instr.lookup, run_underlying ht, MapKept.run_getObj_map hb, MapKept.run_checkKey hk (K.key a), MapKept.run_findKey hk h1, Result.andThen, h4]
theorem MS {t kt et : TypeId} {zv : Value} (H : V w0 w (fG K b f • F)) (ht : P.underlying t = some (.map kt et)) (hk : P.underlying kt = some K.d) (hz : ∀ w, (zeroValue et).run P w = .ok zv w)
    (hx : ev L x = some (.map (some b))) (hy : ev L y = some (K.mk a)) : Val P L (.lookup t x y false) ty w ((f a).getD zv) w := fun ρ hρ _ _ _ _ => by
  obtain ⟨es, clock, h, H⟩ := H.map
  simp only [execOp, hρ _ _ hx, hρ _ _ hy, Sem.run_bind]
  rw [MR false h H.get.2 ht hk (hz w)]
  rfl
theorem zX {t kt et : TypeId} {zv : Value} (H : V w0 w (fG K b f • F)) (ht : P.underlying t = some (.map kt et)) (hk : P.underlying kt = some K.d) (hz : ∀ w, (zeroValue et).run P w = .ok zv w)
    (hx : ev L x = some (.map (some b))) (hy : ev L y = some (K.mk a)) : Val P L (.lookup t x y true) ty w (.tuple #[(f a).getD zv, .bool (f a).isSome]) w := fun ρ hρ _ _ _ _ => by
  obtain ⟨es, clock, h, H⟩ := H.map
  simp only [execOp, hρ _ _ hx, hρ _ _ hy, Sem.run_bind]
  rw [MR true h H.get.2 ht hk (hz w)]
  rfl
theorem jH {t : TypeId} (K : Key α) (H : V w0 w F) : uz P L (.makeMap t none) ty w fun v w' => ∃ b, v = .map (some b) ∧ V w0 w' (fG K b (fun _ => none) • F) := by
  refine vT (v := .map (some w.heap.size)) (w' := w.alloc (.map #[] 0)) ?_ ⟨_, rfl, V.KI (MQ K) (H.alloc _)⟩
  intro ρ hρ d pos nC g
  simp only [execOp, Sem.run_bind, Option.map_none]
  rfl
theorem MV {o : Obj} {b : Nat} (h : w.heap[b]? = some o) (o' : Obj) : ({ w with heap := w.heap.setIfInBounds b o' } : World).heap[b]? = some o' ∧ ∀ k, k ≠ b → ({ w with heap := w.heap.setIfInBounds b o' } : World).heap[k]? = w.heap[k]? := by
  have hlt := lt_of_block h
  exact ⟨by simp [hlt], fun k hk => by simp [Ne.symm hk]⟩
theorem V.setB {o : Obj} (H : V w0 w (dL b o • F)) (o' : Obj) : V w0 (ChangeMaps.setBlock w b o') (dL b o' • F) :=
  V.turn (w := w) (w' := ChangeMaps.setBlock w b o') H rfl rfl rfl (by simp [ChangeMaps.setBlock]) (MV H.get.2 o').1 fun k hk _ => (MV H.get.2 o').2 k hk
theorem tY [DecidableEq α] {t kt et : TypeId} {v : Value} (H : V w0 w (fG K b f • F)) (ht : P.underlying t = some (.map kt et)) (hk : P.underlying kt = some K.d)
    (hx : ev L x = some (.map (some b))) (hy : ev L y = some (K.mk a)) (hz : ev L z = some v) : uz P L (.mapUpdate t x y z) ty w fun _ w' => V w0 w' (fG K b (upd f a v) • F) := by
  obtain ⟨es, clock, h, H⟩ := H.map
  have hb := H.get.2
  rcases h.find a with ⟨h1, h2, h3⟩ | ⟨j, e, h1, h2, h3, h4⟩
  · have hrun : (Instr.mapUpdate t (.map (some b)) (K.mk a) v).run P w = .ok () (ChangeMaps.setBlock w b (.map (es.push { key := K.mk a, val := v, born := clock }) (clock + 1))) := by
      simp [ChangeMaps.setBlock, Instr.mapUpdate, run_underlying ht, MapKept.run_getObj_map hb, MapKept.run_checkKey hk (K.key a), MapKept.run_findKey hk h1, MapKept.run_setObj_map _ hb, Result.andThen]
    refine FN (w' := ChangeMaps.setBlock w b (.map (es.push { key := K.mk a, val := v, born := clock }) (clock + 1))) (fun ρ hρ d pos nC g => ?_) (V.KI (es := es.push { key := K.mk a, val := v, born := clock }) (clock := clock + 1) ⟨stamped_push h.1 h3, ?_, ?_⟩ (H.setB _))
    · simp only [execOp, hρ _ _ hx, hρ _ _ hy, hρ _ _ hz, Sem.run_bind]
      rw [hrun]; rfl
    · intro q hq
      simp only [Array.toList_push, List.mem_append, List.mem_singleton] at hq
      rcases hq with hq | rfl
      · exact h.2.1 q hq
      · exact K.key a
    · intro c u
      simp only [Array.toList_push, List.mem_append, List.mem_singleton, upd]
      by_cases hc : c = a
      · subst hc
        rw [if_pos rfl]
        constructor
        · intro hu; cases hu; exact ⟨_, .inr rfl, rfl, rfl⟩
        · rintro ⟨q, hq | rfl, hqk, Vd⟩
          · exact absurd hqk (h3 q hq)
          · rw [← Vd]
      · rw [if_neg hc, h.2.2 c u]
        constructor
        · rintro ⟨q, hq, hqk, Vd⟩; exact ⟨q, .inl hq, hqk, Vd⟩
        · rintro ⟨q, hq | rfl, hqk, Vd⟩
          · exact ⟨q, hq, hqk, Vd⟩
          · exact absurd (K.inj _ _ hqk).symm hc
  · have hj : es[j]? = some e := by simpa using h2
    have hrun : (Instr.mapUpdate t (.map (some b)) (K.mk a) v).run P w = .ok () (ChangeMaps.setBlock w b (.map (es.modify j fun e => { e with key := K.mk a, val := v }) clock)) := by
      simp [ChangeMaps.setBlock, Instr.mapUpdate, run_underlying ht, MapKept.run_getObj_map hb, MapKept.run_checkKey hk (K.key a), MapKept.run_findKey hk h1, hj, h3, MapKept.run_keyThatStays (K.key a), MapKept.run_setObj_map _ hb, Result.andThen]
    have hkey : ∀ e', es[j]? = some e' → ({ e' with key := K.mk a, val := v } : MapEntry).key = e'.key := fun e' he' => by rw [hj] at he'; cases he'; exact h3.symm
    have hst : Stamped (es.modify j fun e => { e with key := K.mk a, val := v }) clock := stamped_modify h.1 _ _ (fun _ _ => rfl) (fun e' _ he' => hkey e' he')
    have hmem : ∀ q, q ∈ (es.modify j fun e => { e with key := K.mk a, val := v }).toList ↔ (q = { e with key := K.mk a, val := v } ∨ q ∈ es.toList ∧ q.key ≠ K.mk a) := by
      intro q
      have hee : e ∈ es.toList := List.mem_of_getElem? h2
      constructor
      · intro hq
        obtain ⟨i, hi⟩ := List.getElem?_of_mem hq
        rw [Array.getElem?_toList, Array.getElem?_modify] at hi
        by_cases hij : j = i
        · subst hij
          rw [if_pos rfl, hj] at hi
          exact .inl (by simpa using hi.symm)
        · rw [if_neg hij] at hi
          have hqm : q ∈ es.toList := Array.mem_toList_iff.2 (Array.mem_of_getElem? hi)
          refine .inr ⟨hqm, fun hqk => ?_⟩
          have he : q = e := h.same hqm hee (hqk.trans h3.symm)
          subst he
          have hn := h.1.2.1
          have h5 : (es.toList.map (·.born))[i]? = some q.born := by rw [List.getElem?_map, Array.getElem?_toList, hi]; rfl
          have h6 : (es.toList.map (·.born))[j]? = some q.born := by rw [List.getElem?_map, h2]; rfl
          have hlt : i < (es.toList.map (·.born)).length := (List.getElem?_eq_some_iff.1 h5).1
          have hlt2 : j < (es.toList.map (·.born)).length := (List.getElem?_eq_some_iff.1 h6).1
          exact hij ((List.getElem?_inj hlt2 hn).1 (h6.trans h5.symm))
      · rintro (rfl | ⟨hq, hqk⟩)
        · apply List.mem_of_getElem? (i := j)
          rw [Array.getElem?_toList, Array.getElem?_modify, if_pos rfl, hj]; rfl
        · obtain ⟨i, hi⟩ := List.getElem?_of_mem hq
          have hij : j ≠ i := by
            rintro rfl
            rw [h2] at hi; cases hi
            exact hqk h3
          apply List.mem_of_getElem? (i := i)
          rw [Array.getElem?_toList, Array.getElem?_modify, if_neg hij]
          rwa [Array.getElem?_toList] at hi
    refine FN (w' := ChangeMaps.setBlock w b (.map (es.modify j fun e => { e with key := K.mk a, val := v }) clock)) (fun ρ hρ d pos nC g => ?_) (V.KI (es := es.modify j fun e => { e with key := K.mk a, val := v }) (clock := clock) ⟨hst, isKey_modify h.2.1 _ _ hkey, ?_⟩ (H.setB _))
    · simp only [execOp, hρ _ _ hx, hρ _ _ hy, hρ _ _ hz, Sem.run_bind]
      rw [hrun]; rfl
    · intro c u
      simp only [hmem, upd]
      by_cases hc : c = a
      · subst hc
        rw [if_pos rfl]
        constructor
        · intro hu; cases hu; exact ⟨_, .inl rfl, rfl, rfl⟩
        · rintro ⟨q, rfl | ⟨hq, hqn⟩, hqk, Vd⟩
          · rw [← Vd]
          · exact absurd hqk hqn
      · rw [if_neg hc, h.2.2 c u]
        constructor
        · rintro ⟨q, hq, hqk, Vd⟩
          exact ⟨q, .inr ⟨hq, fun hqa => hc (K.inj _ _ (hqk.symm.trans hqa))⟩, hqk, Vd⟩
        · rintro ⟨q, rfl | ⟨hq, hqn⟩, hqk, Vd⟩
          · exact absurd (K.inj _ _ hqk).symm hc
          · exact ⟨q, hq, hqk, Vd⟩
def Z8 (K : Key α) (f : α → Option Value) (es : Array MapEntry) (clock : Nat) (seen : Array Nat) (S : List α) (n : Nat) : Prop :=
  Bg K f es clock ∧ (∃ xs : List MapEntry, (∀ x ∈ xs, x ∈ es.toList) ∧ seen.toList = xs.map (·.born) ∧ xs.map (·.key) = S.map K.mk) ∧ (leftOf es seen).size = n
def Bh (K : Key α) (b it : Nat) (f : α → Option Value) (S : List α) (n : Nat) : HP := rQ fun (x : Array MapEntry × Nat × Array Nat) => fact (Z8 K f x.1 x.2.1 x.2.2 S n) • dL it (.mapIter (some b) x.2.1 x.2.2 x.2.1) • dL b (.map x.1 x.2.1)
theorem V.Ve (H : V w0 w (Bh K b it f S n • F)) : ∃ es clock seen, Z8 K f es clock seen S n ∧ V w0 w (dL it (.mapIter (some b) clock seen clock) • dL b (.map es clock) • F) := by
  obtain ⟨⟨es, clock, seen⟩, H⟩ := H.lQ
  obtain ⟨h, H⟩ := H.flat.fact
  exact ⟨es, clock, seen, h, H.flat⟩
theorem V.Gs {seen : Array Nat} (h : Z8 K f es clock seen S n) (H : V w0 w (dL it (.mapIter (some b) clock seen clock) • dL b (.map es clock) • F)) : V w0 w (Bh K b it f S n • F) :=
  V.iy (es, clock, seen) (V.deep (V.kD h (H.of_eq (by ac_rfl))))
theorem V.D7 (H : V w0 w (Bh K b it f S n • F)) : V w0 w (fG K b f • F) := by
  obtain ⟨es, clock, seen, h, H⟩ := H.Ve
  exact V.KI h.1 H.right
theorem zY {t kt et : TypeId} (H : V w0 w (fG K b f • F)) (ht : P.underlying t = some (.map kt et)) (hx : ev L x = some (.map (some b))) :
    uz P L (.range t x) ty w fun v w' => ∃ it n, v = .pointer (some ⟨it, 0, none⟩) ∧ V w0 w' (Bh K b it f [] n • F) := by
  obtain ⟨es, clock, h, H⟩ := H.map
  refine vT (v := .pointer (some ⟨w.heap.size, 0, none⟩)) (w' := w.alloc (.mapIter (some b) clock #[] clock)) ?_ ⟨_, _, rfl, V.Gs ⟨h, ⟨[], by simp, rfl, rfl⟩, rfl⟩ (H.alloc _)⟩
  intro ρ hρ d pos nC g
  simp only [execOp, hρ _ _ hx, Sem.run_bind]
  rw [run_range_map w t kt et b es clock ht H.get.2]
  rfl
def nxV (K : Key α) : Option (α × Value) → Value
  | some (a, u) => .tuple #[.bool true, K.mk a, u]
  | none => .tuple #[.bool false]
def adb (f : α → Option Value) (S : List α) (n : Nat) (S' : List α) (n' : Nat) : Option (α × Value) → Prop
  | some (a, u) => f a = some u ∧ a ∉ S ∧ n' < n ∧ S' = S ++ [a]
  | none => S' = S ∧ n' = n ∧ ∀ a u, f a = some u → a ∈ S
theorem XW {es : Array MapEntry} {seen : Array Nat} {e : MapEntry} (he : e ∈ (leftOf es seen).toList) : (leftOf es (seen.push e.born)).size < (leftOf es seen).size := by
  unfold leftOf at *
  rw [Array.toList_filter, List.mem_filter] at he
  have e1 : ∀ q : MapEntry → Bool, (es.filter q).size = (es.toList.filter q).length := fun q => by rw [← Array.toList_filter, Array.length_toList]
  rw [e1, e1]
  refine filter_lt _ _ (fun x hx => ?_) e he.2 ?_ es.toList he.1
  · simp only [Bool.not_eq_true', Array.contains_push, Bool.or_eq_false_iff] at hx ⊢
    exact hx.1
  · simp
theorem BL (H : V w0 w (Bh K b it f S n • F)) (hx : ev L x = some (.pointer (some ⟨it, 0, none⟩))) :
    uz P L (.next x false) ty w fun v w' => ∃ o S' n', v = nxV K o ∧ adb f S n S' n' o ∧ V w0 w' (Bh K b it f S' n' • F) := by
  obtain ⟨es, clock, seen, ⟨hm, ⟨xs, hxs, hse, hS⟩, hn⟩, H⟩ := H.Ve
  have hr := H.get.2
  have hb := H.swap.get.2
  rcases run_next_at (P := P) w ty it b clock clock seen es clock hr hb hm.1.1 (Nat.le_refl _) with ⟨h0, hrun⟩ | ⟨e, he, w1, hw1, hrun⟩
  · refine vT (v := nxV K none) (w' := w) (fun ρ hρ d pos nC g => ?_) ⟨none, S, n, rfl, ⟨rfl, rfl, fun a u ha => ?_⟩, V.Gs ⟨hm, ⟨xs, hxs, hse, hS⟩, hn⟩ H⟩
    · simp only [execOp, hρ _ _ hx, Sem.run_bind]
      rw [hrun]; rfl
    · obtain ⟨y, hy, hyk, _⟩ := (hm.2.2 a u).1 ha
      have hys : seen.contains y.born = true := by
        cases hc : seen.contains y.born with
        | true => rfl
        | false =>
          have hyl : y ∈ (leftOf es seen).toList := by unfold leftOf; rw [Array.toList_filter, List.mem_filter]; exact ⟨hy, by rw [hc]; rfl⟩
          have := List.length_pos_of_mem hyl
          rw [Array.length_toList] at this
          omega
      have abM : y.born ∈ seen.toList := by simpa using hys
      rw [hse] at abM
      obtain ⟨q, hq, hqb⟩ := List.mem_map.1 abM
      have hqy : q = y := QW hm.1.2.1 (hxs q hq) hy hqb
      subst hqy
      have : K.mk a ∈ S.map K.mk := by rw [← hS]; exact List.mem_map.2 ⟨q, hq, hyk⟩
      obtain ⟨c, hc, hce⟩ := List.mem_map.1 this
      rw [← K.inj _ _ hce]; exact hc
  · have hel : e ∈ es.toList ∧ seen.contains e.born = false := by
      have := he
      unfold leftOf at this
      rw [Array.toList_filter, List.mem_filter] at this
      exact ⟨this.1, by simpa using this.2⟩
    obtain ⟨a, ha⟩ := K.onto e.key (hm.2.1 e hel.1)
    have hfa : f a = some e.val := (hm.2.2 a e.val).2 ⟨e, hel.1, ha.symm, rfl⟩
    have hns : a ∉ S := fun hs => by
      have : K.mk a ∈ S.map K.mk := List.mem_map.2 ⟨a, hs, rfl⟩
      rw [← hS] at this
      obtain ⟨q, hq, hqk⟩ := List.mem_map.1 this
      have hqe : q = e := hm.same (hxs q hq) hel.1 (hqk.trans ha)
      subst hqe
      have h9 : q.born ∈ seen.toList := by rw [hse]; exact List.mem_map.2 ⟨q, hq, rfl⟩
      have h8 : seen.contains q.born = true := by simpa using h9
      rw [hel.2] at h8; cases h8
    have hval : Val P L (.next x false) ty w (nxV K (some (a, e.val))) (ChangeMaps.setBlock w1 it (.mapIter (some b) clock (seen.push e.born) clock)) := fun ρ hρ d pos nC g => by
      simp only [execOp, hρ _ _ hx, Sem.run_bind]
      rw [hrun]
      simp only [nxV, ha]
      rfl
    have hheap : w1.heap = w.heap := by rcases hw1 with rfl | rfl <;> rfl
    have hr1 : w1.heap[it]? = some (.mapIter (some b) clock seen clock) := by rw [hheap]; exact hr
    refine vT hval ⟨some (a, e.val), S ++ [a], (leftOf es (seen.push e.born)).size, rfl, ⟨hfa, hns, by rw [← hn]; exact XW he, rfl⟩, V.Gs (seen := seen.push e.born) ⟨hm, ⟨xs ++ [e], ?_, ?_, ?_⟩, rfl⟩ (V.setB (w := w1) (o := .mapIter (some b) clock seen clock) ?_ _)⟩
    · intro q hq
      rcases List.mem_append.1 hq with hq | hq
      · exact hxs q hq
      · rw [List.mem_singleton.1 hq]; exact hel.1
    · rw [Array.toList_push, hse, List.map_append]; rfl
    · rw [List.map_append, List.map_append, hS]; simp [ha]
    · rcases hw1 with rfl | rfl
      · exact H
      · exact H.drew
theorem Vf {o : Option (α × Value)} (hx : ev L x = some (nxV K o)) : Val P L (.extract x 0) ty w (.bool o.isSome) w := by
  cases o with
  | none => exact mJ hx rfl
  | some p => obtain ⟨a, u⟩ := p; exact mJ hx rfl
theorem KJ {u : Value} (H : V w0 w (Bh K b it f (S ++ [a]) n • F)) (hf : f a = some u) (hx : ev L x = some (.pointer (some ⟨it, 0, none⟩))) : Val P L (.entry x) ty w (.tuple #[K.mk a, u]) w := by
  obtain ⟨es, clock, seen, ⟨hm, ⟨xs, hxs, hse, hS⟩, hn⟩, H⟩ := H.Ve
  intro ρ hρ d pos nC g
  have hne : xs ≠ [] := by
    rintro rfl
    have := congrArg List.length hS
    simp at this
  obtain ⟨ys, e, rfl⟩ : ∃ ys e, xs = ys ++ [e] := ⟨xs.dropLast, xs.getLast hne, (List.dropLast_concat_getLast hne).symm⟩
  have he : e ∈ es.toList := hxs e (by simp)
  have hk : e.key = K.mk a := by
    rw [List.map_append, List.map_append] at hS
    have := List.append_inj_right' hS rfl
    simpa using this
  have hv : e.val = u := by
    have h9 := (hm.2.2 a e.val).2 ⟨e, he, hk, rfl⟩
    rw [hf] at h9; cases h9; rfl
  have hsp : seen = (ys.map (·.born)).toArray.push e.born := by
    apply Array.ext'
    rw [hse]; simp
  have hr := H.get.2
  rw [hsp] at hr
  simp only [execOp, hρ _ _ hx, Sem.run_bind]
  rw [run_entry_at w it b clock _ es clock e hr H.swap.get.2 he hm.1.2.1, hk, hv]
  rfl
end
end Go.Proofs.YtpdeedplgmbopaaGreatDoor
end
